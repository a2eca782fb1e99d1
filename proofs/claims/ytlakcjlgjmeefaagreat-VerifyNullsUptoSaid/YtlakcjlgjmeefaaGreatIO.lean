import Derived.Test.YtlakcjlgjmeefaaGreatBO
import Derived.Test.YtlakcjlgjmeefaaGreatGd
namespace Go.Proofs.Nu
open Go.GX
set_option linter.unusedVariables false
set_option maxRecDepth 100000
@[reducible] def KTo19 : Ty := (.pair (.vsl (.int .i64)) KTo2)
@[reducible] def KTo20 : Ty := (.pair (.int .i64) KTo19)
@[reducible] def KTo21 : Ty := (.pair (.arr 64 KTo8) KTo20)
@[reducible] def KTo22 : Ty := (.pair (.arr 11 KTo6) KTo21)
noncomputable def kn35g : Kn := kOf [(69, smG [.p ODo7] ODo7 1 F69g G69g)]
theorem knOK35g : KOK Tryo.prog kn35g := (KOK.cons Tryo.call69 sm69g_ok KOK.nil)
noncomputable def C35g : Cx := CxL Tryo.Θ kn35g (lOf [])
theorem CxOK35g : CxOK Tryo.prog C35g := ⟨Tryo.tabOK, knOK35g, by kernel_rfl, POK.none⟩
theorem LOK35g : LOK Tryo.prog C35g 1 (bodyF Tryo.f35) := LOK.void (fun _ => rfl)
noncomputable def E35g : (KDo14 × Unit) → Option KDo14 := fun x => S35g F69g G69g  x.1
noncomputable def F35g : (KDo14 × Unit) → KDo14 := fun x => (E35g x).getD (Dk.dflt ODo0)
noncomputable def G35g : (KDo14 × Unit) → Bool := fun x => (E35g x).isSome
theorem sm35g_ok : SmOK Tryo.prog 35 (smG [.im ODo0] ODo0 1 F35g G35g) := SmOK.smG (n1 := 1) (by kernel_rfl) (GOK.ofS (pts := [.im ODo0]) (n1 := 1) (D := ODo0) (n2 := 1) (S := E35g) CxOK35g Tryo.func35 (LOK.fn LOK35g) (by kernel_rfl) (fun x => t35g F69g G69g  x.1))
noncomputable def kn146 : Kn := kOf [(47, sm [(.int .u64)] (.pair KTo1 KTo1) F47 G47)]
theorem knOK146 : KOK Tryo.prog kn146 := (KOK.cons Tryo.call47 (SmOK.sm p47) KOK.nil)
noncomputable def C146 : Cx := CxL Tryo.Θ kn146 (lOf [])
theorem CxOK146 : CxOK Tryo.prog C146 := ⟨Tryo.tabOK, knOK146, by kernel_rfl, POK.none⟩
theorem LOK146 : LOK Tryo.prog C146 2 (bodyF Tryo.f146) := LOK.void (fun _ => rfl)
noncomputable def E146 : ((Int × (KDo9 × KDo10)) × Int × Bool × Unit) → Option (Int × (KDo9 × KDo10)) := fun x => S146 F47 G47  x.1 x.2.1 x.2.2.1
noncomputable def F146 : ((Int × (KDo9 × KDo10)) × Int × Bool × Unit) → (Int × (KDo9 × KDo10)) := fun x => (E146 x).getD (Dk.dflt (.v KTo6))
noncomputable def G146 : ((Int × (KDo9 × KDo10)) × Int × Bool × Unit) → Bool := fun x => (E146 x).isSome
theorem sm146_ok : SmOK Tryo.prog 146 (smG [.p (.v KTo6), .bx 0 (.int .i64), .bx 1 .bool] (.v KTo6) 0 F146 G146) := SmOK.smG (n1 := 2) (by kernel_rfl) (GOK.ofS (pts := [.p (.v KTo6), .bx 0 (.int .i64), .bx 1 .bool]) (n1 := 2) (D := (.v KTo6)) (n2 := 0) (S := E146) CxOK146 Tryo.func146 (LOK.fn LOK146) (by kernel_rfl) (fun x => t146 F47 G47  x.1 x.2.1 x.2.2.1))
noncomputable def kn139a : Kn := kOf [(35, smG [.im ODo0] ODo0 1 F35g G35g), (146, smG [.p (.v KTo6), .bx 0 (.int .i64), .bx 1 .bool] (.v KTo6) 0 F146 G146)]
theorem knOK139a : KOK Tryo.prog kn139a := (KOK.cons Tryo.call35 sm35g_ok (KOK.cons Tryo.call146 sm146_ok KOK.nil))
noncomputable def V139a_0 : (Unit × Unit × Unit × KDo11 × Int × Int × Bool × KDo15 × KDo16 × Unit) → Option ((Unit × Unit × Unit × KDo11 × Int × Int × Bool × KDo15 × KDo16 × Unit) ⊕ (Unit × Unit × Unit × Int × Bool × KDo15 × KDo16 × Unit)) := fun x => R139a_0 F35g G35g F146 G146 (fun _ => ((), (), (), 0, false, ([], ([], (0, ([], (0, ()))))), ([], ([], (0, ([], (0, ()))))), ())) (fun _ => false) (fun _ => ((), (), ([], ([], (0, ([], (0, ()))))), ([], ([], (0, ([], (0, ()))))), ())) (fun _ => false) x.1 x.2.1 x.2.2.1 x.2.2.2.1 x.2.2.2.2.1 x.2.2.2.2.2.1 x.2.2.2.2.2.2.1 x.2.2.2.2.2.2.2.1 x.2.2.2.2.2.2.2.2.1
noncomputable def W139a_0 : (Unit × Unit × Unit × KDo11 × Int × Int × Bool × KDo15 × KDo16 × Unit) → (Unit × Unit × Unit × Int × Bool × KDo15 × KDo16 × Unit) := whV (hd := hd139a_0) (ys := ys139a_0) V139a_0
noncomputable def Q139a_0 : (Unit × Unit × Unit × KDo11 × Int × Int × Bool × KDo15 × KDo16 × Unit) → Bool := whK (hd := hd139a_0) (ys := ys139a_0) V139a_0
noncomputable def V139a_2 : (Unit × Unit × Unit × KDo13 × Int × Int × Bool × KDo17 × KDo18 × Unit) → Option ((Unit × Unit × Unit × KDo13 × Int × Int × Bool × KDo17 × KDo18 × Unit) ⊕ (Unit × Unit × KDo17 × KDo18 × Unit)) := fun x => R139a_2 F35g G35g F146 G146 W139a_0 Q139a_0 (fun _ => ((), (), ([], ([], (0, ([], (0, ()))))), ([], ([], (0, ([], (0, ()))))), ())) (fun _ => false) x.1 x.2.1 x.2.2.1 x.2.2.2.1 x.2.2.2.2.1 x.2.2.2.2.2.1 x.2.2.2.2.2.2.1 x.2.2.2.2.2.2.2.1 x.2.2.2.2.2.2.2.2.1
noncomputable def W139a_2 : (Unit × Unit × Unit × KDo13 × Int × Int × Bool × KDo17 × KDo18 × Unit) → (Unit × Unit × KDo17 × KDo18 × Unit) := whV (hd := hd139a_2) (ys := ys139a_2) V139a_2
noncomputable def Q139a_2 : (Unit × Unit × Unit × KDo13 × Int × Int × Bool × KDo17 × KDo18 × Unit) → Bool := whK (hd := hd139a_2) (ys := ys139a_2) V139a_2
noncomputable def C139a : Cx := CxL Tryo.Θ kn139a (lOf [(0, orc 58 30 0 hd139a_0 ys139a_0 W139a_0 Q139a_0), (2, orc 58 54 2 hd139a_2 ys139a_2 W139a_2 Q139a_2)])
theorem CxOK139a : CxOK Tryo.prog C139a := ⟨Tryo.tabOK, knOK139a, by kernel_rfl, POK.none⟩
theorem l139a_0 : Lone Tryo.prog C139a 0 (.loop (loopB 0 (bodyF Tryo.f139))) (orc 58 30 0 hd139a_0 ys139a_0 W139a_0 Q139a_0) 3 :=
  Lone.of CxOK139a (Lall.LOK rfl (by kernel_rfl) (Lall.skip (by kernel_rfl) (Lall.skip (by kernel_rfl) trivial))) (by kernel_rfl) (fun x => (r139a_0 F35g G35g F146 G146 W139a_0 Q139a_0 W139a_2 Q139a_2 x.1 x.2.1 x.2.2.1 x.2.2.2.1 x.2.2.2.2.1 x.2.2.2.2.2.1 x.2.2.2.2.2.2.1 x.2.2.2.2.2.2.2.1 x.2.2.2.2.2.2.2.2.1).trans (by first | (delta V139a_0 R139a_0; with_reducible rfl) | rfl))
theorem l139a_2 : Lone Tryo.prog C139a 2 (.loop (loopB 2 (bodyF Tryo.f139))) (orc 58 54 2 hd139a_2 ys139a_2 W139a_2 Q139a_2) 3 :=
  Lone.of CxOK139a (Lall.LOK rfl (by kernel_rfl) (Lall.skip (by kernel_rfl) (Lall.skip (by kernel_rfl) trivial))) (by kernel_rfl) (fun x => (r139a_2 F35g G35g F146 G146 W139a_0 Q139a_0 W139a_2 Q139a_2 x.1 x.2.1 x.2.2.1 x.2.2.2.1 x.2.2.2.2.1 x.2.2.2.2.2.1 x.2.2.2.2.2.2.1 x.2.2.2.2.2.2.2.1 x.2.2.2.2.2.2.2.2.1).trans (by first | (delta V139a_2 R139a_2; with_reducible rfl) | rfl))
theorem LOK139a : LOK Tryo.prog C139a 3 (bodyF Tryo.f139) := (Lall.LOK rfl (by kernel_rfl) (Lall.cons (by kernel_rfl) l139a_0 (Lall.cons (by kernel_rfl) l139a_2 trivial)))
noncomputable def E139a : (KDo14 × (Int × Bool × Unit) × Unit) → Option KDo14 := fun x => S139a F35g G35g F146 G146 W139a_0 Q139a_0 W139a_2 Q139a_2 x.1 x.2.1
noncomputable def F139a : (KDo14 × (Int × Bool × Unit) × Unit) → KDo14 := fun x => (E139a x).getD (Dk.dflt ODo0)
noncomputable def G139a : (KDo14 × (Int × Bool × Unit) × Unit) → Bool := fun x => (E139a x).isSome
theorem sm139a_ok : SmOK Tryo.prog 139 (smG [.im ODo0, .cl 146 [(1, (.int .i64)), (2, .bool)]] ODo0 1 F139a G139a) := SmOK.smG (n1 := 3) (by kernel_rfl) (GOK.ofS (pts := [.im ODo0, .cl 146 [(1, (.int .i64)), (2, .bool)]]) (n1 := 3) (D := ODo0) (n2 := 1) (S := E139a) CxOK139a Tryo.func139 (LOK.fn LOK139a) (by kernel_rfl) (fun x => t139a F35g G35g F146 G146 W139a_0 Q139a_0 W139a_2 Q139a_2 x.1 x.2.1))
noncomputable def kn195 : Kn := kOf []
theorem knOK195 : KOK Tryo.prog kn195 := KOK.nil
noncomputable def C195 : Cx := CxL Tryo.Θ kn195 (lOf [])
theorem CxOK195 : CxOK Tryo.prog C195 := ⟨Tryo.tabOK, knOK195, by kernel_rfl, POK.none⟩
theorem LOK195 : LOK Tryo.prog C195 1 (bodyF Tryo.f195) := LOK.void (fun _ => rfl)
noncomputable def E195 : (Int × Int × Unit) → Option Bool := fun x => S195   x.1 x.2.1
noncomputable def F195 : (Int × Int × Unit) → Bool := fun x => (E195 x).getD (Dk.dflt (.v .bool))
noncomputable def G195 : (Int × Int × Unit) → Bool := fun x => (E195 x).isSome
theorem sm195_ok : SmOK Tryo.prog 195 (smG [.p (.v (.int .i64)), .bx 0 (.int .i64)] (.v .bool) 0 F195 G195) := SmOK.smG (n1 := 1) (by kernel_rfl) (GOK.ofS (pts := [.p (.v (.int .i64)), .bx 0 (.int .i64)]) (n1 := 1) (D := (.v .bool)) (n2 := 0) (S := E195) CxOK195 Tryo.func195 (LOK.fn LOK195) (by kernel_rfl) (fun x => t195   x.1 x.2.1))
noncomputable def kn238 : Kn := kOf [(195, smG [.p (.v (.int .i64)), .bx 0 (.int .i64)] (.v .bool) 0 F195 G195)]
theorem knOK238 : KOK Tryo.prog kn238 := (KOK.cons Tryo.call195 sm195_ok KOK.nil)
noncomputable def V238_0 : ((List Int) × Unit × Int × Int × Int × Unit) → Option (((List Int) × Unit × Int × Int × Int × Unit) ⊕ ((Unit) ⊕ (Int × Unit))) := fun x => R238_0 F195 G195 (fun _ => (Sum.inl (()))) (fun _ => false) x.1 x.2.1 x.2.2.1 x.2.2.2.1 x.2.2.2.2.1
noncomputable def W238_0 : ((List Int) × Unit × Int × Int × Int × Unit) → ((Unit) ⊕ (Int × Unit)) := whV (hd := hd238_0) (ys := ys238_0) V238_0
noncomputable def Q238_0 : ((List Int) × Unit × Int × Int × Int × Unit) → Bool := whK (hd := hd238_0) (ys := ys238_0) V238_0
noncomputable def C238 : Cx := CxL Tryo.Θl kn238 (lOf [(0, orc 19 25 0 hd238_0 ys238_0 W238_0 Q238_0)])
theorem CxOK238 : CxOK Tryo.prog C238 := ⟨Tryo.tabOKl, knOK238, by kernel_rfl, POK.none⟩
theorem l238_0 : Lone Tryo.prog C238 0 (.loop (loopB 0 (bodyF Tryo.f238))) (orc 19 25 0 hd238_0 ys238_0 W238_0 Q238_0) 1 :=
  Lone.of CxOK238 (Lall.LOK rfl (by kernel_rfl) (Lall.skip (by kernel_rfl) trivial)) (by kernel_rfl) (fun x => (r238_0 F195 G195 W238_0 Q238_0 x.1 x.2.1 x.2.2.1 x.2.2.2.1 x.2.2.2.2.1).trans (by first | (delta V238_0 R238_0; with_reducible rfl) | rfl))
theorem LOK238 : LOK Tryo.prog C238 1 (bodyF Tryo.f238) := (Lall.LOK rfl (by kernel_rfl) (Lall.cons (by kernel_rfl) l238_0 trivial))
noncomputable def E238 : ((List Int) × (Int × Unit) × Unit) → Option Int := fun x => S238 F195 G195 W238_0 Q238_0 x.1 x.2.1
noncomputable def F238 : ((List Int) × (Int × Unit) × Unit) → Int := fun x => (E238 x).getD (Dk.dflt (.v (.int .i64)))
noncomputable def G238 : ((List Int) × (Int × Unit) × Unit) → Bool := fun x => (E238 x).isSome
theorem sm238_ok : SmOK Tryo.prog 238 (smG [.p ODo7, .cl 195 [(0, (.int .i64))]] (.v (.int .i64)) 0 F238 G238) := SmOK.smG (n1 := 1) (by kernel_rfl) (GOK.ofS (pts := [.p ODo7, .cl 195 [(0, (.int .i64))]]) (n1 := 1) (D := (.v (.int .i64))) (n2 := 0) (S := E238) CxOK238 Tryo.func238 (LOK.fn LOK238) (by kernel_rfl) (fun x => t238 F195 G195 W238_0 Q238_0 x.1 x.2.1))
noncomputable def kn194 : Kn := kOf [(195, smG [.p (.v (.int .i64)), .bx 0 (.int .i64)] (.v .bool) 0 F195 G195), (238, smG [.p ODo7, .cl 195 [(0, (.int .i64))]] (.v (.int .i64)) 0 F238 G238)]
theorem knOK194 : KOK Tryo.prog kn194 := (KOK.cons Tryo.call195 sm195_ok (KOK.cons Tryo.call238 sm238_ok KOK.nil))
noncomputable def V194_0 : ((List Int) × Unit × Int × Int × Int × Unit) → Option (((List Int) × Unit × Int × Int × Int × Unit) ⊕ ((List Int) × Int × Unit)) := fun x => R194_0 F195 G195 F238 G238 (fun _ => ([], 0, ())) (fun _ => false) x.1 x.2.1 x.2.2.1 x.2.2.2.1 x.2.2.2.2.1
noncomputable def W194_0 : ((List Int) × Unit × Int × Int × Int × Unit) → ((List Int) × Int × Unit) := whV (hd := hd194_0) (ys := ys194_0) V194_0
noncomputable def Q194_0 : ((List Int) × Unit × Int × Int × Int × Unit) → Bool := whK (hd := hd194_0) (ys := ys194_0) V194_0
noncomputable def C194 : Cx := CxL Tryo.Θ kn194 (lOf [(0, orc 42 26 0 hd194_0 ys194_0 W194_0 Q194_0)])
theorem CxOK194 : CxOK Tryo.prog C194 := ⟨Tryo.tabOK, knOK194, by kernel_rfl, POK.none⟩
theorem l194_0 : Lone Tryo.prog C194 0 (.loop (loopB 0 (bodyF Tryo.f194))) (orc 42 26 0 hd194_0 ys194_0 W194_0 Q194_0) 2 :=
  Lone.of CxOK194 (Lall.LOK rfl (by kernel_rfl) (Lall.skip (by kernel_rfl) trivial)) (by kernel_rfl) (fun x => (r194_0 F195 G195 F238 G238 W194_0 Q194_0 x.1 x.2.1 x.2.2.1 x.2.2.2.1 x.2.2.2.2.1).trans (by first | (delta V194_0 R194_0; with_reducible rfl) | rfl))
theorem LOK194 : LOK Tryo.prog C194 2 (bodyF Tryo.f194) := (Lall.LOK rfl (by kernel_rfl) (Lall.cons (by kernel_rfl) l194_0 trivial))
noncomputable def E194 : ((List Int) × (Int × Unit) × Unit) → Option (List Int) := fun x => S194 F195 G195 F238 G238 W194_0 Q194_0 x.1 x.2.1
noncomputable def F194 : ((List Int) × (Int × Unit) × Unit) → (List Int) := fun x => (E194 x).getD (Dk.dflt ODo7)
noncomputable def G194 : ((List Int) × (Int × Unit) × Unit) → Bool := fun x => (E194 x).isSome
theorem sm194_ok : SmOK Tryo.prog 194 (smG [.mv ODo7, .cl 195 [(1, (.int .i64))]] ODo7 1 F194 G194) := SmOK.smG (n1 := 2) (by kernel_rfl) (GOK.ofS (pts := [.mv ODo7, .cl 195 [(1, (.int .i64))]]) (n1 := 2) (D := ODo7) (n2 := 1) (S := E194) CxOK194 Tryo.func194 (LOK.fn LOK194) (by kernel_rfl) (fun x => t194 F195 G195 F238 G238 W194_0 Q194_0 x.1 x.2.1))
noncomputable def kn142 : Kn := kOf [(194, smG [.mv ODo7, .cl 195 [(1, (.int .i64))]] ODo7 1 F194 G194)]
theorem knOK142 : KOK Tryo.prog kn142 := (KOK.cons Tryo.call194 sm194_ok KOK.nil)
noncomputable def C142 : Cx := CxL Tryo.Θ kn142 (lOf [])
theorem CxOK142 : CxOK Tryo.prog C142 := ⟨Tryo.tabOK, knOK142, by kernel_rfl, POK.none⟩
theorem LOK142 : LOK Tryo.prog C142 1 (bodyF Tryo.f142) := LOK.void (fun _ => rfl)
noncomputable def E142 : (KDo14 × Int × Unit) → Option KDo14 := fun x => S142 F194 G194  x.1 x.2.1
noncomputable def F142 : (KDo14 × Int × Unit) → KDo14 := fun x => (E142 x).getD (Dk.dflt ODo0)
noncomputable def G142 : (KDo14 × Int × Unit) → Bool := fun x => (E142 x).isSome
theorem sm142_ok : SmOK Tryo.prog 142 (smG [.mv ODo0, .p (.v (.int .i64))] ODo0 1 F142 G142) := SmOK.smG (n1 := 1) (by kernel_rfl) (GOK.ofS (pts := [.mv ODo0, .p (.v (.int .i64))]) (n1 := 1) (D := ODo0) (n2 := 1) (S := E142) CxOK142 Tryo.func142 (LOK.fn LOK142) (by kernel_rfl) (fun x => t142 F194 G194  x.1 x.2.1))
noncomputable def kn103 : Kn := kOf [(139, smG [.im ODo0, .cl 146 [(1, (.int .i64)), (2, .bool)]] ODo0 1 F139a G139a), (142, smG [.mv ODo0, .p (.v (.int .i64))] ODo0 1 F142 G142)]
theorem knOK103 : KOK Tryo.prog kn103 := (KOK.cons Tryo.call139 sm139a_ok (KOK.cons Tryo.call142 sm142_ok KOK.nil))
noncomputable def C103 : Cx := CxL Tryo.Θ kn103 (lOf [])
theorem CxOK103 : CxOK Tryo.prog C103 := ⟨Tryo.tabOK, knOK103, by kernel_rfl, POK.none⟩
theorem LOK103 : LOK Tryo.prog C103 1 (bodyF Tryo.f103) := LOK.void (fun _ => rfl)
noncomputable def E103 : (KDo14 × Int × Bool × Unit) → Option KDo14 := fun x => S103 F139a G139a F142 G142  x.1 x.2.1 x.2.2.1
noncomputable def F103 : (KDo14 × Int × Bool × Unit) → KDo14 := fun x => (E103 x).getD (Dk.dflt ODo0)
noncomputable def G103 : (KDo14 × Int × Bool × Unit) → Bool := fun x => (E103 x).isSome
theorem p103 : ∀ x, G103 x = true → PureOK Tryo.prog 103 (mkA [KTo22, (.int .i64), .bool] x) ⟨KTo22, F103 x⟩ := PureOK.ofW (pts := [.im ODo0, .p (.v (.int .i64)), .p (.v .bool)]) (n1 := 1) (D := ODo0) (S := E103) CxOK103 Tryo.func103 (LOK.fn LOK103) (by kernel_rfl) (fun x => t103 F139a G139a F142 G142  x.1 x.2.1 x.2.2.1)
end Go.Proofs.Nu
