import Derived.Test.YtfhpihomdnbgpaaBO
import Derived.Test.YtfhpihomdnbgpaaGd
namespace Go.Proofs.Po
open Go.GX
set_option linter.unusedVariables false
set_option maxRecDepth 100000
@[reducible] def KTo21 : Ty := (.pair (.vsl (.int .i64)) KTo2)
@[reducible] def KTo22 : Ty := (.pair (.int .i64) KTo21)
@[reducible] def KTo23 : Ty := (.pair (.arr 64 KTo8) KTo22)
@[reducible] def KTo24 : Ty := (.pair (.arr 11 KTo6) KTo23)
noncomputable def kn18g : Kn := kOf [(38, smG [.p ODo12] ODo12 1 F38g G38g)]
theorem knOK18g : KOK Tryo.prog kn18g := (KOK.cons Tryo.call38 sm38g_ok KOK.nil)
noncomputable def C18g : Cx := CxL Tryo.Θ kn18g (lOf [])
theorem CxOK18g : CxOK Tryo.prog C18g := ⟨Tryo.tabOK, knOK18g, by kernel_rfl, POK.none⟩
theorem LOK18g : LOK Tryo.prog C18g 1 (bodyF Tryo.f18) := LOK.void (fun _ => rfl)
noncomputable def E18g : Yb9 → Option KDo14 := fun x => S18g F38g G38g  x.1
noncomputable def F18g : Yb9 → KDo14 := fun x => (E18g x).getD (Dk.dflt ODo0)
noncomputable def G18g : Yb9 → Bool := fun x => (E18g x).isSome
theorem sm18g_ok : SmOK Tryo.prog 18 (smG [.im ODo0] ODo0 1 F18g G18g) := SmOK.smG (n1 := 1) (by kernel_rfl) (GOK.ofS (pts := [.im ODo0]) (n1 := 1) (D := ODo0) (n2 := 1) (S := E18g) CxOK18g Tryo.func18 (LOK.fn LOK18g) (by kernel_rfl) (fun x => t18g F38g G38g  x.1))
noncomputable def kn44 : Kn := kOf []
theorem knOK44 : KOK Tryo.prog kn44 := KOK.nil
noncomputable def C44 : Cx := CxL Tryo.Θ kn44 (lOf [])
theorem CxOK44 : CxOK Tryo.prog C44 := ⟨Tryo.tabOK, knOK44, by kernel_rfl, POK.none⟩
theorem LOK44 : LOK Tryo.prog C44 0 (bodyF Tryo.f44) := (Lall.LOK rfl (by kernel_rfl) trivial)
noncomputable def E44 : (Yb3 × Unit) → Option Yb3 := fun x => S44   x.1
noncomputable def F44 : (Yb3 × Unit) → Yb3 := fun x => (E44 x).getD (dflt KTo6)
noncomputable def G44 : (Yb3 × Unit) → Bool := fun x => (E44 x).isSome
theorem p44 : ∀ x, G44 x = true → PureOK Tryo.prog 44 (mkA [KTo6] x) ⟨KTo6, F44 x⟩ :=
 PureOK.ofS (ts := [KTo6]) (T := KTo6) (S := E44) CxOK44 Tryo.func44 (LOK.fn LOK44) (fun x => t44   x.1)
noncomputable def kn48 : Kn := kOf []
theorem knOK48 : KOK Tryo.prog kn48 := KOK.nil
noncomputable def C48 : Cx := CxL Tryo.Θ kn48 (lOf [])
theorem CxOK48 : CxOK Tryo.prog C48 := ⟨Tryo.tabOK, knOK48, by kernel_rfl, POK.none⟩
theorem LOK48 : LOK Tryo.prog C48 1 (bodyF Tryo.f48) := LOK.void (fun _ => rfl)
noncomputable def E48 : Yb13 → Option Yb3 := fun x => S48   x.1 x.2.1
noncomputable def F48 : Yb13 → Yb3 := fun x => (E48 x).getD (Dk.dflt (.v KTo6))
noncomputable def G48 : Yb13 → Bool := fun x => (E48 x).isSome
theorem sm48_ok : SmOK Tryo.prog 48 (smG [.p (.v KTo6), .bx 0 (.int .i64)] (.v KTo6) 0 F48 G48) := SmOK.smG (n1 := 1) (by kernel_rfl) (GOK.ofS (pts := [.p (.v KTo6), .bx 0 (.int .i64)]) (n1 := 1) (D := (.v KTo6)) (n2 := 0) (S := E48) CxOK48 Tryo.func48 (LOK.fn LOK48) (by kernel_rfl) (fun x => t48   x.1 x.2.1))
noncomputable def kn43b : Kn := kOf [(18, smG [.im ODo0] ODo0 1 F18g G18g), (44, sm [KTo6] KTo6 F44 G44)]
theorem knOK43b : KOK Tryo.prog kn43b := (KOK.cons Tryo.call18 sm18g_ok (KOK.cons Tryo.call44 (SmOK.sm p44) KOK.nil))
noncomputable def V43b_0 : Yb5 → Option (Yb5 ⊕ Yb8) := fun x => R43b_0 F18g G18g F44 G44 (fun _ => ((), (), (), ([], ([], (0, ([], (0, ()))))), ([], ([], (0, ([], (0, ()))))), ())) (fun _ => false) (fun _ => ((), (), ([], ([], (0, ([], (0, ()))))), ([], ([], (0, ([], (0, ()))))), ())) (fun _ => false) x.1 x.2.1 x.2.2.1 x.2.2.2.1 x.2.2.2.2.1 x.2.2.2.2.2.1 x.2.2.2.2.2.2.1
noncomputable def W43b_0 : Yb5 → Yb8 := whV (hd := hd43b_0) (ys := ys43b_0) V43b_0
noncomputable def Q43b_0 : Yb5 → Bool := whK (hd := hd43b_0) (ys := ys43b_0) V43b_0
noncomputable def V43b_2 : Yb4 → Option (Yb4 ⊕ Yb11) := fun x => R43b_2 F18g G18g F44 G44 W43b_0 Q43b_0 (fun _ => ((), (), ([], ([], (0, ([], (0, ()))))), ([], ([], (0, ([], (0, ()))))), ())) (fun _ => false) x.1 x.2.1 x.2.2.1 x.2.2.2.1 x.2.2.2.2.1 x.2.2.2.2.2.1 x.2.2.2.2.2.2.1
noncomputable def W43b_2 : Yb4 → Yb11 := whV (hd := hd43b_2) (ys := ys43b_2) V43b_2
noncomputable def Q43b_2 : Yb4 → Bool := whK (hd := hd43b_2) (ys := ys43b_2) V43b_2
noncomputable def C43b : Cx := CxL Tryo.Θ kn43b (lOf [(0, orc 58 28 0 hd43b_0 ys43b_0 W43b_0 Q43b_0), (2, orc 58 52 2 hd43b_2 ys43b_2 W43b_2 Q43b_2)])
theorem CxOK43b : CxOK Tryo.prog C43b := ⟨Tryo.tabOK, knOK43b, by kernel_rfl, POK.none⟩
theorem l43b_0 : Lone Tryo.prog C43b 0 (.loop (loopB 0 (bodyF Tryo.f43))) (orc 58 28 0 hd43b_0 ys43b_0 W43b_0 Q43b_0) 1 :=
 Lone.of CxOK43b (Lall.LOK rfl (by kernel_rfl) (Lall.skip (by kernel_rfl) (Lall.skip (by kernel_rfl) trivial))) (by kernel_rfl) (fun x => (r43b_0 F18g G18g F44 G44 W43b_0 Q43b_0 W43b_2 Q43b_2 x.1 x.2.1 x.2.2.1 x.2.2.2.1 x.2.2.2.2.1 x.2.2.2.2.2.1 x.2.2.2.2.2.2.1).trans (by first | (delta V43b_0 R43b_0; with_reducible rfl) | rfl))
theorem l43b_2 : Lone Tryo.prog C43b 2 (.loop (loopB 2 (bodyF Tryo.f43))) (orc 58 52 2 hd43b_2 ys43b_2 W43b_2 Q43b_2) 1 :=
 Lone.of CxOK43b (Lall.LOK rfl (by kernel_rfl) (Lall.skip (by kernel_rfl) (Lall.skip (by kernel_rfl) trivial))) (by kernel_rfl) (fun x => (r43b_2 F18g G18g F44 G44 W43b_0 Q43b_0 W43b_2 Q43b_2 x.1 x.2.1 x.2.2.1 x.2.2.2.1 x.2.2.2.2.1 x.2.2.2.2.2.1 x.2.2.2.2.2.2.1).trans (by first | (delta V43b_2 R43b_2; with_reducible rfl) | rfl))
theorem LOK43b : LOK Tryo.prog C43b 1 (bodyF Tryo.f43) := (Lall.LOK rfl (by kernel_rfl) (Lall.cons (by kernel_rfl) l43b_0 (Lall.cons (by kernel_rfl) l43b_2 trivial)))
noncomputable def E43b : (KDo14 × (Unit) × Unit) → Option KDo14 := fun x => S43b F18g G18g F44 G44 W43b_0 Q43b_0 W43b_2 Q43b_2 x.1 x.2.1
noncomputable def F43b : (KDo14 × (Unit) × Unit) → KDo14 := fun x => (E43b x).getD (Dk.dflt ODo0)
noncomputable def G43b : (KDo14 × (Unit) × Unit) → Bool := fun x => (E43b x).isSome
theorem sm43b_ok : SmOK Tryo.prog 43 (smG [.im ODo0, .cl 44 []] ODo0 1 F43b G43b) := SmOK.smG (n1 := 1) (by kernel_rfl) (GOK.ofS (pts := [.im ODo0, .cl 44 []]) (n1 := 1) (D := ODo0) (n2 := 1) (S := E43b) CxOK43b Tryo.func43 (LOK.fn LOK43b) (by kernel_rfl) (fun x => t43b F18g G18g F44 G44 W43b_0 Q43b_0 W43b_2 Q43b_2 x.1 x.2.1))
noncomputable def kn43c : Kn := kOf [(18, smG [.im ODo0] ODo0 1 F18g G18g), (48, smG [.p (.v KTo6), .bx 0 (.int .i64)] (.v KTo6) 0 F48 G48)]
theorem knOK43c : KOK Tryo.prog kn43c := (KOK.cons Tryo.call18 sm18g_ok (KOK.cons Tryo.call48 sm48_ok KOK.nil))
noncomputable def V43c_0 : Yb2 → Option (Yb2 ⊕ Yb7) := fun x => R43c_0 F18g G18g F48 G48 (fun _ => ((), (), (), 0, ([], ([], (0, ([], (0, ()))))), ([], ([], (0, ([], (0, ()))))), ())) (fun _ => false) (fun _ => ((), (), ([], ([], (0, ([], (0, ()))))), ([], ([], (0, ([], (0, ()))))), ())) (fun _ => false) x.1 x.2.1 x.2.2.1 x.2.2.2.1 x.2.2.2.2.1 x.2.2.2.2.2.1 x.2.2.2.2.2.2.1 x.2.2.2.2.2.2.2.1
noncomputable def W43c_0 : Yb2 → Yb7 := whV (hd := hd43c_0) (ys := ys43c_0) V43c_0
noncomputable def Q43c_0 : Yb2 → Bool := whK (hd := hd43c_0) (ys := ys43c_0) V43c_0
noncomputable def V43c_2 : Yb1 → Option (Yb1 ⊕ Yb10) := fun x => R43c_2 F18g G18g F48 G48 W43c_0 Q43c_0 (fun _ => ((), (), ([], ([], (0, ([], (0, ()))))), ([], ([], (0, ([], (0, ()))))), ())) (fun _ => false) x.1 x.2.1 x.2.2.1 x.2.2.2.1 x.2.2.2.2.1 x.2.2.2.2.2.1 x.2.2.2.2.2.2.1 x.2.2.2.2.2.2.2.1
noncomputable def W43c_2 : Yb1 → Yb10 := whV (hd := hd43c_2) (ys := ys43c_2) V43c_2
noncomputable def Q43c_2 : Yb1 → Bool := whK (hd := hd43c_2) (ys := ys43c_2) V43c_2
noncomputable def C43c : Cx := CxL Tryo.Θ kn43c (lOf [(0, orc 58 29 0 hd43c_0 ys43c_0 W43c_0 Q43c_0), (2, orc 58 53 2 hd43c_2 ys43c_2 W43c_2 Q43c_2)])
theorem CxOK43c : CxOK Tryo.prog C43c := ⟨Tryo.tabOK, knOK43c, by kernel_rfl, POK.none⟩
theorem l43c_0 : Lone Tryo.prog C43c 0 (.loop (loopB 0 (bodyF Tryo.f43))) (orc 58 29 0 hd43c_0 ys43c_0 W43c_0 Q43c_0) 2 :=
 Lone.of CxOK43c (Lall.LOK rfl (by kernel_rfl) (Lall.skip (by kernel_rfl) (Lall.skip (by kernel_rfl) trivial))) (by kernel_rfl) (fun x => (r43c_0 F18g G18g F48 G48 W43c_0 Q43c_0 W43c_2 Q43c_2 x.1 x.2.1 x.2.2.1 x.2.2.2.1 x.2.2.2.2.1 x.2.2.2.2.2.1 x.2.2.2.2.2.2.1 x.2.2.2.2.2.2.2.1).trans (by first | (delta V43c_0 R43c_0; with_reducible rfl) | rfl))
theorem l43c_2 : Lone Tryo.prog C43c 2 (.loop (loopB 2 (bodyF Tryo.f43))) (orc 58 53 2 hd43c_2 ys43c_2 W43c_2 Q43c_2) 2 :=
 Lone.of CxOK43c (Lall.LOK rfl (by kernel_rfl) (Lall.skip (by kernel_rfl) (Lall.skip (by kernel_rfl) trivial))) (by kernel_rfl) (fun x => (r43c_2 F18g G18g F48 G48 W43c_0 Q43c_0 W43c_2 Q43c_2 x.1 x.2.1 x.2.2.1 x.2.2.2.1 x.2.2.2.2.1 x.2.2.2.2.2.1 x.2.2.2.2.2.2.1 x.2.2.2.2.2.2.2.1).trans (by first | (delta V43c_2 R43c_2; with_reducible rfl) | rfl))
theorem LOK43c : LOK Tryo.prog C43c 2 (bodyF Tryo.f43) := (Lall.LOK rfl (by kernel_rfl) (Lall.cons (by kernel_rfl) l43c_0 (Lall.cons (by kernel_rfl) l43c_2 trivial)))
noncomputable def E43c : Yb14 → Option KDo14 := fun x => S43c F18g G18g F48 G48 W43c_0 Q43c_0 W43c_2 Q43c_2 x.1 x.2.1
noncomputable def F43c : Yb14 → KDo14 := fun x => (E43c x).getD (Dk.dflt ODo0)
noncomputable def G43c : Yb14 → Bool := fun x => (E43c x).isSome
theorem sm43c_ok : SmOK Tryo.prog 43 (smG [.im ODo0, .cl 48 [(1, (.int .i64))]] ODo0 1 F43c G43c) := SmOK.smG (n1 := 2) (by kernel_rfl) (GOK.ofS (pts := [.im ODo0, .cl 48 [(1, (.int .i64))]]) (n1 := 2) (D := ODo0) (n2 := 1) (S := E43c) CxOK43c Tryo.func43 (LOK.fn LOK43c) (by kernel_rfl) (fun x => t43c F18g G18g F48 G48 W43c_0 Q43c_0 W43c_2 Q43c_2 x.1 x.2.1))
noncomputable def kn22 : Kn := kOf [(43, smG [.im ODo0, .cl 44 []] ODo0 1 F43b G43b)]
theorem knOK22 : KOK Tryo.prog kn22 := (KOK.cons Tryo.call43 sm43b_ok KOK.nil)
noncomputable def C22 : Cx := CxL Tryo.Θ kn22 (lOf [])
theorem CxOK22 : CxOK Tryo.prog C22 := ⟨Tryo.tabOK, knOK22, by kernel_rfl, POK.none⟩
theorem LOK22 : LOK Tryo.prog C22 1 (bodyF Tryo.f22) := LOK.void (fun _ => rfl)
noncomputable def E22 : Yb9 → Option KDo14 := fun x => S22 F43b G43b  x.1
noncomputable def F22 : Yb9 → KDo14 := fun x => (E22 x).getD (Dk.dflt ODo0)
noncomputable def G22 : Yb9 → Bool := fun x => (E22 x).isSome
theorem p22 : ∀ x, G22 x = true → PureOK Tryo.prog 22 (mkA [KTo24] x) ⟨KTo24, F22 x⟩ := PureOK.ofW (pts := [.im ODo0]) (n1 := 1) (D := ODo0) (S := E22) CxOK22 Tryo.func22 (LOK.fn LOK22) (by kernel_rfl) (fun x => t22 F43b G43b  x.1)
noncomputable def kn61 : Kn := kOf []
theorem knOK61 : KOK Tryo.prog kn61 := KOK.nil
noncomputable def C61 : Cx := CxL Tryo.Θ kn61 (lOf [])
theorem CxOK61 : CxOK Tryo.prog C61 := ⟨Tryo.tabOK, knOK61, by kernel_rfl, POK.none⟩
theorem LOK61 : LOK Tryo.prog C61 1 (bodyF Tryo.f61) := LOK.void (fun _ => rfl)
noncomputable def E61 : Yb12 → Option Bool := fun x => S61   x.1 x.2.1
noncomputable def F61 : Yb12 → Bool := fun x => (E61 x).getD (Dk.dflt (.v .bool))
noncomputable def G61 : Yb12 → Bool := fun x => (E61 x).isSome
theorem sm61_ok : SmOK Tryo.prog 61 (smG [.p (.v (.int .i64)), .bx 0 (.int .i64)] (.v .bool) 0 F61 G61) := SmOK.smG (n1 := 1) (by kernel_rfl) (GOK.ofS (pts := [.p (.v (.int .i64)), .bx 0 (.int .i64)]) (n1 := 1) (D := (.v .bool)) (n2 := 0) (S := E61) CxOK61 Tryo.func61 (LOK.fn LOK61) (by kernel_rfl) (fun x => t61   x.1 x.2.1))
noncomputable def kn70 : Kn := kOf [(61, smG [.p (.v (.int .i64)), .bx 0 (.int .i64)] (.v .bool) 0 F61 G61)]
theorem knOK70 : KOK Tryo.prog kn70 := (KOK.cons Tryo.call61 sm61_ok KOK.nil)
noncomputable def V70_0 : Yb0 → Option (Yb0 ⊕ ((Unit) ⊕ (Int × Unit))) := fun x => R70_0 F61 G61 (fun _ => (Sum.inl (()))) (fun _ => false) x.1 x.2.1 x.2.2.1 x.2.2.2.1 x.2.2.2.2.1
noncomputable def W70_0 : Yb0 → ((Unit) ⊕ (Int × Unit)) := whV (hd := hd70_0) (ys := ys70_0) V70_0
noncomputable def Q70_0 : Yb0 → Bool := whK (hd := hd70_0) (ys := ys70_0) V70_0
noncomputable def C70 : Cx := CxL Tryo.Θl kn70 (lOf [(0, orc 19 25 0 hd70_0 ys70_0 W70_0 Q70_0)])
theorem CxOK70 : CxOK Tryo.prog C70 := ⟨Tryo.tabOKl, knOK70, by kernel_rfl, POK.none⟩
theorem l70_0 : Lone Tryo.prog C70 0 (.loop (loopB 0 (bodyF Tryo.f70))) (orc 19 25 0 hd70_0 ys70_0 W70_0 Q70_0) 1 :=
 Lone.of CxOK70 (Lall.LOK rfl (by kernel_rfl) (Lall.skip (by kernel_rfl) trivial)) (by kernel_rfl) (fun x => (r70_0 F61 G61 W70_0 Q70_0 x.1 x.2.1 x.2.2.1 x.2.2.2.1 x.2.2.2.2.1).trans (by first | (delta V70_0 R70_0; with_reducible rfl) | rfl))
theorem LOK70 : LOK Tryo.prog C70 1 (bodyF Tryo.f70) := (Lall.LOK rfl (by kernel_rfl) (Lall.cons (by kernel_rfl) l70_0 trivial))
noncomputable def E70 : Yb6 → Option Int := fun x => S70 F61 G61 W70_0 Q70_0 x.1 x.2.1
noncomputable def F70 : Yb6 → Int := fun x => (E70 x).getD (Dk.dflt (.v (.int .i64)))
noncomputable def G70 : Yb6 → Bool := fun x => (E70 x).isSome
theorem sm70_ok : SmOK Tryo.prog 70 (smG [.p ODo12, .cl 61 [(0, (.int .i64))]] (.v (.int .i64)) 0 F70 G70) := SmOK.smG (n1 := 1) (by kernel_rfl) (GOK.ofS (pts := [.p ODo12, .cl 61 [(0, (.int .i64))]]) (n1 := 1) (D := (.v (.int .i64))) (n2 := 0) (S := E70) CxOK70 Tryo.func70 (LOK.fn LOK70) (by kernel_rfl) (fun x => t70 F61 G61 W70_0 Q70_0 x.1 x.2.1))
noncomputable def kn60 : Kn := kOf [(61, smG [.p (.v (.int .i64)), .bx 0 (.int .i64)] (.v .bool) 0 F61 G61), (70, smG [.p ODo12, .cl 61 [(0, (.int .i64))]] (.v (.int .i64)) 0 F70 G70)]
theorem knOK60 : KOK Tryo.prog kn60 := (KOK.cons Tryo.call61 sm61_ok (KOK.cons Tryo.call70 sm70_ok KOK.nil))
noncomputable def V60_0 : Yb0 → Option (Yb0 ⊕ ((List Int) × Int × Unit)) := fun x => R60_0 F61 G61 F70 G70 (fun _ => ([], 0, ())) (fun _ => false) x.1 x.2.1 x.2.2.1 x.2.2.2.1 x.2.2.2.2.1
noncomputable def W60_0 : Yb0 → ((List Int) × Int × Unit) := whV (hd := hd60_0) (ys := ys60_0) V60_0
noncomputable def Q60_0 : Yb0 → Bool := whK (hd := hd60_0) (ys := ys60_0) V60_0
noncomputable def C60 : Cx := CxL Tryo.Θ kn60 (lOf [(0, orc 42 26 0 hd60_0 ys60_0 W60_0 Q60_0)])
theorem CxOK60 : CxOK Tryo.prog C60 := ⟨Tryo.tabOK, knOK60, by kernel_rfl, POK.none⟩
theorem l60_0 : Lone Tryo.prog C60 0 (.loop (loopB 0 (bodyF Tryo.f60))) (orc 42 26 0 hd60_0 ys60_0 W60_0 Q60_0) 2 :=
 Lone.of CxOK60 (Lall.LOK rfl (by kernel_rfl) (Lall.skip (by kernel_rfl) trivial)) (by kernel_rfl) (fun x => (r60_0 F61 G61 F70 G70 W60_0 Q60_0 x.1 x.2.1 x.2.2.1 x.2.2.2.1 x.2.2.2.2.1).trans (by first | (delta V60_0 R60_0; with_reducible rfl) | rfl))
theorem LOK60 : LOK Tryo.prog C60 2 (bodyF Tryo.f60) := (Lall.LOK rfl (by kernel_rfl) (Lall.cons (by kernel_rfl) l60_0 trivial))
noncomputable def E60 : Yb6 → Option (List Int) := fun x => S60 F61 G61 F70 G70 W60_0 Q60_0 x.1 x.2.1
noncomputable def F60 : Yb6 → (List Int) := fun x => (E60 x).getD (Dk.dflt ODo12)
noncomputable def G60 : Yb6 → Bool := fun x => (E60 x).isSome
theorem sm60_ok : SmOK Tryo.prog 60 (smG [.mv ODo12, .cl 61 [(1, (.int .i64))]] ODo12 1 F60 G60) := SmOK.smG (n1 := 2) (by kernel_rfl) (GOK.ofS (pts := [.mv ODo12, .cl 61 [(1, (.int .i64))]]) (n1 := 2) (D := ODo12) (n2 := 1) (S := E60) CxOK60 Tryo.func60 (LOK.fn LOK60) (by kernel_rfl) (fun x => t60 F61 G61 F70 G70 W60_0 Q60_0 x.1 x.2.1))
noncomputable def kn47 : Kn := kOf [(60, smG [.mv ODo12, .cl 61 [(1, (.int .i64))]] ODo12 1 F60 G60)]
theorem knOK47 : KOK Tryo.prog kn47 := (KOK.cons Tryo.call60 sm60_ok KOK.nil)
noncomputable def C47 : Cx := CxL Tryo.Θ kn47 (lOf [])
theorem CxOK47 : CxOK Tryo.prog C47 := ⟨Tryo.tabOK, knOK47, by kernel_rfl, POK.none⟩
theorem LOK47 : LOK Tryo.prog C47 1 (bodyF Tryo.f47) := LOK.void (fun _ => rfl)
noncomputable def E47 : (KDo14 × Int × Unit) → Option KDo14 := fun x => S47 F60 G60  x.1 x.2.1
noncomputable def F47 : (KDo14 × Int × Unit) → KDo14 := fun x => (E47 x).getD (Dk.dflt ODo0)
noncomputable def G47 : (KDo14 × Int × Unit) → Bool := fun x => (E47 x).isSome
theorem sm47_ok : SmOK Tryo.prog 47 (smG [.mv ODo0, .p (.v (.int .i64))] ODo0 1 F47 G47) := SmOK.smG (n1 := 1) (by kernel_rfl) (GOK.ofS (pts := [.mv ODo0, .p (.v (.int .i64))]) (n1 := 1) (D := ODo0) (n2 := 1) (S := E47) CxOK47 Tryo.func47 (LOK.fn LOK47) (by kernel_rfl) (fun x => t47 F60 G60  x.1 x.2.1))
noncomputable def kn26 : Kn := kOf [(43, smG [.im ODo0, .cl 48 [(1, (.int .i64))]] ODo0 1 F43c G43c), (47, smG [.mv ODo0, .p (.v (.int .i64))] ODo0 1 F47 G47)]
theorem knOK26 : KOK Tryo.prog kn26 := (KOK.cons Tryo.call43 sm43c_ok (KOK.cons Tryo.call47 sm47_ok KOK.nil))
noncomputable def C26 : Cx := CxL Tryo.Θ kn26 (lOf [(3000003, fun _ => [])])
theorem CxOK26 : CxOK Tryo.prog C26 := ⟨Tryo.tabOK, knOK26, by kernel_rfl, POK.none⟩
theorem LOK26 : LOK Tryo.prog C26 1 (bodyF Tryo.f26) := (Lall.LOK rfl (by kernel_rfl) (Lall.skip (by kernel_rfl) trivial))
noncomputable def E26 : (KDo14 × Int × Unit) → Option KDo14 := fun x => S26 F43c G43c F47 G47  x.1 x.2.1
noncomputable def F26 : (KDo14 × Int × Unit) → KDo14 := fun x => (E26 x).getD (Dk.dflt ODo0)
noncomputable def G26 : (KDo14 × Int × Unit) → Bool := fun x => (E26 x).isSome
theorem p26 : ∀ x, G26 x = true → PureOK Tryo.prog 26 (mkA [KTo24, (.int .i64)] x) ⟨KTo24, F26 x⟩ := PureOK.ofW (pts := [.im ODo0, .p (.v (.int .i64))]) (n1 := 1) (D := ODo0) (S := E26) CxOK26 Tryo.func26 (LOK.fn LOK26) (by kernel_rfl) (fun x => t26 F43c G43c F47 G47  x.1 x.2.1)
end Go.Proofs.Po
