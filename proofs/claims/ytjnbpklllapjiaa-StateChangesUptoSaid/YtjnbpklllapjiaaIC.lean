import Derived.Test.YtjnbpklllapjiaaBC
import Derived.Test.YtjnbpklllapjiaaGe
namespace Go.Proofs
open Go.GX
set_option linter.unusedVariables false
set_option maxRecDepth 100000
noncomputable def kn17 : Kn := kOf []
theorem knOK17 : KOK Try.prog kn17 := KOK.nil
noncomputable def C17 : Cx := CxL Try.Θl kn17 (lOf [])
theorem CxOK17 : CxOK Try.prog C17 := ⟨Try.tabOKl, knOK17, by kernel_rfl, POK.none⟩
theorem LOK17 : LOK Try.prog C17 0 (bodyF Try.f17) := (Lall.LOK rfl (by kernel_rfl) trivial)
noncomputable def E17 : (KDc15 × Unit) → Option KDc15 := fun x => S17   x.1
noncomputable def F17 : (KDc15 × Unit) → KDc15 := fun x => (E17 x).getD (dflt KTc19)
noncomputable def G17 : (KDc15 × Unit) → Bool := fun x => (E17 x).isSome
theorem p17 : ∀ x, G17 x = true → PureOK Try.prog 17 (mkA [KTc19] x) ⟨KTc19, F17 x⟩ :=
  PureOK.ofL (ts := [KTc19]) (T := KTc19) (S := E17) CxOK17 Try.func17 (LOK.fn LOK17) (fun x => t17   x.1)
noncomputable def kn38 : Kn := kOf [(35, sm [(.int .u64)] (.pair KTc1 KTc1) F35 G35)]
theorem knOK38 : KOK Try.prog kn38 := (KOK.cons Try.call35 (SmOK.sm p35) KOK.nil)
noncomputable def C38 : Cx := CxL Try.Θ kn38 (lOf [])
theorem CxOK38 : CxOK Try.prog C38 := ⟨Try.tabOK, knOK38, by kernel_rfl, POK.none⟩
theorem LOK38 : LOK Try.prog C38 2 (bodyF Try.f38) := LOK.void (fun _ => rfl)
noncomputable def E38 : ((Int × (KDc9 × KDc10)) × Int × Bool × Unit) → Option (Int × (KDc9 × KDc10)) := fun x => S38 F35 G35  x.1 x.2.1 x.2.2.1
noncomputable def F38 : ((Int × (KDc9 × KDc10)) × Int × Bool × Unit) → (Int × (KDc9 × KDc10)) := fun x => (E38 x).getD (Dk.dflt (.v KTc6))
noncomputable def G38 : ((Int × (KDc9 × KDc10)) × Int × Bool × Unit) → Bool := fun x => (E38 x).isSome
theorem sm38_ok : SmOK Try.prog 38 (smG [.p (.v KTc6), .bx 0 (.int .i64), .bx 1 .bool] (.v KTc6) 0 F38 G38) := SmOK.smG (n1 := 2) (by kernel_rfl) (GOK.ofS (pts := [.p (.v KTc6), .bx 0 (.int .i64), .bx 1 .bool]) (n1 := 2) (D := (.v KTc6)) (n2 := 0) (S := E38) CxOK38 Try.func38 (LOK.fn LOK38) (by kernel_rfl) (fun x => t38 F35 G35  x.1 x.2.1 x.2.2.1))
noncomputable def kn42 : Kn := kOf []
theorem knOK42 : KOK Try.prog kn42 := KOK.nil
noncomputable def C42 : Cx := CxL Try.Θ kn42 (lOf [])
theorem CxOK42 : CxOK Try.prog C42 := ⟨Try.tabOK, knOK42, by kernel_rfl, POK.none⟩
theorem LOK42 : LOK Try.prog C42 0 (bodyF Try.f42) := (Lall.LOK rfl (by kernel_rfl) trivial)
noncomputable def E42 : ((Int × (KDc9 × KDc10)) × Unit) → Option (Int × (KDc9 × KDc10)) := fun x => S42   x.1
noncomputable def F42 : ((Int × (KDc9 × KDc10)) × Unit) → (Int × (KDc9 × KDc10)) := fun x => (E42 x).getD (dflt KTc6)
noncomputable def G42 : ((Int × (KDc9 × KDc10)) × Unit) → Bool := fun x => (E42 x).isSome
theorem p42 : ∀ x, G42 x = true → PureOK Try.prog 42 (mkA [KTc6] x) ⟨KTc6, F42 x⟩ :=
  PureOK.ofS (ts := [KTc6]) (T := KTc6) (S := E42) CxOK42 Try.func42 (LOK.fn LOK42) (fun x => t42   x.1)
noncomputable def kn44 : Kn := kOf []
theorem knOK44 : KOK Try.prog kn44 := KOK.nil
noncomputable def C44 : Cx := CxL Try.Θ kn44 (lOf [])
theorem CxOK44 : CxOK Try.prog C44 := ⟨Try.tabOK, knOK44, by kernel_rfl, POK.none⟩
theorem LOK44 : LOK Try.prog C44 1 (bodyF Try.f44) := LOK.void (fun _ => rfl)
noncomputable def E44 : ((Int × (KDc9 × KDc10)) × Int × Unit) → Option (Int × (KDc9 × KDc10)) := fun x => S44   x.1 x.2.1
noncomputable def F44 : ((Int × (KDc9 × KDc10)) × Int × Unit) → (Int × (KDc9 × KDc10)) := fun x => (E44 x).getD (Dk.dflt (.v KTc6))
noncomputable def G44 : ((Int × (KDc9 × KDc10)) × Int × Unit) → Bool := fun x => (E44 x).isSome
theorem sm44_ok : SmOK Try.prog 44 (smG [.p (.v KTc6), .bx 0 (.int .i64)] (.v KTc6) 0 F44 G44) := SmOK.smG (n1 := 1) (by kernel_rfl) (GOK.ofS (pts := [.p (.v KTc6), .bx 0 (.int .i64)]) (n1 := 1) (D := (.v KTc6)) (n2 := 0) (S := E44) CxOK44 Try.func44 (LOK.fn LOK44) (by kernel_rfl) (fun x => t44   x.1 x.2.1))
noncomputable def kn37a : Kn := kOf [(15, smG [.im ODc0] ODc0 1 F15g G15g), (38, smG [.p (.v KTc6), .bx 0 (.int .i64), .bx 1 .bool] (.v KTc6) 0 F38 G38)]
theorem knOK37a : KOK Try.prog kn37a := (KOK.cons Try.call15 sm15g_ok (KOK.cons Try.call38 sm38_ok KOK.nil))
noncomputable def V37a_0 : (Unit × Unit × Unit × KDc11 × Int × Int × Bool × KDc21 × KDc22 × Unit) → Option ((Unit × Unit × Unit × KDc11 × Int × Int × Bool × KDc21 × KDc22 × Unit) ⊕ (Unit × Unit × Unit × Int × Bool × KDc21 × KDc22 × Unit)) := fun x => R37a_0 F15g G15g F38 G38 (fun _ => ((), (), (), 0, false, ([], ([], (0, ([], (0, ()))))), ([], ([], (0, ([], (0, ()))))), ())) (fun _ => false) (fun _ => ((), (), ([], ([], (0, ([], (0, ()))))), ([], ([], (0, ([], (0, ()))))), ())) (fun _ => false) x.1 x.2.1 x.2.2.1 x.2.2.2.1 x.2.2.2.2.1 x.2.2.2.2.2.1 x.2.2.2.2.2.2.1 x.2.2.2.2.2.2.2.1 x.2.2.2.2.2.2.2.2.1
noncomputable def W37a_0 : (Unit × Unit × Unit × KDc11 × Int × Int × Bool × KDc21 × KDc22 × Unit) → (Unit × Unit × Unit × Int × Bool × KDc21 × KDc22 × Unit) := whV (hd := hd37a_0) (ys := ys37a_0) V37a_0
noncomputable def Q37a_0 : (Unit × Unit × Unit × KDc11 × Int × Int × Bool × KDc21 × KDc22 × Unit) → Bool := whK (hd := hd37a_0) (ys := ys37a_0) V37a_0
noncomputable def V37a_2 : (Unit × Unit × Unit × KDc13 × Int × Int × Bool × KDc23 × KDc24 × Unit) → Option ((Unit × Unit × Unit × KDc13 × Int × Int × Bool × KDc23 × KDc24 × Unit) ⊕ (Unit × Unit × KDc23 × KDc24 × Unit)) := fun x => R37a_2 F15g G15g F38 G38 W37a_0 Q37a_0 (fun _ => ((), (), ([], ([], (0, ([], (0, ()))))), ([], ([], (0, ([], (0, ()))))), ())) (fun _ => false) x.1 x.2.1 x.2.2.1 x.2.2.2.1 x.2.2.2.2.1 x.2.2.2.2.2.1 x.2.2.2.2.2.2.1 x.2.2.2.2.2.2.2.1 x.2.2.2.2.2.2.2.2.1
noncomputable def W37a_2 : (Unit × Unit × Unit × KDc13 × Int × Int × Bool × KDc23 × KDc24 × Unit) → (Unit × Unit × KDc23 × KDc24 × Unit) := whV (hd := hd37a_2) (ys := ys37a_2) V37a_2
noncomputable def Q37a_2 : (Unit × Unit × Unit × KDc13 × Int × Int × Bool × KDc23 × KDc24 × Unit) → Bool := whK (hd := hd37a_2) (ys := ys37a_2) V37a_2
noncomputable def C37a : Cx := CxL Try.Θ kn37a (lOf [(0, orc 58 30 0 hd37a_0 ys37a_0 W37a_0 Q37a_0), (2, orc 58 54 2 hd37a_2 ys37a_2 W37a_2 Q37a_2)])
theorem CxOK37a : CxOK Try.prog C37a := ⟨Try.tabOK, knOK37a, by kernel_rfl, POK.none⟩
theorem l37a_0 : Lone Try.prog C37a 0 (.loop (loopB 0 (bodyF Try.f37))) (orc 58 30 0 hd37a_0 ys37a_0 W37a_0 Q37a_0) 3 :=
  Lone.of CxOK37a (Lall.LOK rfl (by kernel_rfl) (Lall.skip (by kernel_rfl) (Lall.skip (by kernel_rfl) trivial))) (by kernel_rfl) (fun x => (r37a_0 F15g G15g F38 G38 W37a_0 Q37a_0 W37a_2 Q37a_2 x.1 x.2.1 x.2.2.1 x.2.2.2.1 x.2.2.2.2.1 x.2.2.2.2.2.1 x.2.2.2.2.2.2.1 x.2.2.2.2.2.2.2.1 x.2.2.2.2.2.2.2.2.1).trans (by first | (delta V37a_0 R37a_0; with_reducible rfl) | rfl))
theorem l37a_2 : Lone Try.prog C37a 2 (.loop (loopB 2 (bodyF Try.f37))) (orc 58 54 2 hd37a_2 ys37a_2 W37a_2 Q37a_2) 3 :=
  Lone.of CxOK37a (Lall.LOK rfl (by kernel_rfl) (Lall.skip (by kernel_rfl) (Lall.skip (by kernel_rfl) trivial))) (by kernel_rfl) (fun x => (r37a_2 F15g G15g F38 G38 W37a_0 Q37a_0 W37a_2 Q37a_2 x.1 x.2.1 x.2.2.1 x.2.2.2.1 x.2.2.2.2.1 x.2.2.2.2.2.1 x.2.2.2.2.2.2.1 x.2.2.2.2.2.2.2.1 x.2.2.2.2.2.2.2.2.1).trans (by first | (delta V37a_2 R37a_2; with_reducible rfl) | rfl))
theorem LOK37a : LOK Try.prog C37a 3 (bodyF Try.f37) := (Lall.LOK rfl (by kernel_rfl) (Lall.cons (by kernel_rfl) l37a_0 (Lall.cons (by kernel_rfl) l37a_2 trivial)))
noncomputable def E37a : (KDc20 × (Int × Bool × Unit) × Unit) → Option KDc20 := fun x => S37a F15g G15g F38 G38 W37a_0 Q37a_0 W37a_2 Q37a_2 x.1 x.2.1
noncomputable def F37a : (KDc20 × (Int × Bool × Unit) × Unit) → KDc20 := fun x => (E37a x).getD (Dk.dflt ODc0)
noncomputable def G37a : (KDc20 × (Int × Bool × Unit) × Unit) → Bool := fun x => (E37a x).isSome
theorem sm37a_ok : SmOK Try.prog 37 (smG [.im ODc0, .cl 38 [(1, (.int .i64)), (2, .bool)]] ODc0 1 F37a G37a) := SmOK.smG (n1 := 3) (by kernel_rfl) (GOK.ofS (pts := [.im ODc0, .cl 38 [(1, (.int .i64)), (2, .bool)]]) (n1 := 3) (D := ODc0) (n2 := 1) (S := E37a) CxOK37a Try.func37 (LOK.fn LOK37a) (by kernel_rfl) (fun x => t37a F15g G15g F38 G38 W37a_0 Q37a_0 W37a_2 Q37a_2 x.1 x.2.1))
noncomputable def kn37b : Kn := kOf [(15, smG [.im ODc0] ODc0 1 F15g G15g), (42, sm [KTc6] KTc6 F42 G42)]
theorem knOK37b : KOK Try.prog kn37b := (KOK.cons Try.call15 sm15g_ok (KOK.cons Try.call42 (SmOK.sm p42) KOK.nil))
noncomputable def V37b_0 : (Unit × Unit × Unit × KDc11 × Int × KDc25 × KDc26 × Unit) → Option ((Unit × Unit × Unit × KDc11 × Int × KDc25 × KDc26 × Unit) ⊕ (Unit × Unit × Unit × KDc25 × KDc26 × Unit)) := fun x => R37b_0 F15g G15g F42 G42 (fun _ => ((), (), (), ([], ([], (0, ([], (0, ()))))), ([], ([], (0, ([], (0, ()))))), ())) (fun _ => false) (fun _ => ((), (), ([], ([], (0, ([], (0, ()))))), ([], ([], (0, ([], (0, ()))))), ())) (fun _ => false) x.1 x.2.1 x.2.2.1 x.2.2.2.1 x.2.2.2.2.1 x.2.2.2.2.2.1 x.2.2.2.2.2.2.1
noncomputable def W37b_0 : (Unit × Unit × Unit × KDc11 × Int × KDc25 × KDc26 × Unit) → (Unit × Unit × Unit × KDc25 × KDc26 × Unit) := whV (hd := hd37b_0) (ys := ys37b_0) V37b_0
noncomputable def Q37b_0 : (Unit × Unit × Unit × KDc11 × Int × KDc25 × KDc26 × Unit) → Bool := whK (hd := hd37b_0) (ys := ys37b_0) V37b_0
noncomputable def V37b_2 : (Unit × Unit × Unit × KDc13 × Int × KDc27 × KDc28 × Unit) → Option ((Unit × Unit × Unit × KDc13 × Int × KDc27 × KDc28 × Unit) ⊕ (Unit × Unit × KDc27 × KDc28 × Unit)) := fun x => R37b_2 F15g G15g F42 G42 W37b_0 Q37b_0 (fun _ => ((), (), ([], ([], (0, ([], (0, ()))))), ([], ([], (0, ([], (0, ()))))), ())) (fun _ => false) x.1 x.2.1 x.2.2.1 x.2.2.2.1 x.2.2.2.2.1 x.2.2.2.2.2.1 x.2.2.2.2.2.2.1
noncomputable def W37b_2 : (Unit × Unit × Unit × KDc13 × Int × KDc27 × KDc28 × Unit) → (Unit × Unit × KDc27 × KDc28 × Unit) := whV (hd := hd37b_2) (ys := ys37b_2) V37b_2
noncomputable def Q37b_2 : (Unit × Unit × Unit × KDc13 × Int × KDc27 × KDc28 × Unit) → Bool := whK (hd := hd37b_2) (ys := ys37b_2) V37b_2
noncomputable def C37b : Cx := CxL Try.Θ kn37b (lOf [(0, orc 58 28 0 hd37b_0 ys37b_0 W37b_0 Q37b_0), (2, orc 58 52 2 hd37b_2 ys37b_2 W37b_2 Q37b_2)])
theorem CxOK37b : CxOK Try.prog C37b := ⟨Try.tabOK, knOK37b, by kernel_rfl, POK.none⟩
theorem l37b_0 : Lone Try.prog C37b 0 (.loop (loopB 0 (bodyF Try.f37))) (orc 58 28 0 hd37b_0 ys37b_0 W37b_0 Q37b_0) 1 :=
  Lone.of CxOK37b (Lall.LOK rfl (by kernel_rfl) (Lall.skip (by kernel_rfl) (Lall.skip (by kernel_rfl) trivial))) (by kernel_rfl) (fun x => (r37b_0 F15g G15g F42 G42 W37b_0 Q37b_0 W37b_2 Q37b_2 x.1 x.2.1 x.2.2.1 x.2.2.2.1 x.2.2.2.2.1 x.2.2.2.2.2.1 x.2.2.2.2.2.2.1).trans (by first | (delta V37b_0 R37b_0; with_reducible rfl) | rfl))
theorem l37b_2 : Lone Try.prog C37b 2 (.loop (loopB 2 (bodyF Try.f37))) (orc 58 52 2 hd37b_2 ys37b_2 W37b_2 Q37b_2) 1 :=
  Lone.of CxOK37b (Lall.LOK rfl (by kernel_rfl) (Lall.skip (by kernel_rfl) (Lall.skip (by kernel_rfl) trivial))) (by kernel_rfl) (fun x => (r37b_2 F15g G15g F42 G42 W37b_0 Q37b_0 W37b_2 Q37b_2 x.1 x.2.1 x.2.2.1 x.2.2.2.1 x.2.2.2.2.1 x.2.2.2.2.2.1 x.2.2.2.2.2.2.1).trans (by first | (delta V37b_2 R37b_2; with_reducible rfl) | rfl))
theorem LOK37b : LOK Try.prog C37b 1 (bodyF Try.f37) := (Lall.LOK rfl (by kernel_rfl) (Lall.cons (by kernel_rfl) l37b_0 (Lall.cons (by kernel_rfl) l37b_2 trivial)))
noncomputable def E37b : (KDc20 × (Unit) × Unit) → Option KDc20 := fun x => S37b F15g G15g F42 G42 W37b_0 Q37b_0 W37b_2 Q37b_2 x.1 x.2.1
noncomputable def F37b : (KDc20 × (Unit) × Unit) → KDc20 := fun x => (E37b x).getD (Dk.dflt ODc0)
noncomputable def G37b : (KDc20 × (Unit) × Unit) → Bool := fun x => (E37b x).isSome
theorem sm37b_ok : SmOK Try.prog 37 (smG [.im ODc0, .cl 42 []] ODc0 1 F37b G37b) := SmOK.smG (n1 := 1) (by kernel_rfl) (GOK.ofS (pts := [.im ODc0, .cl 42 []]) (n1 := 1) (D := ODc0) (n2 := 1) (S := E37b) CxOK37b Try.func37 (LOK.fn LOK37b) (by kernel_rfl) (fun x => t37b F15g G15g F42 G42 W37b_0 Q37b_0 W37b_2 Q37b_2 x.1 x.2.1))
noncomputable def kn37c : Kn := kOf [(15, smG [.im ODc0] ODc0 1 F15g G15g), (44, smG [.p (.v KTc6), .bx 0 (.int .i64)] (.v KTc6) 0 F44 G44)]
theorem knOK37c : KOK Try.prog kn37c := (KOK.cons Try.call15 sm15g_ok (KOK.cons Try.call44 sm44_ok KOK.nil))
noncomputable def V37c_0 : (Unit × Unit × Unit × KDc11 × Int × Int × KDc26 × KDc21 × Unit) → Option ((Unit × Unit × Unit × KDc11 × Int × Int × KDc26 × KDc21 × Unit) ⊕ (Unit × Unit × Unit × Int × KDc26 × KDc21 × Unit)) := fun x => R37c_0 F15g G15g F44 G44 (fun _ => ((), (), (), 0, ([], ([], (0, ([], (0, ()))))), ([], ([], (0, ([], (0, ()))))), ())) (fun _ => false) (fun _ => ((), (), ([], ([], (0, ([], (0, ()))))), ([], ([], (0, ([], (0, ()))))), ())) (fun _ => false) x.1 x.2.1 x.2.2.1 x.2.2.2.1 x.2.2.2.2.1 x.2.2.2.2.2.1 x.2.2.2.2.2.2.1 x.2.2.2.2.2.2.2.1
noncomputable def W37c_0 : (Unit × Unit × Unit × KDc11 × Int × Int × KDc26 × KDc21 × Unit) → (Unit × Unit × Unit × Int × KDc26 × KDc21 × Unit) := whV (hd := hd37c_0) (ys := ys37c_0) V37c_0
noncomputable def Q37c_0 : (Unit × Unit × Unit × KDc11 × Int × Int × KDc26 × KDc21 × Unit) → Bool := whK (hd := hd37c_0) (ys := ys37c_0) V37c_0
noncomputable def V37c_2 : (Unit × Unit × Unit × KDc13 × Int × Int × KDc28 × KDc23 × Unit) → Option ((Unit × Unit × Unit × KDc13 × Int × Int × KDc28 × KDc23 × Unit) ⊕ (Unit × Unit × KDc28 × KDc23 × Unit)) := fun x => R37c_2 F15g G15g F44 G44 W37c_0 Q37c_0 (fun _ => ((), (), ([], ([], (0, ([], (0, ()))))), ([], ([], (0, ([], (0, ()))))), ())) (fun _ => false) x.1 x.2.1 x.2.2.1 x.2.2.2.1 x.2.2.2.2.1 x.2.2.2.2.2.1 x.2.2.2.2.2.2.1 x.2.2.2.2.2.2.2.1
noncomputable def W37c_2 : (Unit × Unit × Unit × KDc13 × Int × Int × KDc28 × KDc23 × Unit) → (Unit × Unit × KDc28 × KDc23 × Unit) := whV (hd := hd37c_2) (ys := ys37c_2) V37c_2
noncomputable def Q37c_2 : (Unit × Unit × Unit × KDc13 × Int × Int × KDc28 × KDc23 × Unit) → Bool := whK (hd := hd37c_2) (ys := ys37c_2) V37c_2
noncomputable def C37c : Cx := CxL Try.Θ kn37c (lOf [(0, orc 58 29 0 hd37c_0 ys37c_0 W37c_0 Q37c_0), (2, orc 58 53 2 hd37c_2 ys37c_2 W37c_2 Q37c_2)])
theorem CxOK37c : CxOK Try.prog C37c := ⟨Try.tabOK, knOK37c, by kernel_rfl, POK.none⟩
theorem l37c_0 : Lone Try.prog C37c 0 (.loop (loopB 0 (bodyF Try.f37))) (orc 58 29 0 hd37c_0 ys37c_0 W37c_0 Q37c_0) 2 :=
  Lone.of CxOK37c (Lall.LOK rfl (by kernel_rfl) (Lall.skip (by kernel_rfl) (Lall.skip (by kernel_rfl) trivial))) (by kernel_rfl) (fun x => (r37c_0 F15g G15g F44 G44 W37c_0 Q37c_0 W37c_2 Q37c_2 x.1 x.2.1 x.2.2.1 x.2.2.2.1 x.2.2.2.2.1 x.2.2.2.2.2.1 x.2.2.2.2.2.2.1 x.2.2.2.2.2.2.2.1).trans (by first | (delta V37c_0 R37c_0; with_reducible rfl) | rfl))
theorem l37c_2 : Lone Try.prog C37c 2 (.loop (loopB 2 (bodyF Try.f37))) (orc 58 53 2 hd37c_2 ys37c_2 W37c_2 Q37c_2) 2 :=
  Lone.of CxOK37c (Lall.LOK rfl (by kernel_rfl) (Lall.skip (by kernel_rfl) (Lall.skip (by kernel_rfl) trivial))) (by kernel_rfl) (fun x => (r37c_2 F15g G15g F44 G44 W37c_0 Q37c_0 W37c_2 Q37c_2 x.1 x.2.1 x.2.2.1 x.2.2.2.1 x.2.2.2.2.1 x.2.2.2.2.2.1 x.2.2.2.2.2.2.1 x.2.2.2.2.2.2.2.1).trans (by first | (delta V37c_2 R37c_2; with_reducible rfl) | rfl))
theorem LOK37c : LOK Try.prog C37c 2 (bodyF Try.f37) := (Lall.LOK rfl (by kernel_rfl) (Lall.cons (by kernel_rfl) l37c_0 (Lall.cons (by kernel_rfl) l37c_2 trivial)))
noncomputable def E37c : (KDc20 × (Int × Unit) × Unit) → Option KDc20 := fun x => S37c F15g G15g F44 G44 W37c_0 Q37c_0 W37c_2 Q37c_2 x.1 x.2.1
noncomputable def F37c : (KDc20 × (Int × Unit) × Unit) → KDc20 := fun x => (E37c x).getD (Dk.dflt ODc0)
noncomputable def G37c : (KDc20 × (Int × Unit) × Unit) → Bool := fun x => (E37c x).isSome
theorem sm37c_ok : SmOK Try.prog 37 (smG [.im ODc0, .cl 44 [(1, (.int .i64))]] ODc0 1 F37c G37c) := SmOK.smG (n1 := 2) (by kernel_rfl) (GOK.ofS (pts := [.im ODc0, .cl 44 [(1, (.int .i64))]]) (n1 := 2) (D := ODc0) (n2 := 1) (S := E37c) CxOK37c Try.func37 (LOK.fn LOK37c) (by kernel_rfl) (fun x => t37c F15g G15g F44 G44 W37c_0 Q37c_0 W37c_2 Q37c_2 x.1 x.2.1))
noncomputable def kn52 : Kn := kOf []
theorem knOK52 : KOK Try.prog kn52 := KOK.nil
noncomputable def C52 : Cx := CxL Try.Θ kn52 (lOf [])
theorem CxOK52 : CxOK Try.prog C52 := ⟨Try.tabOK, knOK52, by kernel_rfl, POK.none⟩
theorem LOK52 : LOK Try.prog C52 1 (bodyF Try.f52) := LOK.void (fun _ => rfl)
noncomputable def E52 : (Int × Int × Unit) → Option Bool := fun x => S52   x.1 x.2.1
noncomputable def F52 : (Int × Int × Unit) → Bool := fun x => (E52 x).getD (Dk.dflt (.v .bool))
noncomputable def G52 : (Int × Int × Unit) → Bool := fun x => (E52 x).isSome
theorem sm52_ok : SmOK Try.prog 52 (smG [.p (.v (.int .i64)), .bx 0 (.int .i64)] (.v .bool) 0 F52 G52) := SmOK.smG (n1 := 1) (by kernel_rfl) (GOK.ofS (pts := [.p (.v (.int .i64)), .bx 0 (.int .i64)]) (n1 := 1) (D := (.v .bool)) (n2 := 0) (S := E52) CxOK52 Try.func52 (LOK.fn LOK52) (by kernel_rfl) (fun x => t52   x.1 x.2.1))
noncomputable def kn58 : Kn := kOf [(52, smG [.p (.v (.int .i64)), .bx 0 (.int .i64)] (.v .bool) 0 F52 G52)]
theorem knOK58 : KOK Try.prog kn58 := (KOK.cons Try.call52 sm52_ok KOK.nil)
noncomputable def V58_0 : ((List Int) × Unit × Int × Int × Int × Unit) → Option (((List Int) × Unit × Int × Int × Int × Unit) ⊕ ((Unit) ⊕ (Int × Unit))) := fun x => R58_0 F52 G52 (fun _ => (Sum.inl (()))) (fun _ => false) x.1 x.2.1 x.2.2.1 x.2.2.2.1 x.2.2.2.2.1
noncomputable def W58_0 : ((List Int) × Unit × Int × Int × Int × Unit) → ((Unit) ⊕ (Int × Unit)) := whV (hd := hd58_0) (ys := ys58_0) V58_0
noncomputable def Q58_0 : ((List Int) × Unit × Int × Int × Int × Unit) → Bool := whK (hd := hd58_0) (ys := ys58_0) V58_0
noncomputable def C58 : Cx := CxL Try.Θl kn58 (lOf [(0, orc 19 25 0 hd58_0 ys58_0 W58_0 Q58_0)])
theorem CxOK58 : CxOK Try.prog C58 := ⟨Try.tabOKl, knOK58, by kernel_rfl, POK.none⟩
theorem l58_0 : Lone Try.prog C58 0 (.loop (loopB 0 (bodyF Try.f58))) (orc 19 25 0 hd58_0 ys58_0 W58_0 Q58_0) 1 :=
  Lone.of CxOK58 (Lall.LOK rfl (by kernel_rfl) (Lall.skip (by kernel_rfl) trivial)) (by kernel_rfl) (fun x => (r58_0 F52 G52 W58_0 Q58_0 x.1 x.2.1 x.2.2.1 x.2.2.2.1 x.2.2.2.2.1).trans (by first | (delta V58_0 R58_0; with_reducible rfl) | rfl))
theorem LOK58 : LOK Try.prog C58 1 (bodyF Try.f58) := (Lall.LOK rfl (by kernel_rfl) (Lall.cons (by kernel_rfl) l58_0 trivial))
noncomputable def E58 : ((List Int) × (Int × Unit) × Unit) → Option Int := fun x => S58 F52 G52 W58_0 Q58_0 x.1 x.2.1
noncomputable def F58 : ((List Int) × (Int × Unit) × Unit) → Int := fun x => (E58 x).getD (Dk.dflt (.v (.int .i64)))
noncomputable def G58 : ((List Int) × (Int × Unit) × Unit) → Bool := fun x => (E58 x).isSome
theorem sm58_ok : SmOK Try.prog 58 (smG [.p ODc16, .cl 52 [(0, (.int .i64))]] (.v (.int .i64)) 0 F58 G58) := SmOK.smG (n1 := 1) (by kernel_rfl) (GOK.ofS (pts := [.p ODc16, .cl 52 [(0, (.int .i64))]]) (n1 := 1) (D := (.v (.int .i64))) (n2 := 0) (S := E58) CxOK58 Try.func58 (LOK.fn LOK58) (by kernel_rfl) (fun x => t58 F52 G52 W58_0 Q58_0 x.1 x.2.1))
noncomputable def kn51 : Kn := kOf [(52, smG [.p (.v (.int .i64)), .bx 0 (.int .i64)] (.v .bool) 0 F52 G52), (58, smG [.p ODc16, .cl 52 [(0, (.int .i64))]] (.v (.int .i64)) 0 F58 G58)]
theorem knOK51 : KOK Try.prog kn51 := (KOK.cons Try.call52 sm52_ok (KOK.cons Try.call58 sm58_ok KOK.nil))
noncomputable def V51_0 : ((List Int) × Unit × Int × Int × Int × Unit) → Option (((List Int) × Unit × Int × Int × Int × Unit) ⊕ ((List Int) × Int × Unit)) := fun x => R51_0 F52 G52 F58 G58 (fun _ => ([], 0, ())) (fun _ => false) x.1 x.2.1 x.2.2.1 x.2.2.2.1 x.2.2.2.2.1
noncomputable def W51_0 : ((List Int) × Unit × Int × Int × Int × Unit) → ((List Int) × Int × Unit) := whV (hd := hd51_0) (ys := ys51_0) V51_0
noncomputable def Q51_0 : ((List Int) × Unit × Int × Int × Int × Unit) → Bool := whK (hd := hd51_0) (ys := ys51_0) V51_0
noncomputable def C51 : Cx := CxL Try.Θ kn51 (lOf [(0, orc 42 26 0 hd51_0 ys51_0 W51_0 Q51_0)])
theorem CxOK51 : CxOK Try.prog C51 := ⟨Try.tabOK, knOK51, by kernel_rfl, POK.none⟩
theorem l51_0 : Lone Try.prog C51 0 (.loop (loopB 0 (bodyF Try.f51))) (orc 42 26 0 hd51_0 ys51_0 W51_0 Q51_0) 2 :=
  Lone.of CxOK51 (Lall.LOK rfl (by kernel_rfl) (Lall.skip (by kernel_rfl) trivial)) (by kernel_rfl) (fun x => (r51_0 F52 G52 F58 G58 W51_0 Q51_0 x.1 x.2.1 x.2.2.1 x.2.2.2.1 x.2.2.2.2.1).trans (by first | (delta V51_0 R51_0; with_reducible rfl) | rfl))
theorem LOK51 : LOK Try.prog C51 2 (bodyF Try.f51) := (Lall.LOK rfl (by kernel_rfl) (Lall.cons (by kernel_rfl) l51_0 trivial))
noncomputable def E51 : ((List Int) × (Int × Unit) × Unit) → Option (List Int) := fun x => S51 F52 G52 F58 G58 W51_0 Q51_0 x.1 x.2.1
noncomputable def F51 : ((List Int) × (Int × Unit) × Unit) → (List Int) := fun x => (E51 x).getD (Dk.dflt ODc16)
noncomputable def G51 : ((List Int) × (Int × Unit) × Unit) → Bool := fun x => (E51 x).isSome
theorem sm51_ok : SmOK Try.prog 51 (smG [.mv ODc16, .cl 52 [(1, (.int .i64))]] ODc16 1 F51 G51) := SmOK.smG (n1 := 2) (by kernel_rfl) (GOK.ofS (pts := [.mv ODc16, .cl 52 [(1, (.int .i64))]]) (n1 := 2) (D := ODc16) (n2 := 1) (S := E51) CxOK51 Try.func51 (LOK.fn LOK51) (by kernel_rfl) (fun x => t51 F52 G52 F58 G58 W51_0 Q51_0 x.1 x.2.1))
noncomputable def kn39 : Kn := kOf [(51, smG [.mv ODc16, .cl 52 [(1, (.int .i64))]] ODc16 1 F51 G51)]
theorem knOK39 : KOK Try.prog kn39 := (KOK.cons Try.call51 sm51_ok KOK.nil)
noncomputable def C39 : Cx := CxL Try.Θ kn39 (lOf [])
theorem CxOK39 : CxOK Try.prog C39 := ⟨Try.tabOK, knOK39, by kernel_rfl, POK.none⟩
theorem LOK39 : LOK Try.prog C39 1 (bodyF Try.f39) := LOK.void (fun _ => rfl)
noncomputable def E39 : (KDc20 × Int × Unit) → Option KDc20 := fun x => S39 F51 G51  x.1 x.2.1
noncomputable def F39 : (KDc20 × Int × Unit) → KDc20 := fun x => (E39 x).getD (Dk.dflt ODc0)
noncomputable def G39 : (KDc20 × Int × Unit) → Bool := fun x => (E39 x).isSome
theorem sm39_ok : SmOK Try.prog 39 (smG [.mv ODc0, .p (.v (.int .i64))] ODc0 1 F39 G39) := SmOK.smG (n1 := 1) (by kernel_rfl) (GOK.ofS (pts := [.mv ODc0, .p (.v (.int .i64))]) (n1 := 1) (D := ODc0) (n2 := 1) (S := E39) CxOK39 Try.func39 (LOK.fn LOK39) (by kernel_rfl) (fun x => t39 F51 G51  x.1 x.2.1))
noncomputable def kn18 : Kn := kOf [(37, smG [.im ODc0, .cl 38 [(1, (.int .i64)), (2, .bool)]] ODc0 1 F37a G37a), (39, smG [.mv ODc0, .p (.v (.int .i64))] ODc0 1 F39 G39)]
theorem knOK18 : KOK Try.prog kn18 := (KOK.cons Try.call37 sm37a_ok (KOK.cons Try.call39 sm39_ok KOK.nil))
noncomputable def C18 : Cx := CxL Try.Θ kn18 (lOf [])
theorem CxOK18 : CxOK Try.prog C18 := ⟨Try.tabOK, knOK18, by kernel_rfl, POK.none⟩
theorem LOK18 : LOK Try.prog C18 1 (bodyF Try.f18) := LOK.void (fun _ => rfl)
noncomputable def E18 : (KDc20 × Int × Bool × Unit) → Option KDc20 := fun x => S18 F37a G37a F39 G39  x.1 x.2.1 x.2.2.1
noncomputable def F18 : (KDc20 × Int × Bool × Unit) → KDc20 := fun x => (E18 x).getD (Dk.dflt ODc0)
noncomputable def G18 : (KDc20 × Int × Bool × Unit) → Bool := fun x => (E18 x).isSome
theorem p18 : ∀ x, G18 x = true → PureOK Try.prog 18 (mkA [KTc19, (.int .i64), .bool] x) ⟨KTc19, F18 x⟩ := PureOK.ofW (pts := [.im ODc0, .p (.v (.int .i64)), .p (.v .bool)]) (n1 := 1) (D := ODc0) (S := E18) CxOK18 Try.func18 (LOK.fn LOK18) (by kernel_rfl) (fun x => t18 F37a G37a F39 G39  x.1 x.2.1 x.2.2.1)
noncomputable def kn40 : Kn := kOf [(26, sm [(.int .u64)] (.pair KTc1 KTc1) F26 G26)]
theorem knOK40 : KOK Try.prog kn40 := (KOK.cons Try.call26 (SmOK.sm p26) KOK.nil)
noncomputable def C40 : Cx := CxL Try.Θl kn40 (lOf [])
theorem CxOK40 : CxOK Try.prog C40 := ⟨Try.tabOKl, knOK40, by kernel_rfl, POK.none⟩
theorem LOK40 : LOK Try.prog C40 0 (bodyF Try.f40) := (Lall.LOK rfl (by kernel_rfl) trivial)
noncomputable def E40 : ((Int × (KDc9 × KDc10)) × Int × Bool × Unit) → Option KDc29 := fun x => S40 F26 G26  x.1 x.2.1 x.2.2.1
noncomputable def F40 : ((Int × (KDc9 × KDc10)) × Int × Bool × Unit) → KDc29 := fun x => (E40 x).getD (dflt KTc30)
noncomputable def G40 : ((Int × (KDc9 × KDc10)) × Int × Bool × Unit) → Bool := fun x => (E40 x).isSome
theorem p40 : ∀ x, G40 x = true → PureOK Try.prog 40 (mkA [KTc6, (.int .i64), .bool] x) ⟨KTc30, F40 x⟩ :=
  PureOK.ofL (ts := [KTc6, (.int .i64), .bool]) (T := KTc30) (S := E40) CxOK40 Try.func40 (LOK.fn LOK40) (fun x => t40 F26 G26  x.1 x.2.1 x.2.2.1)
noncomputable def kn41 : Kn := kOf []
theorem knOK41 : KOK Try.prog kn41 := KOK.nil
noncomputable def V41_0 : ((List Int) × Int × (List Int) × Int × Unit) → Option (((List Int) × Int × (List Int) × Int × Unit) ⊕ ((List Int) × Unit)) := fun x => R41_0  (fun _ => ([], ())) (fun _ => false) x.1 x.2.1 x.2.2.1 x.2.2.2.1
noncomputable def W41_0 : ((List Int) × Int × (List Int) × Int × Unit) → ((List Int) × Unit) := whV (hd := hd41_0) (ys := ys41_0) V41_0
noncomputable def Q41_0 : ((List Int) × Int × (List Int) × Int × Unit) → Bool := whK (hd := hd41_0) (ys := ys41_0) V41_0
noncomputable def C41 : Cx := CxL Try.Θl kn41 (lOf [(0, orc 27 24 0 hd41_0 ys41_0 W41_0 Q41_0)])
theorem CxOK41 : CxOK Try.prog C41 := ⟨Try.tabOKl, knOK41, by kernel_rfl, POK.none⟩
theorem l41_0 : Lone Try.prog C41 0 (.loop (loopB 0 (bodyF Try.f41))) (orc 27 24 0 hd41_0 ys41_0 W41_0 Q41_0) :=
  Lone.of CxOK41 (Lall.LOK rfl (by kernel_rfl) (Lall.skip (by kernel_rfl) trivial)) (by kernel_rfl) (fun x => (r41_0  W41_0 Q41_0 x.1 x.2.1 x.2.2.1 x.2.2.2.1).trans (by first | (delta V41_0 R41_0; with_reducible rfl) | rfl))
theorem LOK41 : LOK Try.prog C41 0 (bodyF Try.f41) := (Lall.LOK rfl (by kernel_rfl) (Lall.cons (by kernel_rfl) l41_0 trivial))
noncomputable def E41 : ((List Int) × Int × Unit) → Option (List Int) := fun x => S41  W41_0 Q41_0 x.1 x.2.1
noncomputable def F41 : ((List Int) × Int × Unit) → (List Int) := fun x => (E41 x).getD (dflt (.vsl (.int .i64)))
noncomputable def G41 : ((List Int) × Int × Unit) → Bool := fun x => (E41 x).isSome
theorem p41 : ∀ x, G41 x = true → PureOK Try.prog 41 (mkA [(.vsl (.int .i64)), (.int .i64)] x) ⟨(.vsl (.int .i64)), F41 x⟩ :=
  PureOK.ofL (ts := [(.vsl (.int .i64)), (.int .i64)]) (T := (.vsl (.int .i64))) (S := E41) CxOK41 Try.func41 (LOK.fn LOK41) (fun x => t41  W41_0 Q41_0 x.1 x.2.1)
noncomputable def kn19 : Kn := kOf [(17, sm [KTc19] KTc19 F17 G17), (40, sm [KTc6, (.int .i64), .bool] KTc30 F40 G40), (41, sm [(.vsl (.int .i64)), (.int .i64)] (.vsl (.int .i64)) F41 G41)]
theorem knOK19 : KOK Try.prog kn19 := (KOK.cons Try.call17 (SmOK.sm p17) (KOK.cons Try.call40 (SmOK.sm p40) (KOK.cons Try.call41 (SmOK.sm p41) KOK.nil)))
noncomputable def V19_0 : (Int × Bool × Unit × Unit × Int × KDc15 × KDc15 × Unit) → Option ((Int × Bool × Unit × Unit × Int × KDc15 × KDc15 × Unit) ⊕ (Int × Bool × Unit × Unit × KDc15 × KDc15 × Unit)) := fun x => R19_0 F17 G17 F40 G40 F41 G41 (fun _ => (0, false, (), (), ([], ([], (0, ([], (0, ()))))), ([], ([], (0, ([], (0, ()))))), ())) (fun _ => false) (fun _ => (0, false, (), (), ([], ([], (0, ([], (0, ()))))), ([], ([], (0, ([], (0, ()))))), ())) (fun _ => false) x.1 x.2.1 x.2.2.1 x.2.2.2.1 x.2.2.2.2.1 x.2.2.2.2.2.1 x.2.2.2.2.2.2.1
noncomputable def W19_0 : (Int × Bool × Unit × Unit × Int × KDc15 × KDc15 × Unit) → (Int × Bool × Unit × Unit × KDc15 × KDc15 × Unit) := whV (hd := hd19_0) (ys := ys19_0) V19_0
noncomputable def Q19_0 : (Int × Bool × Unit × Unit × Int × KDc15 × KDc15 × Unit) → Bool := whK (hd := hd19_0) (ys := ys19_0) V19_0
noncomputable def V19_2 : (Int × Bool × Unit × Unit × Int × KDc15 × KDc15 × Unit) → Option ((Int × Bool × Unit × Unit × Int × KDc15 × KDc15 × Unit) ⊕ (Int × Bool × Unit × Unit × KDc15 × KDc15 × Unit)) := fun x => R19_2 F17 G17 F40 G40 F41 G41 W19_0 Q19_0 (fun _ => (0, false, (), (), ([], ([], (0, ([], (0, ()))))), ([], ([], (0, ([], (0, ()))))), ())) (fun _ => false) x.1 x.2.1 x.2.2.1 x.2.2.2.1 x.2.2.2.2.1 x.2.2.2.2.2.1 x.2.2.2.2.2.2.1
noncomputable def W19_2 : (Int × Bool × Unit × Unit × Int × KDc15 × KDc15 × Unit) → (Int × Bool × Unit × Unit × KDc15 × KDc15 × Unit) := whV (hd := hd19_2) (ys := ys19_2) V19_2
noncomputable def Q19_2 : (Int × Bool × Unit × Unit × Int × KDc15 × KDc15 × Unit) → Bool := whK (hd := hd19_2) (ys := ys19_2) V19_2
noncomputable def C19 : Cx := CxL Try.Θl kn19 (lOf [(0, orc 60 26 0 hd19_0 ys19_0 W19_0 Q19_0), (2, orc 60 50 2 hd19_2 ys19_2 W19_2 Q19_2)])
theorem CxOK19 : CxOK Try.prog C19 := ⟨Try.tabOKl, knOK19, by kernel_rfl, POK.none⟩
theorem l19_0 : Lone Try.prog C19 0 (.loop (loopB 0 (bodyF Try.f19))) (orc 60 26 0 hd19_0 ys19_0 W19_0 Q19_0) :=
  Lone.of CxOK19 (Lall.LOK rfl (by kernel_rfl) (Lall.skip (by kernel_rfl) (Lall.skip (by kernel_rfl) trivial))) (by kernel_rfl) (fun x => (r19_0 F17 G17 F40 G40 F41 G41 W19_0 Q19_0 W19_2 Q19_2 x.1 x.2.1 x.2.2.1 x.2.2.2.1 x.2.2.2.2.1 x.2.2.2.2.2.1 x.2.2.2.2.2.2.1).trans (by first | (delta V19_0 R19_0; with_reducible rfl) | rfl))
theorem l19_2 : Lone Try.prog C19 2 (.loop (loopB 2 (bodyF Try.f19))) (orc 60 50 2 hd19_2 ys19_2 W19_2 Q19_2) :=
  Lone.of CxOK19 (Lall.LOK rfl (by kernel_rfl) (Lall.skip (by kernel_rfl) (Lall.skip (by kernel_rfl) trivial))) (by kernel_rfl) (fun x => (r19_2 F17 G17 F40 G40 F41 G41 W19_0 Q19_0 W19_2 Q19_2 x.1 x.2.1 x.2.2.1 x.2.2.2.1 x.2.2.2.2.1 x.2.2.2.2.2.1 x.2.2.2.2.2.2.1).trans (by first | (delta V19_2 R19_2; with_reducible rfl) | rfl))
theorem LOK19 : LOK Try.prog C19 0 (bodyF Try.f19) := (Lall.LOK rfl (by kernel_rfl) (Lall.cons (by kernel_rfl) l19_0 (Lall.cons (by kernel_rfl) l19_2 trivial)))
noncomputable def E19 : (KDc15 × Int × Bool × Unit) → Option KDc15 := fun x => S19 F17 G17 F40 G40 F41 G41 W19_0 Q19_0 W19_2 Q19_2 x.1 x.2.1 x.2.2.1
noncomputable def F19 : (KDc15 × Int × Bool × Unit) → KDc15 := fun x => (E19 x).getD (dflt KTc19)
noncomputable def G19 : (KDc15 × Int × Bool × Unit) → Bool := fun x => (E19 x).isSome
theorem p19 : ∀ x, G19 x = true → PureOK Try.prog 19 (mkA [KTc19, (.int .i64), .bool] x) ⟨KTc19, F19 x⟩ :=
  PureOK.ofL (ts := [KTc19, (.int .i64), .bool]) (T := KTc19) (S := E19) CxOK19 Try.func19 (LOK.fn LOK19) (fun x => t19 F17 G17 F40 G40 F41 G41 W19_0 Q19_0 W19_2 Q19_2 x.1 x.2.1 x.2.2.1)
noncomputable def kn20 : Kn := kOf [(37, smG [.im ODc0, .cl 42 []] ODc0 1 F37b G37b)]
theorem knOK20 : KOK Try.prog kn20 := (KOK.cons Try.call37 sm37b_ok KOK.nil)
noncomputable def C20 : Cx := CxL Try.Θ kn20 (lOf [])
theorem CxOK20 : CxOK Try.prog C20 := ⟨Try.tabOK, knOK20, by kernel_rfl, POK.none⟩
theorem LOK20 : LOK Try.prog C20 1 (bodyF Try.f20) := LOK.void (fun _ => rfl)
noncomputable def E20 : (KDc20 × Unit) → Option KDc20 := fun x => S20 F37b G37b  x.1
noncomputable def F20 : (KDc20 × Unit) → KDc20 := fun x => (E20 x).getD (Dk.dflt ODc0)
noncomputable def G20 : (KDc20 × Unit) → Bool := fun x => (E20 x).isSome
theorem p20 : ∀ x, G20 x = true → PureOK Try.prog 20 (mkA [KTc19] x) ⟨KTc19, F20 x⟩ := PureOK.ofW (pts := [.im ODc0]) (n1 := 1) (D := ODc0) (S := E20) CxOK20 Try.func20 (LOK.fn LOK20) (by kernel_rfl) (fun x => t20 F37b G37b  x.1)
noncomputable def kn53 : Kn := kOf []
theorem knOK53 : KOK Try.prog kn53 := KOK.nil
noncomputable def C53 : Cx := CxL Try.Θl kn53 (lOf [])
theorem CxOK53 : CxOK Try.prog C53 := ⟨Try.tabOKl, knOK53, by kernel_rfl, POK.none⟩
theorem LOK53 : LOK Try.prog C53 0 (bodyF Try.f53) := (Lall.LOK rfl (by kernel_rfl) trivial)
noncomputable def E53 : ((Int × (KDc9 × KDc10)) × Int × Unit) → Option Bool := fun x => S53   x.1 x.2.1
noncomputable def F53 : ((Int × (KDc9 × KDc10)) × Int × Unit) → Bool := fun x => (E53 x).getD (dflt .bool)
noncomputable def G53 : ((Int × (KDc9 × KDc10)) × Int × Unit) → Bool := fun x => (E53 x).isSome
theorem p53 : ∀ x, G53 x = true → PureOK Try.prog 53 (mkA [KTc6, (.int .i64)] x) ⟨.bool, F53 x⟩ :=
  PureOK.ofL (ts := [KTc6, (.int .i64)]) (T := .bool) (S := E53) CxOK53 Try.func53 (LOK.fn LOK53) (fun x => t53   x.1 x.2.1)
noncomputable def kn43 : Kn := kOf [(17, sm [KTc19] KTc19 F17 G17), (53, sm [KTc6, (.int .i64)] .bool F53 G53)]
theorem knOK43 : KOK Try.prog kn43 := (KOK.cons Try.call17 (SmOK.sm p17) (KOK.cons Try.call53 (SmOK.sm p53) KOK.nil))
noncomputable def V43_0 : (Int × Unit × Unit × Int × KDc15 × KDc15 × Unit) → Option ((Int × Unit × Unit × Int × KDc15 × KDc15 × Unit) ⊕ (Int × Unit × Unit × KDc15 × KDc15 × Unit)) := fun x => R43_0 F17 G17 F53 G53 (fun _ => (0, (), (), ([], ([], (0, ([], (0, ()))))), ([], ([], (0, ([], (0, ()))))), ())) (fun _ => false) (fun _ => ((), (), ([], ([], (0, ([], (0, ()))))), ([], ([], (0, ([], (0, ()))))), ())) (fun _ => false) x.1 x.2.1 x.2.2.1 x.2.2.2.1 x.2.2.2.2.1 x.2.2.2.2.2.1
noncomputable def W43_0 : (Int × Unit × Unit × Int × KDc15 × KDc15 × Unit) → (Int × Unit × Unit × KDc15 × KDc15 × Unit) := whV (hd := hd43_0) (ys := ys43_0) V43_0
noncomputable def Q43_0 : (Int × Unit × Unit × Int × KDc15 × KDc15 × Unit) → Bool := whK (hd := hd43_0) (ys := ys43_0) V43_0
noncomputable def V43_2 : (Int × Unit × Unit × Int × KDc15 × KDc15 × Unit) → Option ((Int × Unit × Unit × Int × KDc15 × KDc15 × Unit) ⊕ (Unit × Unit × KDc15 × KDc15 × Unit)) := fun x => R43_2 F17 G17 F53 G53 W43_0 Q43_0 (fun _ => ((), (), ([], ([], (0, ([], (0, ()))))), ([], ([], (0, ([], (0, ()))))), ())) (fun _ => false) x.1 x.2.1 x.2.2.1 x.2.2.2.1 x.2.2.2.2.1 x.2.2.2.2.2.1
noncomputable def W43_2 : (Int × Unit × Unit × Int × KDc15 × KDc15 × Unit) → (Unit × Unit × KDc15 × KDc15 × Unit) := whV (hd := hd43_2) (ys := ys43_2) V43_2
noncomputable def Q43_2 : (Int × Unit × Unit × Int × KDc15 × KDc15 × Unit) → Bool := whK (hd := hd43_2) (ys := ys43_2) V43_2
noncomputable def C43 : Cx := CxL Try.Θl kn43 (lOf [(0, orc 47 26 0 hd43_0 ys43_0 W43_0 Q43_0), (2, orc 47 50 2 hd43_2 ys43_2 W43_2 Q43_2)])
theorem CxOK43 : CxOK Try.prog C43 := ⟨Try.tabOKl, knOK43, by kernel_rfl, POK.none⟩
theorem l43_0 : Lone Try.prog C43 0 (.loop (loopB 0 (bodyF Try.f43))) (orc 47 26 0 hd43_0 ys43_0 W43_0 Q43_0) :=
  Lone.of CxOK43 (Lall.LOK rfl (by kernel_rfl) (Lall.skip (by kernel_rfl) (Lall.skip (by kernel_rfl) trivial))) (by kernel_rfl) (fun x => (r43_0 F17 G17 F53 G53 W43_0 Q43_0 W43_2 Q43_2 x.1 x.2.1 x.2.2.1 x.2.2.2.1 x.2.2.2.2.1 x.2.2.2.2.2.1).trans (by first | (delta V43_0 R43_0; with_reducible rfl) | rfl))
theorem l43_2 : Lone Try.prog C43 2 (.loop (loopB 2 (bodyF Try.f43))) (orc 47 50 2 hd43_2 ys43_2 W43_2 Q43_2) :=
  Lone.of CxOK43 (Lall.LOK rfl (by kernel_rfl) (Lall.skip (by kernel_rfl) (Lall.skip (by kernel_rfl) trivial))) (by kernel_rfl) (fun x => (r43_2 F17 G17 F53 G53 W43_0 Q43_0 W43_2 Q43_2 x.1 x.2.1 x.2.2.1 x.2.2.2.1 x.2.2.2.2.1 x.2.2.2.2.2.1).trans (by first | (delta V43_2 R43_2; with_reducible rfl) | rfl))
theorem LOK43 : LOK Try.prog C43 0 (bodyF Try.f43) := (Lall.LOK rfl (by kernel_rfl) (Lall.cons (by kernel_rfl) l43_0 (Lall.cons (by kernel_rfl) l43_2 trivial)))
noncomputable def E43 : (KDc15 × Int × Unit) → Option KDc15 := fun x => S43 F17 G17 F53 G53 W43_0 Q43_0 W43_2 Q43_2 x.1 x.2.1
noncomputable def F43 : (KDc15 × Int × Unit) → KDc15 := fun x => (E43 x).getD (dflt KTc19)
noncomputable def G43 : (KDc15 × Int × Unit) → Bool := fun x => (E43 x).isSome
theorem p43 : ∀ x, G43 x = true → PureOK Try.prog 43 (mkA [KTc19, (.int .i64)] x) ⟨KTc19, F43 x⟩ :=
  PureOK.ofL (ts := [KTc19, (.int .i64)]) (T := KTc19) (S := E43) CxOK43 Try.func43 (LOK.fn LOK43) (fun x => t43 F17 G17 F53 G53 W43_0 Q43_0 W43_2 Q43_2 x.1 x.2.1)
noncomputable def kn21 : Kn := kOf [(43, sm [KTc19, (.int .i64)] KTc19 F43 G43)]
theorem knOK21 : KOK Try.prog kn21 := (KOK.cons Try.call43 (SmOK.sm p43) KOK.nil)
noncomputable def C21 : Cx := CxL Try.Θl kn21 (lOf [])
theorem CxOK21 : CxOK Try.prog C21 := ⟨Try.tabOKl, knOK21, by kernel_rfl, POK.none⟩
theorem LOK21 : LOK Try.prog C21 0 (bodyF Try.f21) := (Lall.LOK rfl (by kernel_rfl) trivial)
noncomputable def E21 : (KDc15 × Unit) → Option KDc15 := fun x => S21 F43 G43  x.1
noncomputable def F21 : (KDc15 × Unit) → KDc15 := fun x => (E21 x).getD (dflt KTc19)
noncomputable def G21 : (KDc15 × Unit) → Bool := fun x => (E21 x).isSome
theorem p21 : ∀ x, G21 x = true → PureOK Try.prog 21 (mkA [KTc19] x) ⟨KTc19, F21 x⟩ :=
  PureOK.ofL (ts := [KTc19]) (T := KTc19) (S := E21) CxOK21 Try.func21 (LOK.fn LOK21) (fun x => t21 F43 G43  x.1)
noncomputable def kn22 : Kn := kOf [(37, smG [.im ODc0, .cl 44 [(1, (.int .i64))]] ODc0 1 F37c G37c), (39, smG [.mv ODc0, .p (.v (.int .i64))] ODc0 1 F39 G39)]
theorem knOK22 : KOK Try.prog kn22 := (KOK.cons Try.call37 sm37c_ok (KOK.cons Try.call39 sm39_ok KOK.nil))
noncomputable def C22 : Cx := CxL Try.Θ kn22 (lOf [(3000003, fun _ => [])])
theorem CxOK22 : CxOK Try.prog C22 := ⟨Try.tabOK, knOK22, by kernel_rfl, POK.none⟩
theorem LOK22 : LOK Try.prog C22 1 (bodyF Try.f22) := (Lall.LOK rfl (by kernel_rfl) (Lall.skip (by kernel_rfl) trivial))
noncomputable def E22 : (KDc20 × Int × Unit) → Option KDc20 := fun x => S22 F37c G37c F39 G39  x.1 x.2.1
noncomputable def F22 : (KDc20 × Int × Unit) → KDc20 := fun x => (E22 x).getD (Dk.dflt ODc0)
noncomputable def G22 : (KDc20 × Int × Unit) → Bool := fun x => (E22 x).isSome
theorem p22 : ∀ x, G22 x = true → PureOK Try.prog 22 (mkA [KTc19, (.int .i64)] x) ⟨KTc19, F22 x⟩ := PureOK.ofW (pts := [.im ODc0, .p (.v (.int .i64))]) (n1 := 1) (D := ODc0) (S := E22) CxOK22 Try.func22 (LOK.fn LOK22) (by kernel_rfl) (fun x => t22 F37c G37c F39 G39  x.1 x.2.1)
noncomputable def kn23 : Kn := kOf [(17, sm [KTc19] KTc19 F17 G17), (41, sm [(.vsl (.int .i64)), (.int .i64)] (.vsl (.int .i64)) F41 G41), (43, sm [KTc19, (.int .i64)] KTc19 F43 G43)]
theorem knOK23 : KOK Try.prog kn23 := (KOK.cons Try.call17 (SmOK.sm p17) (KOK.cons Try.call41 (SmOK.sm p41) (KOK.cons Try.call43 (SmOK.sm p43) KOK.nil)))
noncomputable def C23 : Cx := CxL Try.Θl kn23 (lOf [])
theorem CxOK23 : CxOK Try.prog C23 := ⟨Try.tabOKl, knOK23, by kernel_rfl, POK.none⟩
theorem LOK23 : LOK Try.prog C23 0 (bodyF Try.f23) := (Lall.LOK rfl (by kernel_rfl) trivial)
noncomputable def E23 : (KDc15 × Int × Unit) → Option KDc15 := fun x => S23 F17 G17 F41 G41 F43 G43  x.1 x.2.1
noncomputable def F23 : (KDc15 × Int × Unit) → KDc15 := fun x => (E23 x).getD (dflt KTc19)
noncomputable def G23 : (KDc15 × Int × Unit) → Bool := fun x => (E23 x).isSome
theorem p23 : ∀ x, G23 x = true → PureOK Try.prog 23 (mkA [KTc19, (.int .i64)] x) ⟨KTc19, F23 x⟩ :=
  PureOK.ofL (ts := [KTc19, (.int .i64)]) (T := KTc19) (S := E23) CxOK23 Try.func23 (LOK.fn LOK23) (fun x => t23 F17 G17 F41 G41 F43 G43  x.1 x.2.1)
noncomputable def kn6 : Kn := kOf [(7, sm [KTc19] .bool F7 G7), (8, sm [] .bool F8 G8), (12, sm [KTc19, KTc19] .bool F12 G12), (17, sm [KTc19] KTc19 F17 G17), (18, sm [KTc19, (.int .i64), .bool] KTc19 F18 G18), (19, sm [KTc19, (.int .i64), .bool] KTc19 F19 G19), (20, sm [KTc19] KTc19 F20 G20), (21, sm [KTc19] KTc19 F21 G21), (22, sm [KTc19, (.int .i64)] KTc19 F22 G22), (23, sm [KTc19, (.int .i64)] KTc19 F23 G23)]
theorem knOK6 : KOK Try.prog kn6 := (KOK.cons Try.call7 (SmOK.sm p7) (KOK.cons Try.call8 (SmOK.sm p8) (KOK.cons Try.call12 (SmOK.sm p12) (KOK.cons Try.call17 (SmOK.sm p17) (KOK.cons Try.call18 (SmOK.sm p18) (KOK.cons Try.call19 (SmOK.sm p19) (KOK.cons Try.call20 (SmOK.sm p20) (KOK.cons Try.call21 (SmOK.sm p21) (KOK.cons Try.call22 (SmOK.sm p22) (KOK.cons Try.call23 (SmOK.sm p23) KOK.nil))))))))))
noncomputable def C6 : Cx := CxL Try.Θl kn6 (lOf [])
theorem CxOK6 : CxOK Try.prog C6 := ⟨Try.tabOKl, knOK6, by kernel_rfl, POK.none⟩
theorem LOK6 : LOK Try.prog C6 0 (bodyF Try.f6) := (Lall.LOK rfl (by kernel_rfl) trivial)
noncomputable def E6 : (KDc15 × Int × Bool × Unit) → Option Bool := fun x => S6 F7 G7 F8 G8 F12 G12 F17 G17 F18 G18 F19 G19 F20 G20 F21 G21 F22 G22 F23 G23  x.1 x.2.1 x.2.2.1
noncomputable def F6 : (KDc15 × Int × Bool × Unit) → Bool := fun x => (E6 x).getD (dflt .bool)
noncomputable def G6 : (KDc15 × Int × Bool × Unit) → Bool := fun x => (E6 x).isSome
theorem p6 : ∀ x, G6 x = true → PureOK Try.prog 6 (mkA [KTc19, (.int .i64), .bool] x) ⟨.bool, F6 x⟩ :=
  PureOK.ofL (ts := [KTc19, (.int .i64), .bool]) (T := .bool) (S := E6) CxOK6 Try.func6 (LOK.fn LOK6) (fun x => t6 F7 G7 F8 G8 F12 G12 F17 G17 F18 G18 F19 G19 F20 G20 F21 G21 F22 G22 F23 G23  x.1 x.2.1 x.2.2.1)
end Go.Proofs
