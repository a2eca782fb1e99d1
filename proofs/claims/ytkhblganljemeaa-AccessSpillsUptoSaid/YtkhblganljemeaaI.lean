import Derived.Test.YtkhblganljemeaaB
import Derived.Test.YtkhblganljemeaaGd
namespace Go.Proofs
open Go.GX
set_option linter.unusedVariables false
set_option maxRecDepth 100000

noncomputable def kn16 : Kn := kOf []
theorem knOK16 : KOK Try.prog kn16 := KOK.nil
noncomputable def C16 : Cx := CxL Try.Θ kn16 (lOf [])
theorem CxOK16 : CxOK Try.prog C16 := ⟨Try.tabOK, knOK16, by kernel_rfl, POK.none⟩
theorem LOK16 : LOK Try.prog C16 0 (bodyF Try.f16) := (Lall.LOK rfl (by kernel_rfl) trivial)
noncomputable def E16 : (Int × Unit) → Option KD0 := fun x => S16   x.1
noncomputable def F16 : (Int × Unit) → KD0 := fun x => (E16 x).getD (dflt KT8)
noncomputable def G16 : (Int × Unit) → Bool := fun x => (E16 x).isSome
theorem p16 : ∀ x, G16 x = true → PureOK Try.prog 16 (mkA [(.int .u64)] x) ⟨KT8, F16 x⟩ :=
  PureOK.ofS (ts := [(.int .u64)]) (T := KT8) (S := E16) CxOK16 Try.func16 (LOK.fn LOK16) (fun x => t16   x.1)
noncomputable def kn14 : Kn := kOf [(16, sm [(.int .u64)] KT8 F16 G16)]
theorem knOK14 : KOK Try.prog kn14 := (KOK.cons Try.call16 (SmOK.sm p16) KOK.nil)
noncomputable def C14 : Cx := CxL Try.Θ kn14 (lOf [])
theorem CxOK14 : CxOK Try.prog C14 := ⟨Try.tabOK, knOK14, by kernel_rfl, POK.none⟩
theorem LOK14 : LOK Try.prog C14 0 (bodyF Try.f14) := (Lall.LOK rfl (by kernel_rfl) trivial)
noncomputable def E14 : (Unit) → Option KD6 := fun x => S14 F16 G16  
noncomputable def F14 : (Unit) → KD6 := fun x => (E14 x).getD (dflt KT17)
noncomputable def G14 : (Unit) → Bool := fun x => (E14 x).isSome
theorem p14 : ∀ x, G14 x = true → PureOK Try.prog 14 (mkA [] x) ⟨KT17, F14 x⟩ :=
  PureOK.ofS (ts := []) (T := KT17) (S := E14) CxOK14 Try.func14 (LOK.fn LOK14) (fun x => t14 F16 G16  )
noncomputable def kn22 : Kn := kOf []
theorem knOK22 : KOK Try.prog kn22 := KOK.nil
noncomputable def C22 : Cx := CxL Try.Θ kn22 (lOf [])
theorem CxOK22 : CxOK Try.prog C22 := ⟨Try.tabOK, knOK22, by kernel_rfl, POK.none⟩
theorem LOK22 : LOK Try.prog C22 0 (bodyF Try.f22) := (Lall.LOK rfl (by kernel_rfl) trivial)
noncomputable def E22 : (Int × Int × Unit) → Option Bool := fun x => S22   x.1 x.2.1
noncomputable def F22 : (Int × Int × Unit) → Bool := fun x => (E22 x).getD (dflt .bool)
noncomputable def G22 : (Int × Int × Unit) → Bool := fun x => (E22 x).isSome
theorem p22 : ∀ x, G22 x = true → PureOK Try.prog 22 (mkA [(.int .i64), (.int .i64)] x) ⟨.bool, F22 x⟩ :=
  PureOK.ofS (ts := [(.int .i64), (.int .i64)]) (T := .bool) (S := E22) CxOK22 Try.func22 (LOK.fn LOK22) (fun x => t22   x.1 x.2.1)
noncomputable def kn21 : Kn := kOf []
theorem knOK21 : KOK Try.prog kn21 := KOK.nil
noncomputable def C21 : Cx := CxL Try.Θ kn21 (lOf [])
theorem CxOK21 : CxOK Try.prog C21 := ⟨Try.tabOK, knOK21, by kernel_rfl, POK.none⟩
theorem LOK21 : LOK Try.prog C21 0 (bodyF Try.f21) := (Lall.LOK rfl (by kernel_rfl) trivial)
noncomputable def E21 : (Bool × Int × Unit) → Option (Int ⊕ Unit) := fun x => S21   x.1 x.2.1
noncomputable abbrev V21 : (Bool × Int × Unit) → Unit := panV (dflt .tnil) E21
noncomputable abbrev K21 : (Bool × Int × Unit) → Bool := panK E21
noncomputable abbrev Q21_0 : (Bool × Int × Unit) → Bool := panQ E21 (fun x => x.2.1)
theorem pk21 : POK1 Try.prog 21 (pm [.bool, (.int .i64)] .tnil 81 [(Q21_0, (fun x => x.2.1))] V21 K21) :=
  POK1.pm (ts := [.bool, (.int .i64)]) (T := .tnil) (E := E21) [(fun x => x.2.1)] (fnP_E (ts := [.bool, (.int .i64)]) (T := .tnil) (E := E21) CxOK21 Try.func21 (LOK.fn LOK21) (fun x => t21   x.1 x.2.1))
noncomputable def kn23 : Kn := kOf []
theorem knOK23 : KOK Try.prog kn23 := KOK.nil
noncomputable def C23 : Cx := CxL Try.Θ kn23 (lOf [])
theorem CxOK23 : CxOK Try.prog C23 := ⟨Try.tabOK, knOK23, by kernel_rfl, POK.none⟩
theorem LOK23 : LOK Try.prog C23 0 (bodyF Try.f23) := (Lall.LOK rfl (by kernel_rfl) trivial)
noncomputable def E23 : (Int × Int × Unit) → Option Bool := fun x => S23   x.1 x.2.1
noncomputable def F23 : (Int × Int × Unit) → Bool := fun x => (E23 x).getD (dflt .bool)
noncomputable def G23 : (Int × Int × Unit) → Bool := fun x => (E23 x).isSome
theorem p23 : ∀ x, G23 x = true → PureOK Try.prog 23 (mkA [(.int .i64), (.int .i64)] x) ⟨.bool, F23 x⟩ :=
  PureOK.ofS (ts := [(.int .i64), (.int .i64)]) (T := .bool) (S := E23) CxOK23 Try.func23 (LOK.fn LOK23) (fun x => t23   x.1 x.2.1)
noncomputable def kn28 : Kn := kOf [(46, sm [(.vsl (.int .i64))] (.vsl (.int .i64)) F46 G46)]
theorem knOK28 : KOK Try.prog kn28 := (KOK.cons Try.call46 (SmOK.sm p46) KOK.nil)
noncomputable def C28 : Cx := CxL Try.Θ kn28 (lOf [])
theorem CxOK28 : CxOK Try.prog C28 := ⟨Try.tabOK, knOK28, by kernel_rfl, POK.none⟩
theorem LOK28 : LOK Try.prog C28 0 (bodyF Try.f28) := (Lall.LOK rfl (by kernel_rfl) trivial)
noncomputable def E28 : (KD6 × Unit) → Option KD6 := fun x => S28 F46 G46  x.1
noncomputable def F28 : (KD6 × Unit) → KD6 := fun x => (E28 x).getD (dflt KT17)
noncomputable def G28 : (KD6 × Unit) → Bool := fun x => (E28 x).isSome
theorem p28 : ∀ x, G28 x = true → PureOK Try.prog 28 (mkA [KT17] x) ⟨KT17, F28 x⟩ :=
  PureOK.ofS (ts := [KT17]) (T := KT17) (S := E28) CxOK28 Try.func28 (LOK.fn LOK28) (fun x => t28 F46 G46  x.1)
noncomputable def kn11 : Kn := kOf [(22, sm [(.int .i64), (.int .i64)] .bool F22 G22), (23, sm [(.int .i64), (.int .i64)] .bool F23 G23), (28, sm [KT17] KT17 F28 G28)]
theorem knOK11 : KOK Try.prog kn11 := (KOK.cons Try.call22 (SmOK.sm p22) (KOK.cons Try.call23 (SmOK.sm p23) (KOK.cons Try.call28 (SmOK.sm p28) KOK.nil)))
noncomputable def V11_0 : (Int × Int × Unit × Unit × Unit × Int × KD6 × KD6 × Int × Unit) → Option ((Int × Int × Unit × Unit × Unit × Int × KD6 × KD6 × Int × Unit) ⊕ (Unit × Unit × Unit × KD6 × KD6 × Int × Unit)) := fun x => R11_0 F22 G22 F23 G23 F28 G28 V21 K21 Q21_0 (fun _ => ((), (), (), ([], ([], (0, ([], (0, ()))))), ([], ([], (0, ([], (0, ()))))), 0, ())) (fun _ => false) x.1 x.2.1 x.2.2.1 x.2.2.2.1 x.2.2.2.2.1 x.2.2.2.2.2.1 x.2.2.2.2.2.2.1 x.2.2.2.2.2.2.2.1 x.2.2.2.2.2.2.2.2.1
noncomputable def W11_0 : (Int × Int × Unit × Unit × Unit × Int × KD6 × KD6 × Int × Unit) → (Unit × Unit × Unit × KD6 × KD6 × Int × Unit) := whV (hd := hd11_0) (ys := ys11_0) V11_0
noncomputable def Q11_0 : (Int × Int × Unit × Unit × Unit × Int × KD6 × KD6 × Int × Unit) → Bool := whK (hd := hd11_0) (ys := ys11_0) V11_0
noncomputable def C11 : Cx := CxP Try.Θ kn11 (lOf [(0, orc 91 28 0 hd11_0 ys11_0 W11_0 Q11_0)]) (pOf [(21, pm [.bool, (.int .i64)] .tnil 81 [(Q21_0, (fun x => x.2.1))] V21 K21)])
theorem CxOK11 : CxOK Try.prog C11 := ⟨Try.tabOK, knOK11, by kernel_rfl, (POK.cons Try.call21 pk21 POK.nil)⟩
theorem l11_0 [DefL] : Lone Try.prog C11 0 (.loop (loopB 0 (bodyF Try.f11))) (orc 91 28 0 hd11_0 ys11_0 W11_0 Q11_0) 4 :=
  Lone.of CxOK11 (Lall.LOK rfl (by kernel_rfl) (Lall.skip (by kernel_rfl) trivial)) (by kernel_rfl) (fun x => (r11_0 F22 G22 F23 G23 F28 G28 V21 K21 Q21_0 W11_0 Q11_0 x.1 x.2.1 x.2.2.1 x.2.2.2.1 x.2.2.2.2.1 x.2.2.2.2.2.1 x.2.2.2.2.2.2.1 x.2.2.2.2.2.2.2.1 x.2.2.2.2.2.2.2.2.1).trans (by first | (delta V11_0 R11_0; with_reducible rfl) | rfl))
theorem LOK11 [DefL] : LOK Try.prog C11 4 (restD Try.f11) := (Lall.LOK rfl (by kernel_rfl) (Lall.cons (by kernel_rfl) l11_0 trivial))
noncomputable def E11 : (KD6 × Int × Int × (Int × (KD0 × KD1)) × Unit) → Option (KD6 × (Int × Unit)) := fun x => S11 F22 G22 F23 G23 F28 G28 V21 K21 Q21_0 W11_0 Q11_0 x.1 x.2.1 x.2.2.1 x.2.2.2.1
noncomputable def F11 : (KD6 × Int × Int × (Int × (KD0 × KD1)) × Unit) → (KD6 × (Int × Unit)) := fun x => (E11 x).getD (dflt (.tup KT17 KT18))
noncomputable def G11 : (KD6 × Int × Int × (Int × (KD0 × KD1)) × Unit) → Bool := fun x => (E11 x).isSome
theorem p11 : ∀ x, G11 x = true → PureOK Try.prog 11 (mkA [KT17, (.int .i64), (.int .i64), KT11] x) ⟨(.tup KT17 KT18), F11 x⟩ :=
  PureOK.ofD (ts := [KT17, (.int .i64), (.int .i64), KT11]) (T := (.tup KT17 KT18)) (S := E11) (kp := 4) CxOK11 Try.func11 Try.func20 Try.call20 df20 (by kernel_rfl) (fun _ => LOK11) (fun x => t11 F22 G22 F23 G23 F28 G28 V21 K21 Q21_0 W11_0 Q11_0 x.1 x.2.1 x.2.2.1 x.2.2.2.1)
noncomputable def kn15 : Kn := kOf []
theorem knOK15 : KOK Try.prog kn15 := KOK.nil
noncomputable def C15 : Cx := CxL Try.Θ kn15 (lOf [])
theorem CxOK15 : CxOK Try.prog C15 := ⟨Try.tabOK, knOK15, by kernel_rfl, POK.none⟩
theorem LOK15 : LOK Try.prog C15 0 (bodyF Try.f15) := (Lall.LOK rfl (by kernel_rfl) trivial)
noncomputable def E15 : (KD0 × Unit) → Option (Int × (KD0 × KD1)) := fun x => S15   x.1
noncomputable def F15 : (KD0 × Unit) → (Int × (KD0 × KD1)) := fun x => (E15 x).getD (dflt KT11)
noncomputable def G15 : (KD0 × Unit) → Bool := fun x => (E15 x).isSome
theorem p15 : ∀ x, G15 x = true → PureOK Try.prog 15 (mkA [KT8] x) ⟨KT11, F15 x⟩ :=
  PureOK.ofS (ts := [KT8]) (T := KT11) (S := E15) CxOK15 Try.func15 (LOK.fn LOK15) (fun x => t15   x.1)
noncomputable def kn24 : Kn := kOf []
theorem knOK24 : KOK Try.prog kn24 := KOK.nil
noncomputable def C24 : Cx := CxP Try.Θ kn24 (lOf []) (pOf [(21, pm [.bool, (.int .i64)] .tnil 81 [(Q21_0, (fun x => x.2.1))] V21 K21)])
theorem CxOK24 : CxOK Try.prog C24 := ⟨Try.tabOK, knOK24, by kernel_rfl, (POK.cons Try.call21 pk21 POK.nil)⟩
theorem LOK24 : LOK Try.prog C24 0 (bodyF Try.f24) := (Lall.LOK rfl (by kernel_rfl) trivial)
noncomputable def E24 : (KD6 × Int × Unit) → Option (Int ⊕ Unit) := fun x => S24  V21 K21 Q21_0  x.1 x.2.1
noncomputable abbrev V24 : (KD6 × Int × Unit) → Unit := panV (dflt .tnil) E24
noncomputable abbrev K24 : (KD6 × Int × Unit) → Bool := panK E24
noncomputable abbrev Q24_0 : (KD6 × Int × Unit) → Bool := panQ E24 (fun _ => 63)
noncomputable abbrev Q24_1 : (KD6 × Int × Unit) → Bool := panQ E24 (fun _ => 60)
theorem pk24 : POK1 Try.prog 24 (pm [KT17, (.int .i64)] .tnil 81 [(Q24_0, (fun _ => 63)), (Q24_1, (fun _ => 60))] V24 K24) :=
  POK1.pm (ts := [KT17, (.int .i64)]) (T := .tnil) (E := E24) [(fun _ => 63), (fun _ => 60)] (fnP_E (ts := [KT17, (.int .i64)]) (T := .tnil) (E := E24) CxOK24 Try.func24 (LOK.fn LOK24) (fun x => t24  V21 K21 Q21_0  x.1 x.2.1))
noncomputable def kn9 : Kn := kOf [(22, sm [(.int .i64), (.int .i64)] .bool F22 G22), (23, sm [(.int .i64), (.int .i64)] .bool F23 G23), (25, sm [(.int .i64)] KT11 F25 G25)]
theorem knOK9 : KOK Try.prog kn9 := (KOK.cons Try.call22 (SmOK.sm p22) (KOK.cons Try.call23 (SmOK.sm p23) (KOK.cons Try.call25 (SmOK.sm p25) KOK.nil)))
noncomputable def V9_0 : (Int × Int × Unit × Unit × Unit × Int × Int × KD6 × (Int × (KD0 × KD1)) × Int × Unit) → Option ((Int × Int × Unit × Unit × Unit × Int × Int × KD6 × (Int × (KD0 × KD1)) × Int × Unit) ⊕ ((Int × Unit × Unit × (Int × (KD0 × KD1)) × Int × Unit) ⊕ ((Unit × Unit × (Int × (KD0 × KD1)) × Int × Unit) ⊕ (Unit × Unit × (Int × (KD0 × KD1)) × Int × Unit)))) := fun x => R9_0 F22 G22 F23 G23 F25 G25 V21 K21 Q21_0 V24 K24 Q24_0 Q24_1 (fun _ => (Sum.inl (0, (), (), (0, (((0, (0, ())), (0, (0, ()))), (0, (0, (0, ()))))), 0, ()))) (fun _ => false) x.1 x.2.1 x.2.2.1 x.2.2.2.1 x.2.2.2.2.1 x.2.2.2.2.2.1 x.2.2.2.2.2.2.1 x.2.2.2.2.2.2.2.1 x.2.2.2.2.2.2.2.2.1 x.2.2.2.2.2.2.2.2.2.1
noncomputable def W9_0 : (Int × Int × Unit × Unit × Unit × Int × Int × KD6 × (Int × (KD0 × KD1)) × Int × Unit) → ((Int × Unit × Unit × (Int × (KD0 × KD1)) × Int × Unit) ⊕ ((Unit × Unit × (Int × (KD0 × KD1)) × Int × Unit) ⊕ (Unit × Unit × (Int × (KD0 × KD1)) × Int × Unit))) := whV (hd := hd9_0) (ys := ys9_0) V9_0
noncomputable def Q9_0 : (Int × Int × Unit × Unit × Unit × Int × Int × KD6 × (Int × (KD0 × KD1)) × Int × Unit) → Bool := whK (hd := hd9_0) (ys := ys9_0) V9_0
noncomputable def C9 : Cx := CxP Try.Θ kn9 (lOf [(0, orc 41 28 0 hd9_0 ys9_0 W9_0 Q9_0)]) (pOf [(21, pm [.bool, (.int .i64)] .tnil 81 [(Q21_0, (fun x => x.2.1))] V21 K21), (24, pm [KT17, (.int .i64)] .tnil 81 [(Q24_0, (fun _ => 63)), (Q24_1, (fun _ => 60))] V24 K24)])
theorem CxOK9 : CxOK Try.prog C9 := ⟨Try.tabOK, knOK9, by kernel_rfl, (POK.cons Try.call21 pk21 (POK.cons Try.call24 pk24 POK.nil))⟩
theorem l9_0 [DefL] : Lone Try.prog C9 0 (.loop (loopB 0 (bodyF Try.f9))) (orc 41 28 0 hd9_0 ys9_0 W9_0 Q9_0) 3 :=
  Lone.of CxOK9 (Lall.LOK rfl (by kernel_rfl) (Lall.skip (by kernel_rfl) trivial)) (by kernel_rfl) (fun x => (r9_0 F22 G22 F23 G23 F25 G25 V21 K21 Q21_0 V24 K24 Q24_0 Q24_1 W9_0 Q9_0 x.1 x.2.1 x.2.2.1 x.2.2.2.1 x.2.2.2.2.1 x.2.2.2.2.2.1 x.2.2.2.2.2.2.1 x.2.2.2.2.2.2.2.1 x.2.2.2.2.2.2.2.2.1 x.2.2.2.2.2.2.2.2.2.1).trans (by first | (delta V9_0 R9_0; with_reducible rfl) | rfl))
theorem LOK9 [DefL] : LOK Try.prog C9 3 (restD Try.f9) := (Lall.LOK rfl (by kernel_rfl) (Lall.cons (by kernel_rfl) l9_0 trivial))
noncomputable def E9 : (KD6 × Int × Int × Unit) → Option KD19 := fun x => S9 F22 G22 F23 G23 F25 G25 V21 K21 Q21_0 V24 K24 Q24_0 Q24_1 W9_0 Q9_0 x.1 x.2.1 x.2.2.1
noncomputable def F9 : (KD6 × Int × Int × Unit) → KD19 := fun x => (E9 x).getD (dflt (.tup KT11 KT18))
noncomputable def G9 : (KD6 × Int × Int × Unit) → Bool := fun x => (E9 x).isSome
theorem p9 : ∀ x, G9 x = true → PureOK Try.prog 9 (mkA [KT17, (.int .i64), (.int .i64)] x) ⟨(.tup KT11 KT18), F9 x⟩ :=
  PureOK.ofD (ts := [KT17, (.int .i64), (.int .i64)]) (T := (.tup KT11 KT18)) (S := E9) (kp := 3) CxOK9 Try.func9 Try.func20 Try.call20 df20 (by kernel_rfl) (fun _ => LOK9) (fun x => t9 F22 G22 F23 G23 F25 G25 V21 K21 Q21_0 V24 K24 Q24_0 Q24_1 W9_0 Q9_0 x.1 x.2.1 x.2.2.1)
noncomputable def kn5 : Kn := kOf [(8, sm [] .bool F8 G8), (9, sm [KT17, (.int .i64), (.int .i64)] (.tup KT11 KT18) F9 G9), (11, sm [KT17, (.int .i64), (.int .i64), KT11] (.tup KT17 KT18) F11 G11), (14, sm [] KT17 F14 G14), (15, sm [KT8] KT11 F15 G15), (16, sm [(.int .u64)] KT8 F16 G16)]
theorem knOK5 : KOK Try.prog kn5 := (KOK.cons Try.call8 (SmOK.sm p8) (KOK.cons Try.call9 (SmOK.sm p9) (KOK.cons Try.call11 (SmOK.sm p11) (KOK.cons Try.call14 (SmOK.sm p14) (KOK.cons Try.call15 (SmOK.sm p15) (KOK.cons Try.call16 (SmOK.sm p16) KOK.nil))))))
noncomputable def C5 : Cx := CxL Try.Θ kn5 (lOf [])
theorem CxOK5 : CxOK Try.prog C5 := ⟨Try.tabOK, knOK5, by kernel_rfl, POK.none⟩
theorem LOK5 : LOK Try.prog C5 0 (bodyF Try.f5) := (Lall.LOK rfl (by kernel_rfl) trivial)
noncomputable def E5 : (Int × (List Int) × (List Int) × Unit) → Option Bool := fun x => S5 F8 G8 F9 G9 F11 G11 F14 G14 F15 G15 F16 G16  x.1 x.2.1 x.2.2.1
noncomputable def F5 : (Int × (List Int) × (List Int) × Unit) → Bool := fun x => (E5 x).getD (dflt .bool)
noncomputable def G5 : (Int × (List Int) × (List Int) × Unit) → Bool := fun x => (E5 x).isSome
theorem p5 : ∀ x, G5 x = true → PureOK Try.prog 5 (mkA [(.int .i64), (.arr 2 (.int .i64)), (.arr 2 (.int .i64))] x) ⟨.bool, F5 x⟩ :=
  PureOK.ofS (ts := [(.int .i64), (.arr 2 (.int .i64)), (.arr 2 (.int .i64))]) (T := .bool) (S := E5) CxOK5 Try.func5 (LOK.fn LOK5) (fun x => t5 F8 G8 F9 G9 F11 G11 F14 G14 F15 G15 F16 G16  x.1 x.2.1 x.2.2.1)
noncomputable def kn47 : Kn := kOf []
theorem knOK47 : KOK Try.prog kn47 := KOK.nil
noncomputable def C47 : Cx := CxL Try.Θ kn47 (lOf [])
theorem CxOK47 : CxOK Try.prog C47 := ⟨Try.tabOK, knOK47, by kernel_rfl, POK.none⟩
theorem LOK47 : LOK Try.prog C47 0 (bodyF Try.f47) := (Lall.LOK rfl (by kernel_rfl) trivial)
noncomputable def E47 : ((Int × (Int × Unit)) × Unit) → Option Bool := fun x => S47   x.1
noncomputable def F47 : ((Int × (Int × Unit)) × Unit) → Bool := fun x => (E47 x).getD (dflt .bool)
noncomputable def G47 : ((Int × (Int × Unit)) × Unit) → Bool := fun x => (E47 x).isSome
theorem p47 : ∀ x, G47 x = true → PureOK Try.prog 47 (mkA [(.pair (.int .u64) KT7)] x) ⟨.bool, F47 x⟩ :=
  PureOK.ofS (ts := [(.pair (.int .u64) KT7)]) (T := .bool) (S := E47) CxOK47 Try.func47 (LOK.fn LOK47) (fun x => t47   x.1)
noncomputable def kn49 : Kn := kOf []
theorem knOK49 : KOK Try.prog kn49 := KOK.nil
noncomputable def V49_0 : (Int × Unit × Int × Int × (Int × (Int × Unit)) × Unit) → Option ((Int × Unit × Int × Int × (Int × (Int × Unit)) × Unit) ⊕ (Int × Unit × Int × (Int × (Int × Unit)) × Unit)) := fun x => R49_0  (fun _ => (0, (), 0, (0, (0, ())), ())) (fun _ => false) x.1 x.2.1 x.2.2.1 x.2.2.2.1 x.2.2.2.2.1
noncomputable def W49_0 : (Int × Unit × Int × Int × (Int × (Int × Unit)) × Unit) → (Int × Unit × Int × (Int × (Int × Unit)) × Unit) := whV (hd := hd49_0) (ys := ys49_0) V49_0
noncomputable def Q49_0 : (Int × Unit × Int × Int × (Int × (Int × Unit)) × Unit) → Bool := whK (hd := hd49_0) (ys := ys49_0) V49_0
noncomputable def C49 : Cx := CxL Try.Θ kn49 (lOf [(0, orc 22 25 0 hd49_0 ys49_0 W49_0 Q49_0)])
theorem CxOK49 : CxOK Try.prog C49 := ⟨Try.tabOK, knOK49, by kernel_rfl, POK.none⟩
theorem l49_0 : Lone Try.prog C49 0 (.loop (loopB 0 (bodyF Try.f49))) (orc 22 25 0 hd49_0 ys49_0 W49_0 Q49_0) :=
  Lone.of CxOK49 (Lall.LOK rfl (by kernel_rfl) (Lall.skip (by kernel_rfl) trivial)) (by kernel_rfl) (fun x => (r49_0  W49_0 Q49_0 x.1 x.2.1 x.2.2.1 x.2.2.2.1 x.2.2.2.2.1).trans (by first | (delta V49_0 R49_0; with_reducible rfl) | rfl))
theorem LOK49 : LOK Try.prog C49 0 (bodyF Try.f49) := (Lall.LOK rfl (by kernel_rfl) (Lall.cons (by kernel_rfl) l49_0 trivial))
noncomputable def E49 : (Int × Int × Unit) → Option (Int × (Int × Unit)) := fun x => S49  W49_0 Q49_0 x.1 x.2.1
noncomputable def F49 : (Int × Int × Unit) → (Int × (Int × Unit)) := fun x => (E49 x).getD (dflt (.pair (.int .u64) KT7))
noncomputable def G49 : (Int × Int × Unit) → Bool := fun x => (E49 x).isSome
theorem p49 : ∀ x, G49 x = true → PureOK Try.prog 49 (mkA [(.int .u64), (.int .u64)] x) ⟨(.pair (.int .u64) KT7), F49 x⟩ :=
  PureOK.ofS (ts := [(.int .u64), (.int .u64)]) (T := (.pair (.int .u64) KT7)) (S := E49) CxOK49 Try.func49 (LOK.fn LOK49) (fun x => t49  W49_0 Q49_0 x.1 x.2.1)
noncomputable def kn48 : Kn := kOf []
theorem knOK48 : KOK Try.prog kn48 := KOK.nil
noncomputable def C48 : Cx := CxL Try.Θ kn48 (lOf [])
theorem CxOK48 : CxOK Try.prog C48 := ⟨Try.tabOK, knOK48, by kernel_rfl, POK.none⟩
theorem LOK48 : LOK Try.prog C48 0 (bodyF Try.f48) := (Lall.LOK rfl (by kernel_rfl) trivial)
noncomputable def E48 : ((Int × (Int × Unit)) × (Int × (Int × Unit)) × Unit) → Option KD20 := fun x => S48   x.1 x.2.1
noncomputable def F48 : ((Int × (Int × Unit)) × (Int × (Int × Unit)) × Unit) → KD20 := fun x => (E48 x).getD (dflt KT21)
noncomputable def G48 : ((Int × (Int × Unit)) × (Int × (Int × Unit)) × Unit) → Bool := fun x => (E48 x).isSome
theorem p48 : ∀ x, G48 x = true → PureOK Try.prog 48 (mkA [(.pair (.int .u64) KT7), (.pair (.int .u64) KT7)] x) ⟨KT21, F48 x⟩ :=
  PureOK.ofS (ts := [(.pair (.int .u64) KT7), (.pair (.int .u64) KT7)]) (T := KT21) (S := E48) CxOK48 Try.func48 (LOK.fn LOK48) (fun x => t48   x.1 x.2.1)
noncomputable def kn30 : Kn := kOf [(47, sm [(.pair (.int .u64) KT7)] .bool F47 G47), (48, sm [(.pair (.int .u64) KT7), (.pair (.int .u64) KT7)] KT21 F48 G48), (49, sm [(.int .u64), (.int .u64)] (.pair (.int .u64) KT7) F49 G49)]
theorem knOK30 : KOK Try.prog kn30 := (KOK.cons Try.call47 (SmOK.sm p47) (KOK.cons Try.call48 (SmOK.sm p48) (KOK.cons Try.call49 (SmOK.sm p49) KOK.nil)))
noncomputable def V30_0 : (Unit × Unit × Int × KD0 × KD0 × Unit) → Option ((Unit × Unit × Int × KD0 × KD0 × Unit) ⊕ ((Unit × Unit × KD0 × KD0 × Unit) ⊕ (Unit × Bool × KD0 × Unit))) := fun x => R30_0 F47 G47 F48 G48 F49 G49 (fun _ => (Sum.inl ((), (), ((0, (0, ())), (0, (0, ()))), ((0, (0, ())), (0, (0, ()))), ()))) (fun _ => false) x.1 x.2.1 x.2.2.1 x.2.2.2.1 x.2.2.2.2.1
noncomputable def W30_0 : (Unit × Unit × Int × KD0 × KD0 × Unit) → ((Unit × Unit × KD0 × KD0 × Unit) ⊕ (Unit × Bool × KD0 × Unit)) := whV (hd := hd30_0) (ys := ys30_0) V30_0
noncomputable def Q30_0 : (Unit × Unit × Int × KD0 × KD0 × Unit) → Bool := whK (hd := hd30_0) (ys := ys30_0) V30_0
noncomputable def C30 : Cx := CxL Try.Θ kn30 (lOf [(0, orc 57 26 0 hd30_0 ys30_0 W30_0 Q30_0)])
theorem CxOK30 : CxOK Try.prog C30 := ⟨Try.tabOK, knOK30, by kernel_rfl, POK.none⟩
theorem l30_0 : Lone Try.prog C30 0 (.loop (loopB 0 (bodyF Try.f30))) (orc 57 26 0 hd30_0 ys30_0 W30_0 Q30_0) :=
  Lone.of CxOK30 (Lall.LOK rfl (by kernel_rfl) (Lall.skip (by kernel_rfl) trivial)) (by kernel_rfl) (fun x => (r30_0 F47 G47 F48 G48 F49 G49 W30_0 Q30_0 x.1 x.2.1 x.2.2.1 x.2.2.2.1 x.2.2.2.2.1).trans (by first | (delta V30_0 R30_0; with_reducible rfl) | rfl))
theorem LOK30 : LOK Try.prog C30 0 (bodyF Try.f30) := (Lall.LOK rfl (by kernel_rfl) (Lall.cons (by kernel_rfl) l30_0 trivial))
noncomputable def E30 : (KD0 × Unit) → Option (KD0 × (Bool × Unit)) := fun x => S30 F47 G47 F48 G48 F49 G49 W30_0 Q30_0 x.1
noncomputable def F30 : (KD0 × Unit) → (KD0 × (Bool × Unit)) := fun x => (E30 x).getD (dflt KT22)
noncomputable def G30 : (KD0 × Unit) → Bool := fun x => (E30 x).isSome
theorem p30 : ∀ x, G30 x = true → PureOK Try.prog 30 (mkA [KT8] x) ⟨KT22, F30 x⟩ :=
  PureOK.ofS (ts := [KT8]) (T := KT22) (S := E30) CxOK30 Try.func30 (LOK.fn LOK30) (fun x => t30 F47 G47 F48 G48 F49 G49 W30_0 Q30_0 x.1)
noncomputable def kn17 : Kn := kOf [(30, sm [KT8] KT22 F30 G30)]
theorem knOK17 : KOK Try.prog kn17 := (KOK.cons Try.call30 (SmOK.sm p30) KOK.nil)
noncomputable def C17 : Cx := CxL Try.Θ kn17 (lOf [])
theorem CxOK17 : CxOK Try.prog C17 := ⟨Try.tabOK, knOK17, by kernel_rfl, POK.none⟩
theorem LOK17 : LOK Try.prog C17 0 (bodyF Try.f17) := (Lall.LOK rfl (by kernel_rfl) trivial)
noncomputable def E17 : (KD0 × Unit) → Option Bool := fun x => S17 F30 G30  x.1
noncomputable def F17 : (KD0 × Unit) → Bool := fun x => (E17 x).getD (dflt .bool)
noncomputable def G17 : (KD0 × Unit) → Bool := fun x => (E17 x).isSome
theorem p17 : ∀ x, G17 x = true → PureOK Try.prog 17 (mkA [KT8] x) ⟨.bool, F17 x⟩ :=
  PureOK.ofS (ts := [KT8]) (T := .bool) (S := E17) CxOK17 Try.func17 (LOK.fn LOK17) (fun x => t17 F30 G30  x.1)
noncomputable def kn7 : Kn := kOf [(17, sm [KT8] .bool F17 G17)]
theorem knOK7 : KOK Try.prog kn7 := (KOK.cons Try.call17 (SmOK.sm p17) KOK.nil)
noncomputable def C7 : Cx := CxL Try.Θ kn7 (lOf [])
theorem CxOK7 : CxOK Try.prog C7 := ⟨Try.tabOK, knOK7, by kernel_rfl, POK.none⟩
theorem LOK7 : LOK Try.prog C7 0 (bodyF Try.f7) := (Lall.LOK rfl (by kernel_rfl) trivial)
noncomputable def E7 : ((Int × (KD0 × KD1)) × Unit) → Option Bool := fun x => S7 F17 G17  x.1
noncomputable def F7 : ((Int × (KD0 × KD1)) × Unit) → Bool := fun x => (E7 x).getD (dflt .bool)
noncomputable def G7 : ((Int × (KD0 × KD1)) × Unit) → Bool := fun x => (E7 x).isSome
theorem p7 : ∀ x, G7 x = true → PureOK Try.prog 7 (mkA [KT11] x) ⟨.bool, F7 x⟩ :=
  PureOK.ofS (ts := [KT11]) (T := .bool) (S := E7) CxOK7 Try.func7 (LOK.fn LOK7) (fun x => t7 F17 G17  x.1)
noncomputable def kn6 : Kn := kOf [(7, sm [KT11] .bool F7 G7)]
theorem knOK6 : KOK Try.prog kn6 := (KOK.cons Try.call7 (SmOK.sm p7) KOK.nil)
noncomputable def V6_0 : (Unit × Int × KD6 × Unit) → Option ((Unit × Int × KD6 × Unit) ⊕ ((Unit × KD6 × Unit) ⊕ (Bool × Unit))) := fun x => R6_0 F7 G7 (fun _ => (Sum.inl ((), ([], ([], (0, ([], (0, ()))))), ()))) (fun _ => false) (fun _ => (Sum.inl ((), ([], ([], (0, ([], (0, ()))))), ()))) (fun _ => false) (fun _ => (Sum.inl ((), 0, ([], ([], (0, ([], (0, ()))))), ()))) (fun _ => false) (fun _ => (Sum.inl ((), ([], ([], (0, ([], (0, ()))))), ()))) (fun _ => false) x.1 x.2.1 x.2.2.1
noncomputable def W6_0 : (Unit × Int × KD6 × Unit) → ((Unit × KD6 × Unit) ⊕ (Bool × Unit)) := whV (hd := hd6_0) (ys := ys6_0) V6_0
noncomputable def Q6_0 : (Unit × Int × KD6 × Unit) → Bool := whK (hd := hd6_0) (ys := ys6_0) V6_0
noncomputable def V6_2 : (Unit × Int × KD6 × Unit) → Option ((Unit × Int × KD6 × Unit) ⊕ ((Unit × KD6 × Unit) ⊕ (Bool × Unit))) := fun x => R6_2 F7 G7 W6_0 Q6_0 (fun _ => (Sum.inl ((), ([], ([], (0, ([], (0, ()))))), ()))) (fun _ => false) (fun _ => (Sum.inl ((), 0, ([], ([], (0, ([], (0, ()))))), ()))) (fun _ => false) (fun _ => (Sum.inl ((), ([], ([], (0, ([], (0, ()))))), ()))) (fun _ => false) x.1 x.2.1 x.2.2.1
noncomputable def W6_2 : (Unit × Int × KD6 × Unit) → ((Unit × KD6 × Unit) ⊕ (Bool × Unit)) := whV (hd := hd6_2) (ys := ys6_2) V6_2
noncomputable def Q6_2 : (Unit × Int × KD6 × Unit) → Bool := whK (hd := hd6_2) (ys := ys6_2) V6_2
noncomputable def V6_6 : (Unit × Int × Int × KD6 × Unit) → Option ((Unit × Int × Int × KD6 × Unit) ⊕ ((Unit × Int × KD6 × Unit) ⊕ (Bool × Unit))) := fun x => R6_6 F7 G7 W6_0 Q6_0 W6_2 Q6_2 (fun _ => (Sum.inl ((), 0, ([], ([], (0, ([], (0, ()))))), ()))) (fun _ => false) (fun _ => (Sum.inl ((), ([], ([], (0, ([], (0, ()))))), ()))) (fun _ => false) x.1 x.2.1 x.2.2.1 x.2.2.2.1
noncomputable def W6_6 : (Unit × Int × Int × KD6 × Unit) → ((Unit × Int × KD6 × Unit) ⊕ (Bool × Unit)) := whV (hd := hd6_6) (ys := ys6_6) V6_6
noncomputable def Q6_6 : (Unit × Int × Int × KD6 × Unit) → Bool := whK (hd := hd6_6) (ys := ys6_6) V6_6
noncomputable def V6_4 : (Unit × Int × KD6 × Unit) → Option ((Unit × Int × KD6 × Unit) ⊕ ((Unit × KD6 × Unit) ⊕ (Bool × Unit))) := fun x => R6_4 F7 G7 W6_0 Q6_0 W6_2 Q6_2 W6_6 Q6_6 (fun _ => (Sum.inl ((), ([], ([], (0, ([], (0, ()))))), ()))) (fun _ => false) x.1 x.2.1 x.2.2.1
noncomputable def W6_4 : (Unit × Int × KD6 × Unit) → ((Unit × KD6 × Unit) ⊕ (Bool × Unit)) := whV (hd := hd6_4) (ys := ys6_4) V6_4
noncomputable def Q6_4 : (Unit × Int × KD6 × Unit) → Bool := whK (hd := hd6_4) (ys := ys6_4) V6_4
noncomputable def C6 : Cx := CxL Try.Θ kn6 (lOf [(0, orc 142 25 0 hd6_0 ys6_0 W6_0 Q6_0), (2, orc 142 49 2 hd6_2 ys6_2 W6_2 Q6_2), (6, orc 142 97 6 hd6_6 ys6_6 W6_6 Q6_6), (4, orc 142 73 4 hd6_4 ys6_4 W6_4 Q6_4)])
theorem CxOK6 : CxOK Try.prog C6 := ⟨Try.tabOK, knOK6, by kernel_rfl, POK.none⟩
theorem l6_0 : Lone Try.prog C6 0 (.loop (loopB 0 (bodyF Try.f6))) (orc 142 25 0 hd6_0 ys6_0 W6_0 Q6_0) :=
  Lone.of CxOK6 (Lall.LOK rfl (by kernel_rfl) (Lall.skip (by kernel_rfl) (Lall.skip (by kernel_rfl) (Lall.skip (by kernel_rfl) (Lall.skip (by kernel_rfl) trivial))))) (by kernel_rfl) (fun x => (r6_0 F7 G7 W6_0 Q6_0 W6_2 Q6_2 W6_6 Q6_6 W6_4 Q6_4 x.1 x.2.1 x.2.2.1).trans (by first | (delta V6_0 R6_0; with_reducible rfl) | rfl))
theorem l6_2 : Lone Try.prog C6 2 (.loop (loopB 2 (bodyF Try.f6))) (orc 142 49 2 hd6_2 ys6_2 W6_2 Q6_2) :=
  Lone.of CxOK6 (Lall.LOK rfl (by kernel_rfl) (Lall.skip (by kernel_rfl) (Lall.skip (by kernel_rfl) (Lall.skip (by kernel_rfl) (Lall.skip (by kernel_rfl) trivial))))) (by kernel_rfl) (fun x => (r6_2 F7 G7 W6_0 Q6_0 W6_2 Q6_2 W6_6 Q6_6 W6_4 Q6_4 x.1 x.2.1 x.2.2.1).trans (by first | (delta V6_2 R6_2; with_reducible rfl) | rfl))
theorem l6_6 : Lone Try.prog C6 6 (.loop (loopB 6 (bodyF Try.f6))) (orc 142 97 6 hd6_6 ys6_6 W6_6 Q6_6) :=
  Lone.of CxOK6 (Lall.LOK rfl (by kernel_rfl) (Lall.skip (by kernel_rfl) (Lall.skip (by kernel_rfl) (Lall.skip (by kernel_rfl) (Lall.skip (by kernel_rfl) trivial))))) (by kernel_rfl) (fun x => (r6_6 F7 G7 W6_0 Q6_0 W6_2 Q6_2 W6_6 Q6_6 W6_4 Q6_4 x.1 x.2.1 x.2.2.1 x.2.2.2.1).trans (by first | (delta V6_6 R6_6; with_reducible rfl) | rfl))
theorem l6_4 : Lone Try.prog C6 4 (.loop (loopB 4 (bodyF Try.f6))) (orc 142 73 4 hd6_4 ys6_4 W6_4 Q6_4) :=
  Lone.of CxOK6 (Lall.LOK rfl (by kernel_rfl) (Lall.skip (by kernel_rfl) (Lall.skip (by kernel_rfl) (Lall.cons (by kernel_rfl) l6_6 (Lall.skip (by kernel_rfl) trivial))))) (by kernel_rfl) (fun x => (r6_4 F7 G7 W6_0 Q6_0 W6_2 Q6_2 W6_6 Q6_6 W6_4 Q6_4 x.1 x.2.1 x.2.2.1).trans (by first | (delta V6_4 R6_4; with_reducible rfl) | rfl))
theorem LOK6 : LOK Try.prog C6 0 (bodyF Try.f6) := (Lall.LOK rfl (by kernel_rfl) (Lall.cons (by kernel_rfl) l6_0 (Lall.cons (by kernel_rfl) l6_2 (Lall.cons (by kernel_rfl) l6_6 (Lall.cons (by kernel_rfl) l6_4 trivial)))))
noncomputable def E6 : (KD6 × Unit) → Option Bool := fun x => S6 F7 G7 W6_0 Q6_0 W6_2 Q6_2 W6_6 Q6_6 W6_4 Q6_4 x.1
noncomputable def F6 : (KD6 × Unit) → Bool := fun x => (E6 x).getD (dflt .bool)
noncomputable def G6 : (KD6 × Unit) → Bool := fun x => (E6 x).isSome
theorem p6 : ∀ x, G6 x = true → PureOK Try.prog 6 (mkA [KT17] x) ⟨.bool, F6 x⟩ :=
  PureOK.ofS (ts := [KT17]) (T := .bool) (S := E6) CxOK6 Try.func6 (LOK.fn LOK6) (fun x => t6 F7 G7 W6_0 Q6_0 W6_2 Q6_2 W6_6 Q6_6 W6_4 Q6_4 x.1)
noncomputable def kn4 : Kn := kOf [(6, sm [KT17] .bool F6 G6), (7, sm [KT11] .bool F7 G7), (8, sm [] .bool F8 G8), (9, sm [KT17, (.int .i64), (.int .i64)] (.tup KT11 KT18) F9 G9), (11, sm [KT17, (.int .i64), (.int .i64), KT11] (.tup KT17 KT18) F11 G11)]
theorem knOK4 : KOK Try.prog kn4 := (KOK.cons Try.call6 (SmOK.sm p6) (KOK.cons Try.call7 (SmOK.sm p7) (KOK.cons Try.call8 (SmOK.sm p8) (KOK.cons Try.call9 (SmOK.sm p9) (KOK.cons Try.call11 (SmOK.sm p11) KOK.nil)))))
noncomputable def V4_0 : (Int × Unit × Unit × Int × KD6 × KD6 × Unit) → Option ((Int × Unit × Unit × Int × KD6 × KD6 × Unit) ⊕ ((Unit) ⊕ (Bool × Unit))) := fun x => R4_0 F6 G6 F7 G7 F8 G8 F9 G9 F11 G11 (fun _ => (Sum.inl (()))) (fun _ => false) x.1 x.2.1 x.2.2.1 x.2.2.2.1 x.2.2.2.2.1 x.2.2.2.2.2.1
noncomputable def W4_0 : (Int × Unit × Unit × Int × KD6 × KD6 × Unit) → ((Unit) ⊕ (Bool × Unit)) := whV (hd := hd4_0) (ys := ys4_0) V4_0
noncomputable def Q4_0 : (Int × Unit × Unit × Int × KD6 × KD6 × Unit) → Bool := whK (hd := hd4_0) (ys := ys4_0) V4_0
noncomputable def C4 : Cx := CxL Try.Θ kn4 (lOf [(0, orc 78 28 0 hd4_0 ys4_0 W4_0 Q4_0)])
theorem CxOK4 : CxOK Try.prog C4 := ⟨Try.tabOK, knOK4, by kernel_rfl, POK.none⟩
theorem l4_0 : Lone Try.prog C4 0 (.loop (loopB 0 (bodyF Try.f4))) (orc 78 28 0 hd4_0 ys4_0 W4_0 Q4_0) :=
  Lone.of CxOK4 (Lall.LOK rfl (by kernel_rfl) (Lall.skip (by kernel_rfl) trivial)) (by kernel_rfl) (fun x => (r4_0 F6 G6 F7 G7 F8 G8 F9 G9 F11 G11 W4_0 Q4_0 x.1 x.2.1 x.2.2.1 x.2.2.2.1 x.2.2.2.2.1 x.2.2.2.2.2.1).trans (by first | (delta V4_0 R4_0; with_reducible rfl) | rfl))
theorem LOK4 : LOK Try.prog C4 0 (bodyF Try.f4) := (Lall.LOK rfl (by kernel_rfl) (Lall.cons (by kernel_rfl) l4_0 trivial))
noncomputable def E4 : (KD6 × Int × (Int × (KD0 × KD1)) × Unit) → Option Bool := fun x => S4 F6 G6 F7 G7 F8 G8 F9 G9 F11 G11 W4_0 Q4_0 x.1 x.2.1 x.2.2.1
noncomputable def F4 : (KD6 × Int × (Int × (KD0 × KD1)) × Unit) → Bool := fun x => (E4 x).getD (dflt .bool)
noncomputable def G4 : (KD6 × Int × (Int × (KD0 × KD1)) × Unit) → Bool := fun x => (E4 x).isSome
theorem p4 : ∀ x, G4 x = true → PureOK Try.prog 4 (mkA [KT17, (.int .i64), KT11] x) ⟨.bool, F4 x⟩ :=
  PureOK.ofS (ts := [KT17, (.int .i64), KT11]) (T := .bool) (S := E4) CxOK4 Try.func4 (LOK.fn LOK4) (fun x => t4 F6 G6 F7 G7 F8 G8 F9 G9 F11 G11 W4_0 Q4_0 x.1 x.2.1 x.2.2.1)
noncomputable def kn26 : Kn := kOf []
theorem knOK26 : KOK Try.prog kn26 := KOK.nil
noncomputable def C26 : Cx := CxL Try.Θ kn26 (lOf [])
theorem CxOK26 : CxOK Try.prog C26 := ⟨Try.tabOK, knOK26, by kernel_rfl, POK.none⟩
theorem LOK26 : LOK Try.prog C26 0 (bodyF Try.f26) := (Lall.LOK rfl (by kernel_rfl) trivial)
noncomputable def E26 : (Int × Int × Unit) → Option Bool := fun x => S26   x.1 x.2.1
noncomputable def F26 : (Int × Int × Unit) → Bool := fun x => (E26 x).getD (dflt .bool)
noncomputable def G26 : (Int × Int × Unit) → Bool := fun x => (E26 x).isSome
theorem p26 : ∀ x, G26 x = true → PureOK Try.prog 26 (mkA [(.int .i64), (.int .i64)] x) ⟨.bool, F26 x⟩ :=
  PureOK.ofS (ts := [(.int .i64), (.int .i64)]) (T := .bool) (S := E26) CxOK26 Try.func26 (LOK.fn LOK26) (fun x => t26   x.1 x.2.1)
noncomputable def kn10 : Kn := kOf [(26, sm [(.int .i64), (.int .i64)] .bool F26 G26), (27, sm [(.int .i64)] KT11 F27 G27)]
theorem knOK10 : KOK Try.prog kn10 := (KOK.cons Try.call26 (SmOK.sm p26) (KOK.cons Try.call27 (SmOK.sm p27) KOK.nil))
noncomputable def V10_0 : (Int × Int × Unit × Unit × Int × KD6 × (Int × (KD0 × KD1)) × Unit) → Option ((Int × Int × Unit × Unit × Int × KD6 × (Int × (KD0 × KD1)) × Unit) ⊕ ((Int × Unit × (Int × (KD0 × KD1)) × Unit) ⊕ (Unit × Int × (Int × (KD0 × KD1)) × Unit))) := fun x => R10_0 F26 G26 F27 G27 (fun _ => (Sum.inl (0, (), (0, (((0, (0, ())), (0, (0, ()))), (0, (0, (0, ()))))), ()))) (fun _ => false) x.1 x.2.1 x.2.2.1 x.2.2.2.1 x.2.2.2.2.1 x.2.2.2.2.2.1 x.2.2.2.2.2.2.1
noncomputable def W10_0 : (Int × Int × Unit × Unit × Int × KD6 × (Int × (KD0 × KD1)) × Unit) → ((Int × Unit × (Int × (KD0 × KD1)) × Unit) ⊕ (Unit × Int × (Int × (KD0 × KD1)) × Unit)) := whV (hd := hd10_0) (ys := ys10_0) V10_0
noncomputable def Q10_0 : (Int × Int × Unit × Unit × Int × KD6 × (Int × (KD0 × KD1)) × Unit) → Bool := whK (hd := hd10_0) (ys := ys10_0) V10_0
noncomputable def C10 : Cx := CxL Try.Θ kn10 (lOf [(0, orc 81 26 0 hd10_0 ys10_0 W10_0 Q10_0)])
theorem CxOK10 : CxOK Try.prog C10 := ⟨Try.tabOK, knOK10, by kernel_rfl, POK.none⟩
theorem l10_0 : Lone Try.prog C10 0 (.loop (loopB 0 (bodyF Try.f10))) (orc 81 26 0 hd10_0 ys10_0 W10_0 Q10_0) :=
  Lone.of CxOK10 (Lall.LOK rfl (by kernel_rfl) (Lall.skip (by kernel_rfl) trivial)) (by kernel_rfl) (fun x => (r10_0 F26 G26 F27 G27 W10_0 Q10_0 x.1 x.2.1 x.2.2.1 x.2.2.2.1 x.2.2.2.2.1 x.2.2.2.2.2.1 x.2.2.2.2.2.2.1).trans (by first | (delta V10_0 R10_0; with_reducible rfl) | rfl))
theorem LOK10 : LOK Try.prog C10 0 (bodyF Try.f10) := (Lall.LOK rfl (by kernel_rfl) (Lall.cons (by kernel_rfl) l10_0 trivial))
noncomputable def E10 : (KD6 × Int × Int × Unit) → Option KD19 := fun x => S10 F26 G26 F27 G27 W10_0 Q10_0 x.1 x.2.1 x.2.2.1
noncomputable def F10 : (KD6 × Int × Int × Unit) → KD19 := fun x => (E10 x).getD (dflt (.tup KT11 KT18))
noncomputable def G10 : (KD6 × Int × Int × Unit) → Bool := fun x => (E10 x).isSome
theorem p10 : ∀ x, G10 x = true → PureOK Try.prog 10 (mkA [KT17, (.int .i64), (.int .i64)] x) ⟨(.tup KT11 KT18), F10 x⟩ :=
  PureOK.ofS (ts := [KT17, (.int .i64), (.int .i64)]) (T := (.tup KT11 KT18)) (S := E10) CxOK10 Try.func10 (LOK.fn LOK10) (fun x => t10 F26 G26 F27 G27 W10_0 Q10_0 x.1 x.2.1 x.2.2.1)
noncomputable def kn29 : Kn := kOf []
theorem knOK29 : KOK Try.prog kn29 := KOK.nil
noncomputable def C29 : Cx := CxL Try.Θ kn29 (lOf [])
theorem CxOK29 : CxOK Try.prog C29 := ⟨Try.tabOK, knOK29, by kernel_rfl, POK.none⟩
theorem LOK29 : LOK Try.prog C29 0 (bodyF Try.f29) := (Lall.LOK rfl (by kernel_rfl) trivial)
noncomputable def E29 : (KD6 × Unit) → Option KD6 := fun x => S29   x.1
noncomputable def F29 : (KD6 × Unit) → KD6 := fun x => (E29 x).getD (dflt KT17)
noncomputable def G29 : (KD6 × Unit) → Bool := fun x => (E29 x).isSome
theorem p29 : ∀ x, G29 x = true → PureOK Try.prog 29 (mkA [KT17] x) ⟨KT17, F29 x⟩ :=
  PureOK.ofS (ts := [KT17]) (T := KT17) (S := E29) CxOK29 Try.func29 (LOK.fn LOK29) (fun x => t29   x.1)
noncomputable def kn12 : Kn := kOf [(26, sm [(.int .i64), (.int .i64)] .bool F26 G26), (29, sm [KT17] KT17 F29 G29)]
theorem knOK12 : KOK Try.prog kn12 := (KOK.cons Try.call26 (SmOK.sm p26) (KOK.cons Try.call29 (SmOK.sm p29) KOK.nil))
noncomputable def V12_0 : (Int × Int × Unit × Unit × Int × KD6 × KD6 × Unit) → Option ((Int × Int × Unit × Unit × Int × KD6 × KD6 × Unit) ⊕ (Unit × Unit × KD6 × KD6 × Unit)) := fun x => R12_0 F26 G26 F29 G29 (fun _ => ((), (), ([], ([], (0, ([], (0, ()))))), ([], ([], (0, ([], (0, ()))))), ())) (fun _ => false) x.1 x.2.1 x.2.2.1 x.2.2.2.1 x.2.2.2.2.1 x.2.2.2.2.2.1 x.2.2.2.2.2.2.1
noncomputable def W12_0 : (Int × Int × Unit × Unit × Int × KD6 × KD6 × Unit) → (Unit × Unit × KD6 × KD6 × Unit) := whV (hd := hd12_0) (ys := ys12_0) V12_0
noncomputable def Q12_0 : (Int × Int × Unit × Unit × Int × KD6 × KD6 × Unit) → Bool := whK (hd := hd12_0) (ys := ys12_0) V12_0
noncomputable def C12 : Cx := CxL Try.Θ kn12 (lOf [(0, orc 83 27 0 hd12_0 ys12_0 W12_0 Q12_0)])
theorem CxOK12 : CxOK Try.prog C12 := ⟨Try.tabOK, knOK12, by kernel_rfl, POK.none⟩
theorem l12_0 : Lone Try.prog C12 0 (.loop (loopB 0 (bodyF Try.f12))) (orc 83 27 0 hd12_0 ys12_0 W12_0 Q12_0) :=
  Lone.of CxOK12 (Lall.LOK rfl (by kernel_rfl) (Lall.skip (by kernel_rfl) trivial)) (by kernel_rfl) (fun x => (r12_0 F26 G26 F29 G29 W12_0 Q12_0 x.1 x.2.1 x.2.2.1 x.2.2.2.1 x.2.2.2.2.1 x.2.2.2.2.2.1 x.2.2.2.2.2.2.1).trans (by first | (delta V12_0 R12_0; with_reducible rfl) | rfl))
theorem LOK12 : LOK Try.prog C12 0 (bodyF Try.f12) := (Lall.LOK rfl (by kernel_rfl) (Lall.cons (by kernel_rfl) l12_0 trivial))
noncomputable def E12 : (KD6 × Int × Int × (Int × (KD0 × KD1)) × Unit) → Option (KD6 × (Int × Unit)) := fun x => S12 F26 G26 F29 G29 W12_0 Q12_0 x.1 x.2.1 x.2.2.1 x.2.2.2.1
noncomputable def F12 : (KD6 × Int × Int × (Int × (KD0 × KD1)) × Unit) → (KD6 × (Int × Unit)) := fun x => (E12 x).getD (dflt (.tup KT17 KT18))
noncomputable def G12 : (KD6 × Int × Int × (Int × (KD0 × KD1)) × Unit) → Bool := fun x => (E12 x).isSome
theorem p12 : ∀ x, G12 x = true → PureOK Try.prog 12 (mkA [KT17, (.int .i64), (.int .i64), KT11] x) ⟨(.tup KT17 KT18), F12 x⟩ :=
  PureOK.ofS (ts := [KT17, (.int .i64), (.int .i64), KT11]) (T := (.tup KT17 KT18)) (S := E12) CxOK12 Try.func12 (LOK.fn LOK12) (fun x => t12 F26 G26 F29 G29 W12_0 Q12_0 x.1 x.2.1 x.2.2.1 x.2.2.2.1)
noncomputable def kn13 : Kn := kOf []
theorem knOK13 : KOK Try.prog kn13 := KOK.nil
noncomputable def V13_0 : (Unit × Unit × Int × KD6 × KD6 × Unit) → Option ((Unit × Unit × Int × KD6 × KD6 × Unit) ⊕ ((Unit) ⊕ (Bool × Unit))) := fun x => R13_0  (fun _ => (Sum.inl (()))) (fun _ => false) x.1 x.2.1 x.2.2.1 x.2.2.2.1 x.2.2.2.2.1
noncomputable def W13_0 : (Unit × Unit × Int × KD6 × KD6 × Unit) → ((Unit) ⊕ (Bool × Unit)) := whV (hd := hd13_0) (ys := ys13_0) V13_0
noncomputable def Q13_0 : (Unit × Unit × Int × KD6 × KD6 × Unit) → Bool := whK (hd := hd13_0) (ys := ys13_0) V13_0
noncomputable def C13 : Cx := CxL Try.Θ kn13 (lOf [(0, orc 59 26 0 hd13_0 ys13_0 W13_0 Q13_0)])
theorem CxOK13 : CxOK Try.prog C13 := ⟨Try.tabOK, knOK13, by kernel_rfl, POK.none⟩
theorem l13_0 : Lone Try.prog C13 0 (.loop (loopB 0 (bodyF Try.f13))) (orc 59 26 0 hd13_0 ys13_0 W13_0 Q13_0) :=
  Lone.of CxOK13 (Lall.LOK rfl (by kernel_rfl) (Lall.skip (by kernel_rfl) trivial)) (by kernel_rfl) (fun x => (r13_0  W13_0 Q13_0 x.1 x.2.1 x.2.2.1 x.2.2.2.1 x.2.2.2.2.1).trans (by first | (delta V13_0 R13_0; with_reducible rfl) | rfl))
theorem LOK13 : LOK Try.prog C13 0 (bodyF Try.f13) := (Lall.LOK rfl (by kernel_rfl) (Lall.cons (by kernel_rfl) l13_0 trivial))
noncomputable def E13 : (KD6 × KD6 × Unit) → Option Bool := fun x => S13  W13_0 Q13_0 x.1 x.2.1
noncomputable def F13 : (KD6 × KD6 × Unit) → Bool := fun x => (E13 x).getD (dflt .bool)
noncomputable def G13 : (KD6 × KD6 × Unit) → Bool := fun x => (E13 x).isSome
theorem p13 : ∀ x, G13 x = true → PureOK Try.prog 13 (mkA [KT17, KT17] x) ⟨.bool, F13 x⟩ :=
  PureOK.ofS (ts := [KT17, KT17]) (T := .bool) (S := E13) CxOK13 Try.func13 (LOK.fn LOK13) (fun x => t13  W13_0 Q13_0 x.1 x.2.1)
noncomputable def kn3 : Kn := kOf [(6, sm [KT17] .bool F6 G6), (7, sm [KT11] .bool F7 G7), (8, sm [] .bool F8 G8), (9, sm [KT17, (.int .i64), (.int .i64)] (.tup KT11 KT18) F9 G9), (10, sm [KT17, (.int .i64), (.int .i64)] (.tup KT11 KT18) F10 G10), (11, sm [KT17, (.int .i64), (.int .i64), KT11] (.tup KT17 KT18) F11 G11), (12, sm [KT17, (.int .i64), (.int .i64), KT11] (.tup KT17 KT18) F12 G12), (13, sm [KT17, KT17] .bool F13 G13)]
theorem knOK3 : KOK Try.prog kn3 := (KOK.cons Try.call6 (SmOK.sm p6) (KOK.cons Try.call7 (SmOK.sm p7) (KOK.cons Try.call8 (SmOK.sm p8) (KOK.cons Try.call9 (SmOK.sm p9) (KOK.cons Try.call10 (SmOK.sm p10) (KOK.cons Try.call11 (SmOK.sm p11) (KOK.cons Try.call12 (SmOK.sm p12) (KOK.cons Try.call13 (SmOK.sm p13) KOK.nil))))))))
noncomputable def C3 : Cx := CxL Try.Θ kn3 (lOf [])
theorem CxOK3 : CxOK Try.prog C3 := ⟨Try.tabOK, knOK3, by kernel_rfl, POK.none⟩
theorem LOK3 : LOK Try.prog C3 0 (bodyF Try.f3) := (Lall.LOK rfl (by kernel_rfl) trivial)
noncomputable def E3 : (KD6 × (List Int) × (Int × (KD0 × KD1)) × Unit) → Option Bool := fun x => S3 F6 G6 F7 G7 F8 G8 F9 G9 F10 G10 F11 G11 F12 G12 F13 G13  x.1 x.2.1 x.2.2.1
noncomputable def F3 : (KD6 × (List Int) × (Int × (KD0 × KD1)) × Unit) → Bool := fun x => (E3 x).getD (dflt .bool)
noncomputable def G3 : (KD6 × (List Int) × (Int × (KD0 × KD1)) × Unit) → Bool := fun x => (E3 x).isSome
theorem p3 : ∀ x, G3 x = true → PureOK Try.prog 3 (mkA [KT17, (.arr 2 (.int .i64)), KT11] x) ⟨.bool, F3 x⟩ :=
  PureOK.ofS (ts := [KT17, (.arr 2 (.int .i64)), KT11]) (T := .bool) (S := E3) CxOK3 Try.func3 (LOK.fn LOK3) (fun x => t3 F6 G6 F7 G7 F8 G8 F9 G9 F10 G10 F11 G11 F12 G12 F13 G13  x.1 x.2.1 x.2.2.1)
end Go.Proofs
