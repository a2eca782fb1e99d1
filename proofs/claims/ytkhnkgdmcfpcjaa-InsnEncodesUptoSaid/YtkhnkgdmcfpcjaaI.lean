import Derived.Test.YtkhnkgdmcfpcjaaB
import Derived.Test.YtkhnkgdmcfpcjaaGc
namespace Go.Proofs
open Go.GX
set_option linter.unusedVariables false
set_option maxRecDepth 100000
noncomputable def F13 : Unit → Bool := fun _ => true
noncomputable def G13 : Unit → Bool := fun _ => true
theorem t13 : fnT ⟨true, Try.Θ, KX Try.Θ Try.F (fun _ => none) 100 10, 100, fun _ => none⟩ Try.f13 .bool [] = some true := by kernel_rfl
theorem p13 : ∀ x, G13 x = true → PureOK Try.prog 13 (mkA [] x) ⟨.bool, F13 x⟩ := fun x _ => fnT_pure Try.tabOK (KX_ok Try.tabOK Try.FOK KOK.none (by kernel_rfl) 10) (by kernel_rfl) Try.func13 t13
noncomputable def kn23 : Kn := kOf []
theorem knOK23 : KOK Try.prog kn23 := KOK.nil
noncomputable def C23 : Cx := CxL Try.Θ kn23 (lOf [])
theorem CxOK23 : CxOK Try.prog C23 := ⟨Try.tabOK, knOK23, by kernel_rfl⟩
theorem LOK23 : LOK Try.prog C23 0 (bodyF Try.f23) := (Lall.LOK rfl (by kernel_rfl) trivial)
noncomputable def E23 : ((Int × (Int × (Int × (Int × (Int × Unit))))) × Unit) → Option ((List Int) × (Bool × Unit)) := fun x => S23   x.1
noncomputable def F23 : ((Int × (Int × (Int × (Int × (Int × Unit))))) × Unit) → ((List Int) × (Bool × Unit)) := fun x => (E23 x).getD (dflt (.tup (.arr 8 (.int .u8)) (.tup .bool .tnil)))
noncomputable def G23 : ((Int × (Int × (Int × (Int × (Int × Unit))))) × Unit) → Bool := fun x => (E23 x).isSome
theorem p23 : ∀ x, G23 x = true → PureOK Try.prog 23 (mkA [(.pair (.int .i64) (.pair (.int .i64) (.pair (.int .i64) (.pair (.int .i64) (.pair (.int .i64) .unit)))))] x) ⟨(.tup (.arr 8 (.int .u8)) (.tup .bool .tnil)), F23 x⟩ :=
  PureOK.ofS (ts := [(.pair (.int .i64) (.pair (.int .i64) (.pair (.int .i64) (.pair (.int .i64) (.pair (.int .i64) .unit)))))]) (T := (.tup (.arr 8 (.int .u8)) (.tup .bool .tnil))) (S := E23) CxOK23 Try.func23 (LOK.fn LOK23) (fun x => t23   x.1)
noncomputable def kn8 : Kn := kOf [(23, sm [(.pair (.int .i64) (.pair (.int .i64) (.pair (.int .i64) (.pair (.int .i64) (.pair (.int .i64) .unit)))))] (.tup (.arr 8 (.int .u8)) (.tup .bool .tnil)) F23 G23)]
theorem knOK8 : KOK Try.prog kn8 := (KOK.cons Try.call23 (SmOK.sm p23) KOK.nil)
noncomputable def V8_0 : ((List Int) × (List (Int × (Int × (Int × (Int × (Int × Unit)))))) × Int × Int × Unit) → Option (((List Int) × (List (Int × (Int × (Int × (Int × (Int × Unit)))))) × Int × Int × Unit) ⊕ (((List Int) × Unit) ⊕ ((List UInt8) × Int × Unit))) := fun x => R8_0 F23 G23 (fun _ => (Sum.inl ([], ()))) (fun _ => false) x.1 x.2.1 x.2.2.1 x.2.2.2.1
noncomputable def W8_0 : ((List Int) × (List (Int × (Int × (Int × (Int × (Int × Unit)))))) × Int × Int × Unit) → (((List Int) × Unit) ⊕ ((List UInt8) × Int × Unit)) := whV (hd := hd8_0) (ys := ys8_0) V8_0
noncomputable def Q8_0 : ((List Int) × (List (Int × (Int × (Int × (Int × (Int × Unit)))))) × Int × Int × Unit) → Bool := whK (hd := hd8_0) (ys := ys8_0) V8_0
noncomputable def C8 : Cx := CxL Try.Θ kn8 (lOf [(0, orc 32 25 0 hd8_0 ys8_0 W8_0 Q8_0)])
theorem CxOK8 : CxOK Try.prog C8 := ⟨Try.tabOK, knOK8, by kernel_rfl⟩
theorem l8_0 : Lone Try.prog C8 0 (.loop (loopB 0 (bodyF Try.f8))) (orc 32 25 0 hd8_0 ys8_0 W8_0 Q8_0) :=
  Lone.of CxOK8 (Lall.LOK rfl (by kernel_rfl) (Lall.skip (by kernel_rfl) trivial)) (by kernel_rfl) (fun x => (r8_0 F23 G23 W8_0 Q8_0 x.1 x.2.1 x.2.2.1 x.2.2.2.1).trans (by rfl))
theorem LOK8 : LOK Try.prog C8 0 (bodyF Try.f8) := (Lall.LOK rfl (by kernel_rfl) (Lall.cons (by kernel_rfl) l8_0 trivial))
noncomputable def E8 : ((List (Int × (Int × (Int × (Int × (Int × Unit)))))) × Unit) → Option ((List UInt8) × (Int × Unit)) := fun x => S8 F23 G23 W8_0 Q8_0 x.1
noncomputable def F8 : ((List (Int × (Int × (Int × (Int × (Int × Unit)))))) × Unit) → ((List UInt8) × (Int × Unit)) := fun x => (E8 x).getD (dflt (.tup .str (.tup (.int .i64) .tnil)))
noncomputable def G8 : ((List (Int × (Int × (Int × (Int × (Int × Unit)))))) × Unit) → Bool := fun x => (E8 x).isSome
theorem p8 : ∀ x, G8 x = true → PureOK Try.prog 8 (mkA [(.vsl (.pair (.int .i64) (.pair (.int .i64) (.pair (.int .i64) (.pair (.int .i64) (.pair (.int .i64) .unit))))))] x) ⟨(.tup .str (.tup (.int .i64) .tnil)), F8 x⟩ :=
  PureOK.ofS (ts := [(.vsl (.pair (.int .i64) (.pair (.int .i64) (.pair (.int .i64) (.pair (.int .i64) (.pair (.int .i64) .unit))))))]) (T := (.tup .str (.tup (.int .i64) .tnil))) (S := E8) CxOK8 Try.func8 (LOK.fn LOK8) (fun x => t8 F23 G23 W8_0 Q8_0 x.1)
noncomputable def kn24 : Kn := kOf []
theorem knOK24 : KOK Try.prog kn24 := KOK.nil
noncomputable def V24_0 : (Int × Int × (List Int) × Int × Unit) → Option ((Int × Int × (List Int) × Int × Unit) ⊕ ((List Int) × Unit)) := fun x => R24_0  (fun _ => ([], ())) (fun _ => false) x.1 x.2.1 x.2.2.1 x.2.2.2.1
noncomputable def W24_0 : (Int × Int × (List Int) × Int × Unit) → ((List Int) × Unit) := whV (hd := hd24_0) (ys := ys24_0) V24_0
noncomputable def Q24_0 : (Int × Int × (List Int) × Int × Unit) → Bool := whK (hd := hd24_0) (ys := ys24_0) V24_0
noncomputable def C24 : Cx := CxL Try.Θ kn24 (lOf [(0, orc 25 25 0 hd24_0 ys24_0 W24_0 Q24_0)])
theorem CxOK24 : CxOK Try.prog C24 := ⟨Try.tabOK, knOK24, by kernel_rfl⟩
theorem l24_0 : Lone Try.prog C24 0 (.loop (loopB 0 (bodyF Try.f24))) (orc 25 25 0 hd24_0 ys24_0 W24_0 Q24_0) :=
  Lone.of CxOK24 (Lall.LOK rfl (by kernel_rfl) (Lall.skip (by kernel_rfl) trivial)) (by kernel_rfl) (fun x => (r24_0  W24_0 Q24_0 x.1 x.2.1 x.2.2.1 x.2.2.2.1).trans (by rfl))
theorem LOK24 : LOK Try.prog C24 0 (bodyF Try.f24) := (Lall.LOK rfl (by kernel_rfl) (Lall.cons (by kernel_rfl) l24_0 trivial))
noncomputable def E24 : (Int × Int × Unit) → Option (List UInt8) := fun x => S24  W24_0 Q24_0 x.1 x.2.1
noncomputable def F24 : (Int × Int × Unit) → (List UInt8) := fun x => (E24 x).getD (dflt .str)
noncomputable def G24 : (Int × Int × Unit) → Bool := fun x => (E24 x).isSome
theorem p24 : ∀ x, G24 x = true → PureOK Try.prog 24 (mkA [(.int .u64), (.int .i64)] x) ⟨.str, F24 x⟩ :=
  PureOK.ofS (ts := [(.int .u64), (.int .i64)]) (T := .str) (S := E24) CxOK24 Try.func24 (LOK.fn LOK24) (fun x => t24  W24_0 Q24_0 x.1 x.2.1)
noncomputable def kn9 : Kn := kOf [(24, sm [(.int .u64), (.int .i64)] .str F24 G24)]
theorem knOK9 : KOK Try.prog kn9 := (KOK.cons Try.call24 (SmOK.sm p24) KOK.nil)
noncomputable def V9_0 : ((List (Int × (Int × (Int × (Int × (Int × Unit)))))) × (List Int) × Int × Unit) → Option (((List (Int × (Int × (Int × (Int × (Int × Unit)))))) × (List Int) × Int × Unit) ⊕ (((List Int) × Unit) ⊕ ((List UInt8) × Int × Unit))) := fun x => R9_0 F24 G24 (fun _ => (Sum.inl ([], ()))) (fun _ => false) x.1 x.2.1 x.2.2.1
noncomputable def W9_0 : ((List (Int × (Int × (Int × (Int × (Int × Unit)))))) × (List Int) × Int × Unit) → (((List Int) × Unit) ⊕ ((List UInt8) × Int × Unit)) := whV (hd := hd9_0) (ys := ys9_0) V9_0
noncomputable def Q9_0 : ((List (Int × (Int × (Int × (Int × (Int × Unit)))))) × (List Int) × Int × Unit) → Bool := whK (hd := hd9_0) (ys := ys9_0) V9_0
noncomputable def C9 : Cx := CxL Try.Θ kn9 (lOf [(0, orc 91 24 0 hd9_0 ys9_0 W9_0 Q9_0)])
theorem CxOK9 : CxOK Try.prog C9 := ⟨Try.tabOK, knOK9, by kernel_rfl⟩
theorem l9_0 : Lone Try.prog C9 0 (.loop (loopB 0 (bodyF Try.f9))) (orc 91 24 0 hd9_0 ys9_0 W9_0 Q9_0) :=
  Lone.of CxOK9 (Lall.LOK rfl (by kernel_rfl) (Lall.skip (by kernel_rfl) trivial)) (by kernel_rfl) (fun x => (r9_0 F24 G24 W9_0 Q9_0 x.1 x.2.1 x.2.2.1).trans (by rfl))
theorem LOK9 : LOK Try.prog C9 0 (bodyF Try.f9) := (Lall.LOK rfl (by kernel_rfl) (Lall.cons (by kernel_rfl) l9_0 trivial))
noncomputable def E9 : ((List (Int × (Int × (Int × (Int × (Int × Unit)))))) × Unit) → Option ((List UInt8) × (Int × Unit)) := fun x => S9 F24 G24 W9_0 Q9_0 x.1
noncomputable def F9 : ((List (Int × (Int × (Int × (Int × (Int × Unit)))))) × Unit) → ((List UInt8) × (Int × Unit)) := fun x => (E9 x).getD (dflt (.tup .str (.tup (.int .i64) .tnil)))
noncomputable def G9 : ((List (Int × (Int × (Int × (Int × (Int × Unit)))))) × Unit) → Bool := fun x => (E9 x).isSome
theorem p9 : ∀ x, G9 x = true → PureOK Try.prog 9 (mkA [(.vsl (.pair (.int .i64) (.pair (.int .i64) (.pair (.int .i64) (.pair (.int .i64) (.pair (.int .i64) .unit))))))] x) ⟨(.tup .str (.tup (.int .i64) .tnil)), F9 x⟩ :=
  PureOK.ofS (ts := [(.vsl (.pair (.int .i64) (.pair (.int .i64) (.pair (.int .i64) (.pair (.int .i64) (.pair (.int .i64) .unit))))))]) (T := (.tup .str (.tup (.int .i64) .tnil))) (S := E9) CxOK9 Try.func9 (LOK.fn LOK9) (fun x => t9 F24 G24 W9_0 Q9_0 x.1)
noncomputable def kn10 : Kn := kOf []
theorem knOK10 : KOK Try.prog kn10 := KOK.nil
noncomputable def V10_0 : ((List UInt8) × (List (Int × (Int × (Int × (Int × (Int × Unit)))))) × Unit) → Option (((List UInt8) × (List (Int × (Int × (Int × (Int × (Int × Unit)))))) × Unit) ⊕ ((List (Int × (Int × (Int × (Int × (Int × Unit)))))) × Unit)) := fun x => R10_0  (fun _ => ([], ())) (fun _ => false) x.1 x.2.1
noncomputable def W10_0 : ((List UInt8) × (List (Int × (Int × (Int × (Int × (Int × Unit)))))) × Unit) → ((List (Int × (Int × (Int × (Int × (Int × Unit)))))) × Unit) := whV (hd := hd10_0) (ys := ys10_0) V10_0
noncomputable def Q10_0 : ((List UInt8) × (List (Int × (Int × (Int × (Int × (Int × Unit)))))) × Unit) → Bool := whK (hd := hd10_0) (ys := ys10_0) V10_0
noncomputable def C10 : Cx := CxL Try.Θ kn10 (lOf [(0, orc 61 24 0 hd10_0 ys10_0 W10_0 Q10_0)])
theorem CxOK10 : CxOK Try.prog C10 := ⟨Try.tabOK, knOK10, by kernel_rfl⟩
theorem l10_0 : Lone Try.prog C10 0 (.loop (loopB 0 (bodyF Try.f10))) (orc 61 24 0 hd10_0 ys10_0 W10_0 Q10_0) :=
  Lone.of CxOK10 (Lall.LOK rfl (by kernel_rfl) (Lall.skip (by kernel_rfl) trivial)) (by kernel_rfl) (fun x => (r10_0  W10_0 Q10_0 x.1 x.2.1).trans (by rfl))
theorem LOK10 : LOK Try.prog C10 0 (bodyF Try.f10) := (Lall.LOK rfl (by kernel_rfl) (Lall.cons (by kernel_rfl) l10_0 trivial))
noncomputable def E10 : ((List UInt8) × Unit) → Option ((List (Int × (Int × (Int × (Int × (Int × Unit)))))) × (Int × Unit)) := fun x => S10  W10_0 Q10_0 x.1
noncomputable def F10 : ((List UInt8) × Unit) → ((List (Int × (Int × (Int × (Int × (Int × Unit)))))) × (Int × Unit)) := fun x => (E10 x).getD (dflt (.tup (.vsl (.pair (.int .i64) (.pair (.int .i64) (.pair (.int .i64) (.pair (.int .i64) (.pair (.int .i64) .unit)))))) (.tup (.int .i64) .tnil)))
noncomputable def G10 : ((List UInt8) × Unit) → Bool := fun x => (E10 x).isSome
theorem p10 : ∀ x, G10 x = true → PureOK Try.prog 10 (mkA [.str] x) ⟨(.tup (.vsl (.pair (.int .i64) (.pair (.int .i64) (.pair (.int .i64) (.pair (.int .i64) (.pair (.int .i64) .unit)))))) (.tup (.int .i64) .tnil)), F10 x⟩ :=
  PureOK.ofS (ts := [.str]) (T := (.tup (.vsl (.pair (.int .i64) (.pair (.int .i64) (.pair (.int .i64) (.pair (.int .i64) (.pair (.int .i64) .unit)))))) (.tup (.int .i64) .tnil))) (S := E10) CxOK10 Try.func10 (LOK.fn LOK10) (fun x => t10  W10_0 Q10_0 x.1)
noncomputable def kn25 : Kn := kOf []
theorem knOK25 : KOK Try.prog kn25 := KOK.nil
noncomputable def V25_0 : ((List UInt8) × Int × Int × Unit) → Option (((List UInt8) × Int × Int × Unit) ⊕ (Int × Unit)) := fun x => R25_0  (fun _ => (0, ())) (fun _ => false) x.1 x.2.1 x.2.2.1
noncomputable def W25_0 : ((List UInt8) × Int × Int × Unit) → (Int × Unit) := whV (hd := hd25_0) (ys := ys25_0) V25_0
noncomputable def Q25_0 : ((List UInt8) × Int × Int × Unit) → Bool := whK (hd := hd25_0) (ys := ys25_0) V25_0
noncomputable def C25 : Cx := CxL Try.Θ kn25 (lOf [(0, orc 21 24 0 hd25_0 ys25_0 W25_0 Q25_0)])
theorem CxOK25 : CxOK Try.prog C25 := ⟨Try.tabOK, knOK25, by kernel_rfl⟩
theorem l25_0 : Lone Try.prog C25 0 (.loop (loopB 0 (bodyF Try.f25))) (orc 21 24 0 hd25_0 ys25_0 W25_0 Q25_0) :=
  Lone.of CxOK25 (Lall.LOK rfl (by kernel_rfl) (Lall.skip (by kernel_rfl) trivial)) (by kernel_rfl) (fun x => (r25_0  W25_0 Q25_0 x.1 x.2.1 x.2.2.1).trans (by rfl))
theorem LOK25 : LOK Try.prog C25 0 (bodyF Try.f25) := (Lall.LOK rfl (by kernel_rfl) (Lall.cons (by kernel_rfl) l25_0 trivial))
noncomputable def E25 : ((List UInt8) × Unit) → Option Int := fun x => S25  W25_0 Q25_0 x.1
noncomputable def F25 : ((List UInt8) × Unit) → Int := fun x => (E25 x).getD (dflt (.int .u64))
noncomputable def G25 : ((List UInt8) × Unit) → Bool := fun x => (E25 x).isSome
theorem p25 : ∀ x, G25 x = true → PureOK Try.prog 25 (mkA [.str] x) ⟨(.int .u64), F25 x⟩ :=
  PureOK.ofS (ts := [.str]) (T := (.int .u64)) (S := E25) CxOK25 Try.func25 (LOK.fn LOK25) (fun x => t25  W25_0 Q25_0 x.1)
noncomputable def kn11 : Kn := kOf [(25, sm [.str] (.int .u64) F25 G25)]
theorem knOK11 : KOK Try.prog kn11 := (KOK.cons Try.call25 (SmOK.sm p25) KOK.nil)
noncomputable def V11_0 : ((List UInt8) × (List (Int × (Int × (Int × (Int × (Int × Unit)))))) × Int × Unit) → Option (((List UInt8) × (List (Int × (Int × (Int × (Int × (Int × Unit)))))) × Int × Unit) ⊕ ((List (Int × (Int × (Int × (Int × (Int × Unit)))))) × Unit)) := fun x => R11_0 F25 G25 (fun _ => ([], ())) (fun _ => false) x.1 x.2.1 x.2.2.1
noncomputable def W11_0 : ((List UInt8) × (List (Int × (Int × (Int × (Int × (Int × Unit)))))) × Int × Unit) → ((List (Int × (Int × (Int × (Int × (Int × Unit)))))) × Unit) := whV (hd := hd11_0) (ys := ys11_0) V11_0
noncomputable def Q11_0 : ((List UInt8) × (List (Int × (Int × (Int × (Int × (Int × Unit)))))) × Int × Unit) → Bool := whK (hd := hd11_0) (ys := ys11_0) V11_0
noncomputable def C11 : Cx := CxL Try.Θ kn11 (lOf [(0, orc 55 24 0 hd11_0 ys11_0 W11_0 Q11_0)])
theorem CxOK11 : CxOK Try.prog C11 := ⟨Try.tabOK, knOK11, by kernel_rfl⟩
theorem l11_0 : Lone Try.prog C11 0 (.loop (loopB 0 (bodyF Try.f11))) (orc 55 24 0 hd11_0 ys11_0 W11_0 Q11_0) :=
  Lone.of CxOK11 (Lall.LOK rfl (by kernel_rfl) (Lall.skip (by kernel_rfl) trivial)) (by kernel_rfl) (fun x => (r11_0 F25 G25 W11_0 Q11_0 x.1 x.2.1 x.2.2.1).trans (by rfl))
theorem LOK11 : LOK Try.prog C11 0 (bodyF Try.f11) := (Lall.LOK rfl (by kernel_rfl) (Lall.cons (by kernel_rfl) l11_0 trivial))
noncomputable def E11 : ((List UInt8) × Unit) → Option ((List (Int × (Int × (Int × (Int × (Int × Unit)))))) × (Int × Unit)) := fun x => S11 F25 G25 W11_0 Q11_0 x.1
noncomputable def F11 : ((List UInt8) × Unit) → ((List (Int × (Int × (Int × (Int × (Int × Unit)))))) × (Int × Unit)) := fun x => (E11 x).getD (dflt (.tup (.vsl (.pair (.int .i64) (.pair (.int .i64) (.pair (.int .i64) (.pair (.int .i64) (.pair (.int .i64) .unit)))))) (.tup (.int .i64) .tnil)))
noncomputable def G11 : ((List UInt8) × Unit) → Bool := fun x => (E11 x).isSome
theorem p11 : ∀ x, G11 x = true → PureOK Try.prog 11 (mkA [.str] x) ⟨(.tup (.vsl (.pair (.int .i64) (.pair (.int .i64) (.pair (.int .i64) (.pair (.int .i64) (.pair (.int .i64) .unit)))))) (.tup (.int .i64) .tnil)), F11 x⟩ :=
  PureOK.ofS (ts := [.str]) (T := (.tup (.vsl (.pair (.int .i64) (.pair (.int .i64) (.pair (.int .i64) (.pair (.int .i64) (.pair (.int .i64) .unit)))))) (.tup (.int .i64) .tnil))) (S := E11) CxOK11 Try.func11 (LOK.fn LOK11) (fun x => t11 F25 G25 W11_0 Q11_0 x.1)
noncomputable def kn12 : Kn := kOf []
theorem knOK12 : KOK Try.prog kn12 := KOK.nil
noncomputable def V12_0 : ((List (Int × (Int × (Int × (Int × (Int × Unit)))))) × (List (Int × (Int × (Int × (Int × (Int × Unit)))))) × Int × Unit) → Option (((List (Int × (Int × (Int × (Int × (Int × Unit)))))) × (List (Int × (Int × (Int × (Int × (Int × Unit)))))) × Int × Unit) ⊕ ((Unit) ⊕ (Bool × Unit))) := fun x => R12_0  (fun _ => (Sum.inl (()))) (fun _ => false) x.1 x.2.1 x.2.2.1
noncomputable def W12_0 : ((List (Int × (Int × (Int × (Int × (Int × Unit)))))) × (List (Int × (Int × (Int × (Int × (Int × Unit)))))) × Int × Unit) → ((Unit) ⊕ (Bool × Unit)) := whV (hd := hd12_0) (ys := ys12_0) V12_0
noncomputable def Q12_0 : ((List (Int × (Int × (Int × (Int × (Int × Unit)))))) × (List (Int × (Int × (Int × (Int × (Int × Unit)))))) × Int × Unit) → Bool := whK (hd := hd12_0) (ys := ys12_0) V12_0
noncomputable def C12 : Cx := CxL Try.Θ kn12 (lOf [(0, orc 26 24 0 hd12_0 ys12_0 W12_0 Q12_0)])
theorem CxOK12 : CxOK Try.prog C12 := ⟨Try.tabOK, knOK12, by kernel_rfl⟩
theorem l12_0 : Lone Try.prog C12 0 (.loop (loopB 0 (bodyF Try.f12))) (orc 26 24 0 hd12_0 ys12_0 W12_0 Q12_0) :=
  Lone.of CxOK12 (Lall.LOK rfl (by kernel_rfl) (Lall.skip (by kernel_rfl) trivial)) (by kernel_rfl) (fun x => (r12_0  W12_0 Q12_0 x.1 x.2.1 x.2.2.1).trans (by rfl))
theorem LOK12 : LOK Try.prog C12 0 (bodyF Try.f12) := (Lall.LOK rfl (by kernel_rfl) (Lall.cons (by kernel_rfl) l12_0 trivial))
noncomputable def E12 : ((List (Int × (Int × (Int × (Int × (Int × Unit)))))) × (List (Int × (Int × (Int × (Int × (Int × Unit)))))) × Unit) → Option Bool := fun x => S12  W12_0 Q12_0 x.1 x.2.1
noncomputable def F12 : ((List (Int × (Int × (Int × (Int × (Int × Unit)))))) × (List (Int × (Int × (Int × (Int × (Int × Unit)))))) × Unit) → Bool := fun x => (E12 x).getD (dflt .bool)
noncomputable def G12 : ((List (Int × (Int × (Int × (Int × (Int × Unit)))))) × (List (Int × (Int × (Int × (Int × (Int × Unit)))))) × Unit) → Bool := fun x => (E12 x).isSome
theorem p12 : ∀ x, G12 x = true → PureOK Try.prog 12 (mkA [(.vsl (.pair (.int .i64) (.pair (.int .i64) (.pair (.int .i64) (.pair (.int .i64) (.pair (.int .i64) .unit)))))), (.vsl (.pair (.int .i64) (.pair (.int .i64) (.pair (.int .i64) (.pair (.int .i64) (.pair (.int .i64) .unit))))))] x) ⟨.bool, F12 x⟩ :=
  PureOK.ofS (ts := [(.vsl (.pair (.int .i64) (.pair (.int .i64) (.pair (.int .i64) (.pair (.int .i64) (.pair (.int .i64) .unit)))))), (.vsl (.pair (.int .i64) (.pair (.int .i64) (.pair (.int .i64) (.pair (.int .i64) (.pair (.int .i64) .unit))))))]) (T := .bool) (S := E12) CxOK12 Try.func12 (LOK.fn LOK12) (fun x => t12  W12_0 Q12_0 x.1 x.2.1)
noncomputable def kn14 : Kn := kOf []
theorem knOK14 : KOK Try.prog kn14 := KOK.nil
noncomputable def V14_0 : (Int × Unit × Unit × Int × (List (Int × (Int × (Int × (Int × (Int × Unit)))))) × (List (Int × (Int × (Int × (Int × (Int × Unit)))))) × Unit) → Option ((Int × Unit × Unit × Int × (List (Int × (Int × (Int × (Int × (Int × Unit)))))) × (List (Int × (Int × (Int × (Int × (Int × Unit)))))) × Unit) ⊕ (Unit × Unit × (List (Int × (Int × (Int × (Int × (Int × Unit)))))) × (List (Int × (Int × (Int × (Int × (Int × Unit)))))) × Unit)) := fun x => R14_0  (fun _ => ((), (), [], [], ())) (fun _ => false) x.1 x.2.1 x.2.2.1 x.2.2.2.1 x.2.2.2.2.1 x.2.2.2.2.2.1
noncomputable def W14_0 : (Int × Unit × Unit × Int × (List (Int × (Int × (Int × (Int × (Int × Unit)))))) × (List (Int × (Int × (Int × (Int × (Int × Unit)))))) × Unit) → (Unit × Unit × (List (Int × (Int × (Int × (Int × (Int × Unit)))))) × (List (Int × (Int × (Int × (Int × (Int × Unit)))))) × Unit) := whV (hd := hd14_0) (ys := ys14_0) V14_0
noncomputable def Q14_0 : (Int × Unit × Unit × Int × (List (Int × (Int × (Int × (Int × (Int × Unit)))))) × (List (Int × (Int × (Int × (Int × (Int × Unit)))))) × Unit) → Bool := whK (hd := hd14_0) (ys := ys14_0) V14_0
noncomputable def C14 : Cx := CxL Try.Θ kn14 (lOf [(0, orc 24 26 0 hd14_0 ys14_0 W14_0 Q14_0)])
theorem CxOK14 : CxOK Try.prog C14 := ⟨Try.tabOK, knOK14, by kernel_rfl⟩
theorem l14_0 : Lone Try.prog C14 0 (.loop (loopB 0 (bodyF Try.f14))) (orc 24 26 0 hd14_0 ys14_0 W14_0 Q14_0) :=
  Lone.of CxOK14 (Lall.LOK rfl (by kernel_rfl) (Lall.skip (by kernel_rfl) trivial)) (by kernel_rfl) (fun x => (r14_0  W14_0 Q14_0 x.1 x.2.1 x.2.2.1 x.2.2.2.1 x.2.2.2.2.1 x.2.2.2.2.2.1).trans (by rfl))
theorem LOK14 : LOK Try.prog C14 0 (bodyF Try.f14) := (Lall.LOK rfl (by kernel_rfl) (Lall.cons (by kernel_rfl) l14_0 trivial))
noncomputable def E14 : (Int × Int × Unit) → Option (List (Int × (Int × (Int × (Int × (Int × Unit)))))) := fun x => S14  W14_0 Q14_0 x.1 x.2.1
noncomputable def F14 : (Int × Int × Unit) → (List (Int × (Int × (Int × (Int × (Int × Unit)))))) := fun x => (E14 x).getD (dflt (.arr 2 (.pair (.int .i64) (.pair (.int .i64) (.pair (.int .i64) (.pair (.int .i64) (.pair (.int .i64) .unit)))))))
noncomputable def G14 : (Int × Int × Unit) → Bool := fun x => (E14 x).isSome
theorem p14 : ∀ x, G14 x = true → PureOK Try.prog 14 (mkA [(.int .i64), (.int .u64)] x) ⟨(.arr 2 (.pair (.int .i64) (.pair (.int .i64) (.pair (.int .i64) (.pair (.int .i64) (.pair (.int .i64) .unit)))))), F14 x⟩ :=
  PureOK.ofS (ts := [(.int .i64), (.int .u64)]) (T := (.arr 2 (.pair (.int .i64) (.pair (.int .i64) (.pair (.int .i64) (.pair (.int .i64) (.pair (.int .i64) .unit))))))) (S := E14) CxOK14 Try.func14 (LOK.fn LOK14) (fun x => t14  W14_0 Q14_0 x.1 x.2.1)
noncomputable def kn15 : Kn := kOf []
theorem knOK15 : KOK Try.prog kn15 := KOK.nil
noncomputable def C15 : Cx := CxL Try.Θ kn15 (lOf [])
theorem CxOK15 : CxOK Try.prog C15 := ⟨Try.tabOK, knOK15, by kernel_rfl⟩
theorem LOK15 : LOK Try.prog C15 0 (bodyF Try.f15) := (Lall.LOK rfl (by kernel_rfl) trivial)
noncomputable def E15 : (Int × Int × Unit) → Option (List (Int × (Int × (Int × (Int × (Int × Unit)))))) := fun x => S15   x.1 x.2.1
noncomputable def F15 : (Int × Int × Unit) → (List (Int × (Int × (Int × (Int × (Int × Unit)))))) := fun x => (E15 x).getD (dflt (.arr 2 (.pair (.int .i64) (.pair (.int .i64) (.pair (.int .i64) (.pair (.int .i64) (.pair (.int .i64) .unit)))))))
noncomputable def G15 : (Int × Int × Unit) → Bool := fun x => (E15 x).isSome
theorem p15 : ∀ x, G15 x = true → PureOK Try.prog 15 (mkA [(.int .i64), (.int .u64)] x) ⟨(.arr 2 (.pair (.int .i64) (.pair (.int .i64) (.pair (.int .i64) (.pair (.int .i64) (.pair (.int .i64) .unit)))))), F15 x⟩ :=
  PureOK.ofS (ts := [(.int .i64), (.int .u64)]) (T := (.arr 2 (.pair (.int .i64) (.pair (.int .i64) (.pair (.int .i64) (.pair (.int .i64) (.pair (.int .i64) .unit))))))) (S := E15) CxOK15 Try.func15 (LOK.fn LOK15) (fun x => t15   x.1 x.2.1)
noncomputable def kn16 : Kn := kOf []
theorem knOK16 : KOK Try.prog kn16 := KOK.nil
noncomputable def C16 : Cx := CxL Try.Θ kn16 (lOf [])
theorem CxOK16 : CxOK Try.prog C16 := ⟨Try.tabOK, knOK16, by kernel_rfl⟩
theorem LOK16 : LOK Try.prog C16 0 (bodyF Try.f16) := (Lall.LOK rfl (by kernel_rfl) trivial)
noncomputable def E16 : ((Int × (Int × (Int × (Int × (Int × Unit))))) × (Int × (Int × (Int × (Int × (Int × Unit))))) × Unit) → Option Int := fun x => S16   x.1 x.2.1
noncomputable def F16 : ((Int × (Int × (Int × (Int × (Int × Unit))))) × (Int × (Int × (Int × (Int × (Int × Unit))))) × Unit) → Int := fun x => (E16 x).getD (dflt (.int .u64))
noncomputable def G16 : ((Int × (Int × (Int × (Int × (Int × Unit))))) × (Int × (Int × (Int × (Int × (Int × Unit))))) × Unit) → Bool := fun x => (E16 x).isSome
theorem p16 : ∀ x, G16 x = true → PureOK Try.prog 16 (mkA [(.pair (.int .i64) (.pair (.int .i64) (.pair (.int .i64) (.pair (.int .i64) (.pair (.int .i64) .unit))))), (.pair (.int .i64) (.pair (.int .i64) (.pair (.int .i64) (.pair (.int .i64) (.pair (.int .i64) .unit)))))] x) ⟨(.int .u64), F16 x⟩ :=
  PureOK.ofS (ts := [(.pair (.int .i64) (.pair (.int .i64) (.pair (.int .i64) (.pair (.int .i64) (.pair (.int .i64) .unit))))), (.pair (.int .i64) (.pair (.int .i64) (.pair (.int .i64) (.pair (.int .i64) (.pair (.int .i64) .unit)))))]) (T := (.int .u64)) (S := E16) CxOK16 Try.func16 (LOK.fn LOK16) (fun x => t16   x.1 x.2.1)
noncomputable def kn17 : Kn := kOf []
theorem knOK17 : KOK Try.prog kn17 := KOK.nil
noncomputable def C17 : Cx := CxL Try.Θ kn17 (lOf [])
theorem CxOK17 : CxOK Try.prog C17 := ⟨Try.tabOK, knOK17, by kernel_rfl⟩
theorem LOK17 : LOK Try.prog C17 0 (bodyF Try.f17) := (Lall.LOK rfl (by kernel_rfl) trivial)
noncomputable def E17 : ((Int × (Int × (Int × (Int × (Int × Unit))))) × Unit) → Option Bool := fun x => S17   x.1
noncomputable def F17 : ((Int × (Int × (Int × (Int × (Int × Unit))))) × Unit) → Bool := fun x => (E17 x).getD (dflt .bool)
noncomputable def G17 : ((Int × (Int × (Int × (Int × (Int × Unit))))) × Unit) → Bool := fun x => (E17 x).isSome
theorem p17 : ∀ x, G17 x = true → PureOK Try.prog 17 (mkA [(.pair (.int .i64) (.pair (.int .i64) (.pair (.int .i64) (.pair (.int .i64) (.pair (.int .i64) .unit)))))] x) ⟨.bool, F17 x⟩ :=
  PureOK.ofS (ts := [(.pair (.int .i64) (.pair (.int .i64) (.pair (.int .i64) (.pair (.int .i64) (.pair (.int .i64) .unit)))))]) (T := .bool) (S := E17) CxOK17 Try.func17 (LOK.fn LOK17) (fun x => t17   x.1)
noncomputable def kn18 : Kn := kOf []
theorem knOK18 : KOK Try.prog kn18 := KOK.nil
noncomputable def C18 : Cx := CxL Try.Θ kn18 (lOf [])
theorem CxOK18 : CxOK Try.prog C18 := ⟨Try.tabOK, knOK18, by kernel_rfl⟩
theorem LOK18 : LOK Try.prog C18 0 (bodyF Try.f18) := (Lall.LOK rfl (by kernel_rfl) trivial)
noncomputable def E18 : ((Int × (Int × (Int × (Int × (Int × Unit))))) × Unit) → Option Int := fun x => S18   x.1
noncomputable def F18 : ((Int × (Int × (Int × (Int × (Int × Unit))))) × Unit) → Int := fun x => (E18 x).getD (dflt (.int .i64))
noncomputable def G18 : ((Int × (Int × (Int × (Int × (Int × Unit))))) × Unit) → Bool := fun x => (E18 x).isSome
theorem p18 : ∀ x, G18 x = true → PureOK Try.prog 18 (mkA [(.pair (.int .i64) (.pair (.int .i64) (.pair (.int .i64) (.pair (.int .i64) (.pair (.int .i64) .unit)))))] x) ⟨(.int .i64), F18 x⟩ :=
  PureOK.ofS (ts := [(.pair (.int .i64) (.pair (.int .i64) (.pair (.int .i64) (.pair (.int .i64) (.pair (.int .i64) .unit)))))]) (T := (.int .i64)) (S := E18) CxOK18 Try.func18 (LOK.fn LOK18) (fun x => t18   x.1)
noncomputable def kn19 : Kn := kOf []
theorem knOK19 : KOK Try.prog kn19 := KOK.nil
noncomputable def C19 : Cx := CxL Try.Θ kn19 (lOf [])
theorem CxOK19 : CxOK Try.prog C19 := ⟨Try.tabOK, knOK19, by kernel_rfl⟩
theorem LOK19 : LOK Try.prog C19 0 (bodyF Try.f19) := (Lall.LOK rfl (by kernel_rfl) trivial)
noncomputable def E19 : ((Int × (Int × (Int × (Int × (Int × Unit))))) × Unit) → Option Int := fun x => S19   x.1
noncomputable def F19 : ((Int × (Int × (Int × (Int × (Int × Unit))))) × Unit) → Int := fun x => (E19 x).getD (dflt (.int .i64))
noncomputable def G19 : ((Int × (Int × (Int × (Int × (Int × Unit))))) × Unit) → Bool := fun x => (E19 x).isSome
theorem p19 : ∀ x, G19 x = true → PureOK Try.prog 19 (mkA [(.pair (.int .i64) (.pair (.int .i64) (.pair (.int .i64) (.pair (.int .i64) (.pair (.int .i64) .unit)))))] x) ⟨(.int .i64), F19 x⟩ :=
  PureOK.ofS (ts := [(.pair (.int .i64) (.pair (.int .i64) (.pair (.int .i64) (.pair (.int .i64) (.pair (.int .i64) .unit)))))]) (T := (.int .i64)) (S := E19) CxOK19 Try.func19 (LOK.fn LOK19) (fun x => t19   x.1)
noncomputable def kn20 : Kn := kOf [(18, sm [(.pair (.int .i64) (.pair (.int .i64) (.pair (.int .i64) (.pair (.int .i64) (.pair (.int .i64) .unit)))))] (.int .i64) F18 G18)]
theorem knOK20 : KOK Try.prog kn20 := (KOK.cons Try.call18 (SmOK.sm p18) KOK.nil)
noncomputable def C20 : Cx := CxL Try.Θ kn20 (lOf [])
theorem CxOK20 : CxOK Try.prog C20 := ⟨Try.tabOK, knOK20, by kernel_rfl⟩
theorem LOK20 : LOK Try.prog C20 0 (bodyF Try.f20) := (Lall.LOK rfl (by kernel_rfl) trivial)
noncomputable def E20 : ((Int × (Int × (Int × (Int × (Int × Unit))))) × Unit) → Option Int := fun x => S20 F18 G18  x.1
noncomputable def F20 : ((Int × (Int × (Int × (Int × (Int × Unit))))) × Unit) → Int := fun x => (E20 x).getD (dflt (.int .i64))
noncomputable def G20 : ((Int × (Int × (Int × (Int × (Int × Unit))))) × Unit) → Bool := fun x => (E20 x).isSome
theorem p20 : ∀ x, G20 x = true → PureOK Try.prog 20 (mkA [(.pair (.int .i64) (.pair (.int .i64) (.pair (.int .i64) (.pair (.int .i64) (.pair (.int .i64) .unit)))))] x) ⟨(.int .i64), F20 x⟩ :=
  PureOK.ofS (ts := [(.pair (.int .i64) (.pair (.int .i64) (.pair (.int .i64) (.pair (.int .i64) (.pair (.int .i64) .unit)))))]) (T := (.int .i64)) (S := E20) CxOK20 Try.func20 (LOK.fn LOK20) (fun x => t20 F18 G18  x.1)
noncomputable def kn21 : Kn := kOf [(19, sm [(.pair (.int .i64) (.pair (.int .i64) (.pair (.int .i64) (.pair (.int .i64) (.pair (.int .i64) .unit)))))] (.int .i64) F19 G19)]
theorem knOK21 : KOK Try.prog kn21 := (KOK.cons Try.call19 (SmOK.sm p19) KOK.nil)
noncomputable def C21 : Cx := CxL Try.Θ kn21 (lOf [])
theorem CxOK21 : CxOK Try.prog C21 := ⟨Try.tabOK, knOK21, by kernel_rfl⟩
theorem LOK21 : LOK Try.prog C21 0 (bodyF Try.f21) := (Lall.LOK rfl (by kernel_rfl) trivial)
noncomputable def E21 : ((Int × (Int × (Int × (Int × (Int × Unit))))) × Unit) → Option Int := fun x => S21 F19 G19  x.1
noncomputable def F21 : ((Int × (Int × (Int × (Int × (Int × Unit))))) × Unit) → Int := fun x => (E21 x).getD (dflt (.int .i64))
noncomputable def G21 : ((Int × (Int × (Int × (Int × (Int × Unit))))) × Unit) → Bool := fun x => (E21 x).isSome
theorem p21 : ∀ x, G21 x = true → PureOK Try.prog 21 (mkA [(.pair (.int .i64) (.pair (.int .i64) (.pair (.int .i64) (.pair (.int .i64) (.pair (.int .i64) .unit)))))] x) ⟨(.int .i64), F21 x⟩ :=
  PureOK.ofS (ts := [(.pair (.int .i64) (.pair (.int .i64) (.pair (.int .i64) (.pair (.int .i64) (.pair (.int .i64) .unit)))))]) (T := (.int .i64)) (S := E21) CxOK21 Try.func21 (LOK.fn LOK21) (fun x => t21 F19 G19  x.1)
noncomputable def kn22 : Kn := kOf []
theorem knOK22 : KOK Try.prog kn22 := KOK.nil
noncomputable def C22 : Cx := CxL Try.Θ kn22 (lOf [])
theorem CxOK22 : CxOK Try.prog C22 := ⟨Try.tabOK, knOK22, by kernel_rfl⟩
theorem LOK22 : LOK Try.prog C22 0 (bodyF Try.f22) := (Lall.LOK rfl (by kernel_rfl) trivial)
noncomputable def E22 : ((Int × (Int × (Int × (Int × (Int × Unit))))) × (Int × (Int × (Int × (Int × (Int × Unit))))) × Unit) → Option Int := fun x => S22   x.1 x.2.1
noncomputable def F22 : ((Int × (Int × (Int × (Int × (Int × Unit))))) × (Int × (Int × (Int × (Int × (Int × Unit))))) × Unit) → Int := fun x => (E22 x).getD (dflt (.int .u64))
noncomputable def G22 : ((Int × (Int × (Int × (Int × (Int × Unit))))) × (Int × (Int × (Int × (Int × (Int × Unit))))) × Unit) → Bool := fun x => (E22 x).isSome
theorem p22 : ∀ x, G22 x = true → PureOK Try.prog 22 (mkA [(.pair (.int .i64) (.pair (.int .i64) (.pair (.int .i64) (.pair (.int .i64) (.pair (.int .i64) .unit))))), (.pair (.int .i64) (.pair (.int .i64) (.pair (.int .i64) (.pair (.int .i64) (.pair (.int .i64) .unit)))))] x) ⟨(.int .u64), F22 x⟩ :=
  PureOK.ofS (ts := [(.pair (.int .i64) (.pair (.int .i64) (.pair (.int .i64) (.pair (.int .i64) (.pair (.int .i64) .unit))))), (.pair (.int .i64) (.pair (.int .i64) (.pair (.int .i64) (.pair (.int .i64) (.pair (.int .i64) .unit)))))]) (T := (.int .u64)) (S := E22) CxOK22 Try.func22 (LOK.fn LOK22) (fun x => t22   x.1 x.2.1)
noncomputable def kn3 : Kn := kOf [(8, sm [(.vsl (.pair (.int .i64) (.pair (.int .i64) (.pair (.int .i64) (.pair (.int .i64) (.pair (.int .i64) .unit))))))] (.tup .str (.tup (.int .i64) .tnil)) F8 G8), (9, sm [(.vsl (.pair (.int .i64) (.pair (.int .i64) (.pair (.int .i64) (.pair (.int .i64) (.pair (.int .i64) .unit))))))] (.tup .str (.tup (.int .i64) .tnil)) F9 G9), (10, sm [.str] (.tup (.vsl (.pair (.int .i64) (.pair (.int .i64) (.pair (.int .i64) (.pair (.int .i64) (.pair (.int .i64) .unit)))))) (.tup (.int .i64) .tnil)) F10 G10), (11, sm [.str] (.tup (.vsl (.pair (.int .i64) (.pair (.int .i64) (.pair (.int .i64) (.pair (.int .i64) (.pair (.int .i64) .unit)))))) (.tup (.int .i64) .tnil)) F11 G11), (12, sm [(.vsl (.pair (.int .i64) (.pair (.int .i64) (.pair (.int .i64) (.pair (.int .i64) (.pair (.int .i64) .unit)))))), (.vsl (.pair (.int .i64) (.pair (.int .i64) (.pair (.int .i64) (.pair (.int .i64) (.pair (.int .i64) .unit))))))] .bool F12 G12), (13, sm [] .bool F13 G13)]
theorem knOK3 : KOK Try.prog kn3 := (KOK.cons Try.call8 (SmOK.sm p8) (KOK.cons Try.call9 (SmOK.sm p9) (KOK.cons Try.call10 (SmOK.sm p10) (KOK.cons Try.call11 (SmOK.sm p11) (KOK.cons Try.call12 (SmOK.sm p12) (KOK.cons Try.call13 (SmOK.sm p13) KOK.nil))))))
noncomputable def C3 : Cx := CxL Try.Θ kn3 (lOf [])
theorem CxOK3 : CxOK Try.prog C3 := ⟨Try.tabOK, knOK3, by kernel_rfl⟩
theorem LOK3 : LOK Try.prog C3 0 (bodyF Try.f3) := (Lall.LOK rfl (by kernel_rfl) trivial)
noncomputable def E3 : ((List (Int × (Int × (Int × (Int × (Int × Unit)))))) × (List UInt8) × Unit) → Option Bool := fun x => S3 F8 G8 F9 G9 F10 G10 F11 G11 F12 G12 F13 G13  x.1 x.2.1
noncomputable def F3 : ((List (Int × (Int × (Int × (Int × (Int × Unit)))))) × (List UInt8) × Unit) → Bool := fun x => (E3 x).getD (dflt .bool)
noncomputable def G3 : ((List (Int × (Int × (Int × (Int × (Int × Unit)))))) × (List UInt8) × Unit) → Bool := fun x => (E3 x).isSome
theorem p3 : ∀ x, G3 x = true → PureOK Try.prog 3 (mkA [(.vsl (.pair (.int .i64) (.pair (.int .i64) (.pair (.int .i64) (.pair (.int .i64) (.pair (.int .i64) .unit)))))), .str] x) ⟨.bool, F3 x⟩ :=
  PureOK.ofS (ts := [(.vsl (.pair (.int .i64) (.pair (.int .i64) (.pair (.int .i64) (.pair (.int .i64) (.pair (.int .i64) .unit)))))), .str]) (T := .bool) (S := E3) CxOK3 Try.func3 (LOK.fn LOK3) (fun x => t3 F8 G8 F9 G9 F10 G10 F11 G11 F12 G12 F13 G13  x.1 x.2.1)
noncomputable def kn4 : Kn := kOf [(8, sm [(.vsl (.pair (.int .i64) (.pair (.int .i64) (.pair (.int .i64) (.pair (.int .i64) (.pair (.int .i64) .unit))))))] (.tup .str (.tup (.int .i64) .tnil)) F8 G8), (10, sm [.str] (.tup (.vsl (.pair (.int .i64) (.pair (.int .i64) (.pair (.int .i64) (.pair (.int .i64) (.pair (.int .i64) .unit)))))) (.tup (.int .i64) .tnil)) F10 G10), (12, sm [(.vsl (.pair (.int .i64) (.pair (.int .i64) (.pair (.int .i64) (.pair (.int .i64) (.pair (.int .i64) .unit)))))), (.vsl (.pair (.int .i64) (.pair (.int .i64) (.pair (.int .i64) (.pair (.int .i64) (.pair (.int .i64) .unit))))))] .bool F12 G12), (13, sm [] .bool F13 G13)]
theorem knOK4 : KOK Try.prog kn4 := (KOK.cons Try.call8 (SmOK.sm p8) (KOK.cons Try.call10 (SmOK.sm p10) (KOK.cons Try.call12 (SmOK.sm p12) (KOK.cons Try.call13 (SmOK.sm p13) KOK.nil))))
noncomputable def C4 : Cx := CxL Try.Θ kn4 (lOf [])
theorem CxOK4 : CxOK Try.prog C4 := ⟨Try.tabOK, knOK4, by kernel_rfl⟩
theorem LOK4 : LOK Try.prog C4 0 (bodyF Try.f4) := (Lall.LOK rfl (by kernel_rfl) trivial)
noncomputable def E4 : ((List (Int × (Int × (Int × (Int × (Int × Unit)))))) × (List UInt8) × Unit) → Option Bool := fun x => S4 F8 G8 F10 G10 F12 G12 F13 G13  x.1 x.2.1
noncomputable def F4 : ((List (Int × (Int × (Int × (Int × (Int × Unit)))))) × (List UInt8) × Unit) → Bool := fun x => (E4 x).getD (dflt .bool)
noncomputable def G4 : ((List (Int × (Int × (Int × (Int × (Int × Unit)))))) × (List UInt8) × Unit) → Bool := fun x => (E4 x).isSome
theorem p4 : ∀ x, G4 x = true → PureOK Try.prog 4 (mkA [(.vsl (.pair (.int .i64) (.pair (.int .i64) (.pair (.int .i64) (.pair (.int .i64) (.pair (.int .i64) .unit)))))), .str] x) ⟨.bool, F4 x⟩ :=
  PureOK.ofS (ts := [(.vsl (.pair (.int .i64) (.pair (.int .i64) (.pair (.int .i64) (.pair (.int .i64) (.pair (.int .i64) .unit)))))), .str]) (T := .bool) (S := E4) CxOK4 Try.func4 (LOK.fn LOK4) (fun x => t4 F8 G8 F10 G10 F12 G12 F13 G13  x.1 x.2.1)
noncomputable def kn5 : Kn := kOf [(13, sm [] .bool F13 G13), (14, sm [(.int .i64), (.int .u64)] (.arr 2 (.pair (.int .i64) (.pair (.int .i64) (.pair (.int .i64) (.pair (.int .i64) (.pair (.int .i64) .unit)))))) F14 G14), (15, sm [(.int .i64), (.int .u64)] (.arr 2 (.pair (.int .i64) (.pair (.int .i64) (.pair (.int .i64) (.pair (.int .i64) (.pair (.int .i64) .unit)))))) F15 G15), (16, sm [(.pair (.int .i64) (.pair (.int .i64) (.pair (.int .i64) (.pair (.int .i64) (.pair (.int .i64) .unit))))), (.pair (.int .i64) (.pair (.int .i64) (.pair (.int .i64) (.pair (.int .i64) (.pair (.int .i64) .unit)))))] (.int .u64) F16 G16), (17, sm [(.pair (.int .i64) (.pair (.int .i64) (.pair (.int .i64) (.pair (.int .i64) (.pair (.int .i64) .unit)))))] .bool F17 G17), (18, sm [(.pair (.int .i64) (.pair (.int .i64) (.pair (.int .i64) (.pair (.int .i64) (.pair (.int .i64) .unit)))))] (.int .i64) F18 G18), (19, sm [(.pair (.int .i64) (.pair (.int .i64) (.pair (.int .i64) (.pair (.int .i64) (.pair (.int .i64) .unit)))))] (.int .i64) F19 G19), (20, sm [(.pair (.int .i64) (.pair (.int .i64) (.pair (.int .i64) (.pair (.int .i64) (.pair (.int .i64) .unit)))))] (.int .i64) F20 G20), (21, sm [(.pair (.int .i64) (.pair (.int .i64) (.pair (.int .i64) (.pair (.int .i64) (.pair (.int .i64) .unit)))))] (.int .i64) F21 G21), (22, sm [(.pair (.int .i64) (.pair (.int .i64) (.pair (.int .i64) (.pair (.int .i64) (.pair (.int .i64) .unit))))), (.pair (.int .i64) (.pair (.int .i64) (.pair (.int .i64) (.pair (.int .i64) (.pair (.int .i64) .unit)))))] (.int .u64) F22 G22)]
theorem knOK5 : KOK Try.prog kn5 := (KOK.cons Try.call13 (SmOK.sm p13) (KOK.cons Try.call14 (SmOK.sm p14) (KOK.cons Try.call15 (SmOK.sm p15) (KOK.cons Try.call16 (SmOK.sm p16) (KOK.cons Try.call17 (SmOK.sm p17) (KOK.cons Try.call18 (SmOK.sm p18) (KOK.cons Try.call19 (SmOK.sm p19) (KOK.cons Try.call20 (SmOK.sm p20) (KOK.cons Try.call21 (SmOK.sm p21) (KOK.cons Try.call22 (SmOK.sm p22) KOK.nil))))))))))
noncomputable def C5 : Cx := CxL Try.Θ kn5 (lOf [])
theorem CxOK5 : CxOK Try.prog C5 := ⟨Try.tabOK, knOK5, by kernel_rfl⟩
theorem LOK5 : LOK Try.prog C5 0 (bodyF Try.f5) := (Lall.LOK rfl (by kernel_rfl) trivial)
noncomputable def E5 : (Int × Int × (Int × (Int × (Int × (Int × (Int × Unit))))) × Unit) → Option Bool := fun x => S5 F13 G13 F14 G14 F15 G15 F16 G16 F17 G17 F18 G18 F19 G19 F20 G20 F21 G21 F22 G22  x.1 x.2.1 x.2.2.1
noncomputable def F5 : (Int × Int × (Int × (Int × (Int × (Int × (Int × Unit))))) × Unit) → Bool := fun x => (E5 x).getD (dflt .bool)
noncomputable def G5 : (Int × Int × (Int × (Int × (Int × (Int × (Int × Unit))))) × Unit) → Bool := fun x => (E5 x).isSome
theorem p5 : ∀ x, G5 x = true → PureOK Try.prog 5 (mkA [(.int .i64), (.int .u64), (.pair (.int .i64) (.pair (.int .i64) (.pair (.int .i64) (.pair (.int .i64) (.pair (.int .i64) .unit)))))] x) ⟨.bool, F5 x⟩ :=
  PureOK.ofS (ts := [(.int .i64), (.int .u64), (.pair (.int .i64) (.pair (.int .i64) (.pair (.int .i64) (.pair (.int .i64) (.pair (.int .i64) .unit)))))]) (T := .bool) (S := E5) CxOK5 Try.func5 (LOK.fn LOK5) (fun x => t5 F13 G13 F14 G14 F15 G15 F16 G16 F17 G17 F18 G18 F19 G19 F20 G20 F21 G21 F22 G22  x.1 x.2.1 x.2.2.1)
noncomputable def kn6 : Kn := kOf [(8, sm [(.vsl (.pair (.int .i64) (.pair (.int .i64) (.pair (.int .i64) (.pair (.int .i64) (.pair (.int .i64) .unit))))))] (.tup .str (.tup (.int .i64) .tnil)) F8 G8), (13, sm [] .bool F13 G13)]
theorem knOK6 : KOK Try.prog kn6 := (KOK.cons Try.call8 (SmOK.sm p8) (KOK.cons Try.call13 (SmOK.sm p13) KOK.nil))
noncomputable def C6 : Cx := CxL Try.Θ kn6 (lOf [])
theorem CxOK6 : CxOK Try.prog C6 := ⟨Try.tabOK, knOK6, by kernel_rfl⟩
theorem LOK6 : LOK Try.prog C6 0 (bodyF Try.f6) := (Lall.LOK rfl (by kernel_rfl) trivial)
noncomputable def E6 : ((List (Int × (Int × (Int × (Int × (Int × Unit)))))) × (List (Int × (Int × (Int × (Int × (Int × Unit)))))) × Unit) → Option Bool := fun x => S6 F8 G8 F13 G13  x.1 x.2.1
noncomputable def F6 : ((List (Int × (Int × (Int × (Int × (Int × Unit)))))) × (List (Int × (Int × (Int × (Int × (Int × Unit)))))) × Unit) → Bool := fun x => (E6 x).getD (dflt .bool)
noncomputable def G6 : ((List (Int × (Int × (Int × (Int × (Int × Unit)))))) × (List (Int × (Int × (Int × (Int × (Int × Unit)))))) × Unit) → Bool := fun x => (E6 x).isSome
theorem p6 : ∀ x, G6 x = true → PureOK Try.prog 6 (mkA [(.vsl (.pair (.int .i64) (.pair (.int .i64) (.pair (.int .i64) (.pair (.int .i64) (.pair (.int .i64) .unit)))))), (.vsl (.pair (.int .i64) (.pair (.int .i64) (.pair (.int .i64) (.pair (.int .i64) (.pair (.int .i64) .unit))))))] x) ⟨.bool, F6 x⟩ :=
  PureOK.ofS (ts := [(.vsl (.pair (.int .i64) (.pair (.int .i64) (.pair (.int .i64) (.pair (.int .i64) (.pair (.int .i64) .unit)))))), (.vsl (.pair (.int .i64) (.pair (.int .i64) (.pair (.int .i64) (.pair (.int .i64) (.pair (.int .i64) .unit))))))]) (T := .bool) (S := E6) CxOK6 Try.func6 (LOK.fn LOK6) (fun x => t6 F8 G8 F13 G13  x.1 x.2.1)
noncomputable def kn7 : Kn := kOf [(8, sm [(.vsl (.pair (.int .i64) (.pair (.int .i64) (.pair (.int .i64) (.pair (.int .i64) (.pair (.int .i64) .unit))))))] (.tup .str (.tup (.int .i64) .tnil)) F8 G8), (13, sm [] .bool F13 G13)]
theorem knOK7 : KOK Try.prog kn7 := (KOK.cons Try.call8 (SmOK.sm p8) (KOK.cons Try.call13 (SmOK.sm p13) KOK.nil))
noncomputable def C7 : Cx := CxL Try.Θ kn7 (lOf [])
theorem CxOK7 : CxOK Try.prog C7 := ⟨Try.tabOK, knOK7, by kernel_rfl⟩
theorem LOK7 : LOK Try.prog C7 0 (bodyF Try.f7) := (Lall.LOK rfl (by kernel_rfl) trivial)
noncomputable def E7 : ((Int × (Int × (Int × (Int × (Int × Unit))))) × Int × Int × Unit) → Option Bool := fun x => S7 F8 G8 F13 G13  x.1 x.2.1 x.2.2.1
noncomputable def F7 : ((Int × (Int × (Int × (Int × (Int × Unit))))) × Int × Int × Unit) → Bool := fun x => (E7 x).getD (dflt .bool)
noncomputable def G7 : ((Int × (Int × (Int × (Int × (Int × Unit))))) × Int × Int × Unit) → Bool := fun x => (E7 x).isSome
theorem p7 : ∀ x, G7 x = true → PureOK Try.prog 7 (mkA [(.pair (.int .i64) (.pair (.int .i64) (.pair (.int .i64) (.pair (.int .i64) (.pair (.int .i64) .unit))))), (.int .i64), (.int .i64)] x) ⟨.bool, F7 x⟩ :=
  PureOK.ofS (ts := [(.pair (.int .i64) (.pair (.int .i64) (.pair (.int .i64) (.pair (.int .i64) (.pair (.int .i64) .unit))))), (.int .i64), (.int .i64)]) (T := .bool) (S := E7) CxOK7 Try.func7 (LOK.fn LOK7) (fun x => t7 F8 G8 F13 G13  x.1 x.2.1 x.2.2.1)
end Go.Proofs
