import Derived.Test.YtjnbpklllapjiaaB
import Derived.Test.YtjnbpklllapjiaaGe
namespace Go.Proofs
open Go.GX
set_option linter.unusedVariables false
set_option maxRecDepth 100000
noncomputable def kn59 : Kn := kOf []
theorem knOK59 : KOK Try.prog kn59 := KOK.nil
noncomputable def C59 : Cx := CxL Try.Θ kn59 (lOf [])
theorem CxOK59 : CxOK Try.prog C59 := ⟨Try.tabOK, knOK59, by kernel_rfl, POK.none⟩
theorem LOK59 : LOK Try.prog C59 0 (bodyF Try.f59) := (Lall.LOK rfl (by kernel_rfl) trivial)
noncomputable def E59 : ((Int × (Int × Unit)) × Unit) → Option Bool := fun x => S59   x.1
noncomputable def F59 : ((Int × (Int × Unit)) × Unit) → Bool := fun x => (E59 x).getD (dflt .bool)
noncomputable def G59 : ((Int × (Int × Unit)) × Unit) → Bool := fun x => (E59 x).isSome
theorem p59 : ∀ x, G59 x = true → PureOK Try.prog 59 (mkA [KT13] x) ⟨.bool, F59 x⟩ :=
  PureOK.ofS (ts := [KT13]) (T := .bool) (S := E59) CxOK59 Try.func59 (LOK.fn LOK59) (fun x => t59   x.1)
noncomputable def kn61 : Kn := kOf []
theorem knOK61 : KOK Try.prog kn61 := KOK.nil
noncomputable def V61_0 : (Int × Unit × Int × Int × (Int × (Int × Unit)) × Unit) → Option ((Int × Unit × Int × Int × (Int × (Int × Unit)) × Unit) ⊕ (Int × Unit × Int × (Int × (Int × Unit)) × Unit)) := fun x => R61_0  (fun _ => (0, (), 0, (0, (0, ())), ())) (fun _ => false) x.1 x.2.1 x.2.2.1 x.2.2.2.1 x.2.2.2.2.1
noncomputable def W61_0 : (Int × Unit × Int × Int × (Int × (Int × Unit)) × Unit) → (Int × Unit × Int × (Int × (Int × Unit)) × Unit) := whV (hd := hd61_0) (ys := ys61_0) V61_0
noncomputable def Q61_0 : (Int × Unit × Int × Int × (Int × (Int × Unit)) × Unit) → Bool := whK (hd := hd61_0) (ys := ys61_0) V61_0
noncomputable def C61 : Cx := CxL Try.Θ kn61 (lOf [(0, orc 22 25 0 hd61_0 ys61_0 W61_0 Q61_0)])
theorem CxOK61 : CxOK Try.prog C61 := ⟨Try.tabOK, knOK61, by kernel_rfl, POK.none⟩
theorem l61_0 : Lone Try.prog C61 0 (.loop (loopB 0 (bodyF Try.f61))) (orc 22 25 0 hd61_0 ys61_0 W61_0 Q61_0) :=
  Lone.of CxOK61 (Lall.LOK rfl (by kernel_rfl) (Lall.skip (by kernel_rfl) trivial)) (by kernel_rfl) (fun x => (r61_0  W61_0 Q61_0 x.1 x.2.1 x.2.2.1 x.2.2.2.1 x.2.2.2.2.1).trans (by first | (delta V61_0 R61_0; with_reducible rfl) | rfl))
theorem LOK61 : LOK Try.prog C61 0 (bodyF Try.f61) := (Lall.LOK rfl (by kernel_rfl) (Lall.cons (by kernel_rfl) l61_0 trivial))
noncomputable def E61 : (Int × Int × Unit) → Option (Int × (Int × Unit)) := fun x => S61  W61_0 Q61_0 x.1 x.2.1
noncomputable def F61 : (Int × Int × Unit) → (Int × (Int × Unit)) := fun x => (E61 x).getD (dflt KT13)
noncomputable def G61 : (Int × Int × Unit) → Bool := fun x => (E61 x).isSome
theorem p61 : ∀ x, G61 x = true → PureOK Try.prog 61 (mkA [(.int .u64), (.int .u64)] x) ⟨KT13, F61 x⟩ :=
  PureOK.ofS (ts := [(.int .u64), (.int .u64)]) (T := KT13) (S := E61) CxOK61 Try.func61 (LOK.fn LOK61) (fun x => t61  W61_0 Q61_0 x.1 x.2.1)
noncomputable def kn60 : Kn := kOf []
theorem knOK60 : KOK Try.prog kn60 := KOK.nil
noncomputable def C60 : Cx := CxL Try.Θ kn60 (lOf [])
theorem CxOK60 : CxOK Try.prog C60 := ⟨Try.tabOK, knOK60, by kernel_rfl, POK.none⟩
theorem LOK60 : LOK Try.prog C60 0 (bodyF Try.f60) := (Lall.LOK rfl (by kernel_rfl) trivial)
noncomputable def E60 : ((Int × (Int × Unit)) × (Int × (Int × Unit)) × Unit) → Option KD21 := fun x => S60   x.1 x.2.1
noncomputable def F60 : ((Int × (Int × Unit)) × (Int × (Int × Unit)) × Unit) → KD21 := fun x => (E60 x).getD (dflt KT22)
noncomputable def G60 : ((Int × (Int × Unit)) × (Int × (Int × Unit)) × Unit) → Bool := fun x => (E60 x).isSome
theorem p60 : ∀ x, G60 x = true → PureOK Try.prog 60 (mkA [KT13, KT13] x) ⟨KT22, F60 x⟩ :=
  PureOK.ofS (ts := [KT13, KT13]) (T := KT22) (S := E60) CxOK60 Try.func60 (LOK.fn LOK60) (fun x => t60   x.1 x.2.1)
noncomputable def kn54 : Kn := kOf [(59, sm [KT13] .bool F59 G59), (60, sm [KT13, KT13] KT22 F60 G60), (61, sm [(.int .u64), (.int .u64)] KT13 F61 G61)]
theorem knOK54 : KOK Try.prog kn54 := (KOK.cons Try.call59 (SmOK.sm p59) (KOK.cons Try.call60 (SmOK.sm p60) (KOK.cons Try.call61 (SmOK.sm p61) KOK.nil)))
noncomputable def V54_0 : (Unit × Unit × Int × KD0 × KD0 × Unit) → Option ((Unit × Unit × Int × KD0 × KD0 × Unit) ⊕ ((Unit × Unit × KD0 × KD0 × Unit) ⊕ (Unit × Bool × KD0 × Unit))) := fun x => R54_0 F59 G59 F60 G60 F61 G61 (fun _ => (Sum.inl ((), (), ((0, (0, ())), (0, (0, ()))), ((0, (0, ())), (0, (0, ()))), ()))) (fun _ => false) x.1 x.2.1 x.2.2.1 x.2.2.2.1 x.2.2.2.2.1
noncomputable def W54_0 : (Unit × Unit × Int × KD0 × KD0 × Unit) → ((Unit × Unit × KD0 × KD0 × Unit) ⊕ (Unit × Bool × KD0 × Unit)) := whV (hd := hd54_0) (ys := ys54_0) V54_0
noncomputable def Q54_0 : (Unit × Unit × Int × KD0 × KD0 × Unit) → Bool := whK (hd := hd54_0) (ys := ys54_0) V54_0
noncomputable def C54 : Cx := CxL Try.Θ kn54 (lOf [(0, orc 57 26 0 hd54_0 ys54_0 W54_0 Q54_0)])
theorem CxOK54 : CxOK Try.prog C54 := ⟨Try.tabOK, knOK54, by kernel_rfl, POK.none⟩
theorem l54_0 : Lone Try.prog C54 0 (.loop (loopB 0 (bodyF Try.f54))) (orc 57 26 0 hd54_0 ys54_0 W54_0 Q54_0) :=
  Lone.of CxOK54 (Lall.LOK rfl (by kernel_rfl) (Lall.skip (by kernel_rfl) trivial)) (by kernel_rfl) (fun x => (r54_0 F59 G59 F60 G60 F61 G61 W54_0 Q54_0 x.1 x.2.1 x.2.2.1 x.2.2.2.1 x.2.2.2.2.1).trans (by first | (delta V54_0 R54_0; with_reducible rfl) | rfl))
theorem LOK54 : LOK Try.prog C54 0 (bodyF Try.f54) := (Lall.LOK rfl (by kernel_rfl) (Lall.cons (by kernel_rfl) l54_0 trivial))
noncomputable def E54 : (KD0 × Unit) → Option (KD0 × (Bool × Unit)) := fun x => S54 F59 G59 F60 G60 F61 G61 W54_0 Q54_0 x.1
noncomputable def F54 : (KD0 × Unit) → (KD0 × (Bool × Unit)) := fun x => (E54 x).getD (dflt KT23)
noncomputable def G54 : (KD0 × Unit) → Bool := fun x => (E54 x).isSome
theorem p54 : ∀ x, G54 x = true → PureOK Try.prog 54 (mkA [(.pair KT13 KT13)] x) ⟨KT23, F54 x⟩ :=
  PureOK.ofS (ts := [(.pair KT13 KT13)]) (T := KT23) (S := E54) CxOK54 Try.func54 (LOK.fn LOK54) (fun x => t54 F59 G59 F60 G60 F61 G61 W54_0 Q54_0 x.1)
noncomputable def kn45 : Kn := kOf [(54, sm [(.pair KT13 KT13)] KT23 F54 G54)]
theorem knOK45 : KOK Try.prog kn45 := (KOK.cons Try.call54 (SmOK.sm p54) KOK.nil)
noncomputable def C45 : Cx := CxL Try.Θ kn45 (lOf [])
theorem CxOK45 : CxOK Try.prog C45 := ⟨Try.tabOK, knOK45, by kernel_rfl, POK.none⟩
theorem LOK45 : LOK Try.prog C45 0 (bodyF Try.f45) := (Lall.LOK rfl (by kernel_rfl) trivial)
noncomputable def E45 : (KD0 × Unit) → Option Bool := fun x => S45 F54 G54  x.1
noncomputable def F45 : (KD0 × Unit) → Bool := fun x => (E45 x).getD (dflt .bool)
noncomputable def G45 : (KD0 × Unit) → Bool := fun x => (E45 x).isSome
theorem p45 : ∀ x, G45 x = true → PureOK Try.prog 45 (mkA [(.pair KT13 KT13)] x) ⟨.bool, F45 x⟩ :=
  PureOK.ofS (ts := [(.pair KT13 KT13)]) (T := .bool) (S := E45) CxOK45 Try.func45 (LOK.fn LOK45) (fun x => t45 F54 G54  x.1)
noncomputable def kn24 : Kn := kOf [(45, sm [(.pair KT13 KT13)] .bool F45 G45)]
theorem knOK24 : KOK Try.prog kn24 := (KOK.cons Try.call45 (SmOK.sm p45) KOK.nil)
noncomputable def C24 : Cx := CxL Try.Θ kn24 (lOf [])
theorem CxOK24 : CxOK Try.prog C24 := ⟨Try.tabOK, knOK24, by kernel_rfl, POK.none⟩
theorem LOK24 : LOK Try.prog C24 0 (bodyF Try.f24) := (Lall.LOK rfl (by kernel_rfl) trivial)
noncomputable def E24 : ((Int × (KD0 × KD1)) × Unit) → Option Bool := fun x => S24 F45 G45  x.1
noncomputable def F24 : ((Int × (KD0 × KD1)) × Unit) → Bool := fun x => (E24 x).getD (dflt .bool)
noncomputable def G24 : ((Int × (KD0 × KD1)) × Unit) → Bool := fun x => (E24 x).isSome
theorem p24 : ∀ x, G24 x = true → PureOK Try.prog 24 (mkA [KT18] x) ⟨.bool, F24 x⟩ :=
  PureOK.ofS (ts := [KT18]) (T := .bool) (S := E24) CxOK24 Try.func24 (LOK.fn LOK24) (fun x => t24 F45 G45  x.1)
noncomputable def kn7 : Kn := kOf [(24, sm [KT18] .bool F24 G24)]
theorem knOK7 : KOK Try.prog kn7 := (KOK.cons Try.call24 (SmOK.sm p24) KOK.nil)
noncomputable def V7_0 : (Unit × Int × KD6 × Unit) → Option ((Unit × Int × KD6 × Unit) ⊕ ((Unit × KD6 × Unit) ⊕ (Bool × Unit))) := fun x => R7_0 F24 G24 (fun _ => (Sum.inl ((), ([], ([], (0, ([], (0, ()))))), ()))) (fun _ => false) (fun _ => (Sum.inl ((), ([], ([], (0, ([], (0, ()))))), ()))) (fun _ => false) (fun _ => (Sum.inl ((), 0, ([], ([], (0, ([], (0, ()))))), ()))) (fun _ => false) (fun _ => (Sum.inl ((), ([], ([], (0, ([], (0, ()))))), ()))) (fun _ => false) x.1 x.2.1 x.2.2.1
noncomputable def W7_0 : (Unit × Int × KD6 × Unit) → ((Unit × KD6 × Unit) ⊕ (Bool × Unit)) := whV (hd := hd7_0) (ys := ys7_0) V7_0
noncomputable def Q7_0 : (Unit × Int × KD6 × Unit) → Bool := whK (hd := hd7_0) (ys := ys7_0) V7_0
noncomputable def V7_2 : (Unit × Int × KD6 × Unit) → Option ((Unit × Int × KD6 × Unit) ⊕ ((Unit × KD6 × Unit) ⊕ (Bool × Unit))) := fun x => R7_2 F24 G24 W7_0 Q7_0 (fun _ => (Sum.inl ((), ([], ([], (0, ([], (0, ()))))), ()))) (fun _ => false) (fun _ => (Sum.inl ((), 0, ([], ([], (0, ([], (0, ()))))), ()))) (fun _ => false) (fun _ => (Sum.inl ((), ([], ([], (0, ([], (0, ()))))), ()))) (fun _ => false) x.1 x.2.1 x.2.2.1
noncomputable def W7_2 : (Unit × Int × KD6 × Unit) → ((Unit × KD6 × Unit) ⊕ (Bool × Unit)) := whV (hd := hd7_2) (ys := ys7_2) V7_2
noncomputable def Q7_2 : (Unit × Int × KD6 × Unit) → Bool := whK (hd := hd7_2) (ys := ys7_2) V7_2
noncomputable def V7_6 : (Unit × Int × Int × KD6 × Unit) → Option ((Unit × Int × Int × KD6 × Unit) ⊕ ((Unit × Int × KD6 × Unit) ⊕ (Bool × Unit))) := fun x => R7_6 F24 G24 W7_0 Q7_0 W7_2 Q7_2 (fun _ => (Sum.inl ((), 0, ([], ([], (0, ([], (0, ()))))), ()))) (fun _ => false) (fun _ => (Sum.inl ((), ([], ([], (0, ([], (0, ()))))), ()))) (fun _ => false) x.1 x.2.1 x.2.2.1 x.2.2.2.1
noncomputable def W7_6 : (Unit × Int × Int × KD6 × Unit) → ((Unit × Int × KD6 × Unit) ⊕ (Bool × Unit)) := whV (hd := hd7_6) (ys := ys7_6) V7_6
noncomputable def Q7_6 : (Unit × Int × Int × KD6 × Unit) → Bool := whK (hd := hd7_6) (ys := ys7_6) V7_6
noncomputable def V7_4 : (Unit × Int × KD6 × Unit) → Option ((Unit × Int × KD6 × Unit) ⊕ ((Unit × KD6 × Unit) ⊕ (Bool × Unit))) := fun x => R7_4 F24 G24 W7_0 Q7_0 W7_2 Q7_2 W7_6 Q7_6 (fun _ => (Sum.inl ((), ([], ([], (0, ([], (0, ()))))), ()))) (fun _ => false) x.1 x.2.1 x.2.2.1
noncomputable def W7_4 : (Unit × Int × KD6 × Unit) → ((Unit × KD6 × Unit) ⊕ (Bool × Unit)) := whV (hd := hd7_4) (ys := ys7_4) V7_4
noncomputable def Q7_4 : (Unit × Int × KD6 × Unit) → Bool := whK (hd := hd7_4) (ys := ys7_4) V7_4
noncomputable def C7 : Cx := CxL Try.Θl kn7 (lOf [(0, orc 142 25 0 hd7_0 ys7_0 W7_0 Q7_0), (2, orc 142 49 2 hd7_2 ys7_2 W7_2 Q7_2), (6, orc 142 97 6 hd7_6 ys7_6 W7_6 Q7_6), (4, orc 142 73 4 hd7_4 ys7_4 W7_4 Q7_4)])
theorem CxOK7 : CxOK Try.prog C7 := ⟨Try.tabOKl, knOK7, by kernel_rfl, POK.none⟩
theorem l7_0 : Lone Try.prog C7 0 (.loop (loopB 0 (bodyF Try.f7))) (orc 142 25 0 hd7_0 ys7_0 W7_0 Q7_0) :=
  Lone.of CxOK7 (Lall.LOK rfl (by kernel_rfl) (Lall.skip (by kernel_rfl) (Lall.skip (by kernel_rfl) (Lall.skip (by kernel_rfl) (Lall.skip (by kernel_rfl) trivial))))) (by kernel_rfl) (fun x => (r7_0 F24 G24 W7_0 Q7_0 W7_2 Q7_2 W7_6 Q7_6 W7_4 Q7_4 x.1 x.2.1 x.2.2.1).trans (by first | (delta V7_0 R7_0; with_reducible rfl) | rfl))
theorem l7_2 : Lone Try.prog C7 2 (.loop (loopB 2 (bodyF Try.f7))) (orc 142 49 2 hd7_2 ys7_2 W7_2 Q7_2) :=
  Lone.of CxOK7 (Lall.LOK rfl (by kernel_rfl) (Lall.skip (by kernel_rfl) (Lall.skip (by kernel_rfl) (Lall.skip (by kernel_rfl) (Lall.skip (by kernel_rfl) trivial))))) (by kernel_rfl) (fun x => (r7_2 F24 G24 W7_0 Q7_0 W7_2 Q7_2 W7_6 Q7_6 W7_4 Q7_4 x.1 x.2.1 x.2.2.1).trans (by first | (delta V7_2 R7_2; with_reducible rfl) | rfl))
theorem l7_6 : Lone Try.prog C7 6 (.loop (loopB 6 (bodyF Try.f7))) (orc 142 97 6 hd7_6 ys7_6 W7_6 Q7_6) :=
  Lone.of CxOK7 (Lall.LOK rfl (by kernel_rfl) (Lall.skip (by kernel_rfl) (Lall.skip (by kernel_rfl) (Lall.skip (by kernel_rfl) (Lall.skip (by kernel_rfl) trivial))))) (by kernel_rfl) (fun x => (r7_6 F24 G24 W7_0 Q7_0 W7_2 Q7_2 W7_6 Q7_6 W7_4 Q7_4 x.1 x.2.1 x.2.2.1 x.2.2.2.1).trans (by first | (delta V7_6 R7_6; with_reducible rfl) | rfl))
theorem l7_4 : Lone Try.prog C7 4 (.loop (loopB 4 (bodyF Try.f7))) (orc 142 73 4 hd7_4 ys7_4 W7_4 Q7_4) :=
  Lone.of CxOK7 (Lall.LOK rfl (by kernel_rfl) (Lall.skip (by kernel_rfl) (Lall.skip (by kernel_rfl) (Lall.cons (by kernel_rfl) l7_6 (Lall.skip (by kernel_rfl) trivial))))) (by kernel_rfl) (fun x => (r7_4 F24 G24 W7_0 Q7_0 W7_2 Q7_2 W7_6 Q7_6 W7_4 Q7_4 x.1 x.2.1 x.2.2.1).trans (by first | (delta V7_4 R7_4; with_reducible rfl) | rfl))
theorem LOK7 : LOK Try.prog C7 0 (bodyF Try.f7) := (Lall.LOK rfl (by kernel_rfl) (Lall.cons (by kernel_rfl) l7_0 (Lall.cons (by kernel_rfl) l7_2 (Lall.cons (by kernel_rfl) l7_6 (Lall.cons (by kernel_rfl) l7_4 trivial)))))
noncomputable def E7 : (KD6 × Unit) → Option Bool := fun x => S7 F24 G24 W7_0 Q7_0 W7_2 Q7_2 W7_6 Q7_6 W7_4 Q7_4 x.1
noncomputable def F7 : (KD6 × Unit) → Bool := fun x => (E7 x).getD (dflt .bool)
noncomputable def G7 : (KD6 × Unit) → Bool := fun x => (E7 x).isSome
theorem p7 : ∀ x, G7 x = true → PureOK Try.prog 7 (mkA [KT27] x) ⟨.bool, F7 x⟩ :=
  PureOK.ofL (ts := [KT27]) (T := .bool) (S := E7) CxOK7 Try.func7 (LOK.fn LOK7) (fun x => t7 F24 G24 W7_0 Q7_0 W7_2 Q7_2 W7_6 Q7_6 W7_4 Q7_4 x.1)
noncomputable def kn12 : Kn := kOf []
theorem knOK12 : KOK Try.prog kn12 := KOK.nil
noncomputable def V12_0 : (Unit × Unit × Int × KD6 × KD6 × Unit) → Option ((Unit × Unit × Int × KD6 × KD6 × Unit) ⊕ ((Unit) ⊕ (Bool × Unit))) := fun x => R12_0  (fun _ => (Sum.inl (()))) (fun _ => false) x.1 x.2.1 x.2.2.1 x.2.2.2.1 x.2.2.2.2.1
noncomputable def W12_0 : (Unit × Unit × Int × KD6 × KD6 × Unit) → ((Unit) ⊕ (Bool × Unit)) := whV (hd := hd12_0) (ys := ys12_0) V12_0
noncomputable def Q12_0 : (Unit × Unit × Int × KD6 × KD6 × Unit) → Bool := whK (hd := hd12_0) (ys := ys12_0) V12_0
noncomputable def C12 : Cx := CxL Try.Θl kn12 (lOf [(0, orc 59 26 0 hd12_0 ys12_0 W12_0 Q12_0)])
theorem CxOK12 : CxOK Try.prog C12 := ⟨Try.tabOKl, knOK12, by kernel_rfl, POK.none⟩
theorem l12_0 : Lone Try.prog C12 0 (.loop (loopB 0 (bodyF Try.f12))) (orc 59 26 0 hd12_0 ys12_0 W12_0 Q12_0) :=
  Lone.of CxOK12 (Lall.LOK rfl (by kernel_rfl) (Lall.skip (by kernel_rfl) trivial)) (by kernel_rfl) (fun x => (r12_0  W12_0 Q12_0 x.1 x.2.1 x.2.2.1 x.2.2.2.1 x.2.2.2.2.1).trans (by first | (delta V12_0 R12_0; with_reducible rfl) | rfl))
theorem LOK12 : LOK Try.prog C12 0 (bodyF Try.f12) := (Lall.LOK rfl (by kernel_rfl) (Lall.cons (by kernel_rfl) l12_0 trivial))
noncomputable def E12 : (KD6 × KD6 × Unit) → Option Bool := fun x => S12  W12_0 Q12_0 x.1 x.2.1
noncomputable def F12 : (KD6 × KD6 × Unit) → Bool := fun x => (E12 x).getD (dflt .bool)
noncomputable def G12 : (KD6 × KD6 × Unit) → Bool := fun x => (E12 x).isSome
theorem p12 : ∀ x, G12 x = true → PureOK Try.prog 12 (mkA [KT27, KT27] x) ⟨.bool, F12 x⟩ :=
  PureOK.ofL (ts := [KT27, KT27]) (T := .bool) (S := E12) CxOK12 Try.func12 (LOK.fn LOK12) (fun x => t12  W12_0 Q12_0 x.1 x.2.1)
noncomputable def kn57 : Kn := kOf []
theorem knOK57 : KOK Try.prog kn57 := KOK.nil
noncomputable def C57 : Cx := CxL Try.Θ kn57 (lOf [])
theorem CxOK57 : CxOK Try.prog C57 := ⟨Try.tabOK, knOK57, by kernel_rfl, POK.none⟩
theorem LOK57 : LOK Try.prog C57 0 (bodyF Try.f57) := (Lall.LOK rfl (by kernel_rfl) trivial)
noncomputable def E57 : (Int × Int × Unit) → Option (Int × (Int × Unit)) := fun x => S57   x.1 x.2.1
noncomputable def F57 : (Int × Int × Unit) → (Int × (Int × Unit)) := fun x => (E57 x).getD (dflt KT13)
noncomputable def G57 : (Int × Int × Unit) → Bool := fun x => (E57 x).isSome
theorem p57 : ∀ x, G57 x = true → PureOK Try.prog 57 (mkA [(.int .u64), (.int .u64)] x) ⟨KT13, F57 x⟩ :=
  PureOK.ofS (ts := [(.int .u64), (.int .u64)]) (T := KT13) (S := E57) CxOK57 Try.func57 (LOK.fn LOK57) (fun x => t57   x.1 x.2.1)
noncomputable def kn50 : Kn := kOf [(57, sm [(.int .u64), (.int .u64)] KT13 F57 G57)]
theorem knOK50 : KOK Try.prog kn50 := (KOK.cons Try.call57 (SmOK.sm p57) KOK.nil)
noncomputable def C50 : Cx := CxL Try.Θ kn50 (lOf [])
theorem CxOK50 : CxOK Try.prog C50 := ⟨Try.tabOK, knOK50, by kernel_rfl, POK.none⟩
theorem LOK50 : LOK Try.prog C50 0 (bodyF Try.f50) := (Lall.LOK rfl (by kernel_rfl) trivial)
noncomputable def E50 : (Int × Unit) → Option (Int × (Int × Unit)) := fun x => S50 F57 G57  x.1
noncomputable def F50 : (Int × Unit) → (Int × (Int × Unit)) := fun x => (E50 x).getD (dflt KT13)
noncomputable def G50 : (Int × Unit) → Bool := fun x => (E50 x).isSome
theorem p50 : ∀ x, G50 x = true → PureOK Try.prog 50 (mkA [(.int .u64)] x) ⟨KT13, F50 x⟩ :=
  PureOK.ofS (ts := [(.int .u64)]) (T := KT13) (S := E50) CxOK50 Try.func50 (LOK.fn LOK50) (fun x => t50 F57 G57  x.1)
noncomputable def kn35 : Kn := kOf [(50, sm [(.int .u64)] KT13 F50 G50)]
theorem knOK35 : KOK Try.prog kn35 := (KOK.cons Try.call50 (SmOK.sm p50) KOK.nil)
noncomputable def C35 : Cx := CxL Try.Θ kn35 (lOf [])
theorem CxOK35 : CxOK Try.prog C35 := ⟨Try.tabOK, knOK35, by kernel_rfl, POK.none⟩
theorem LOK35 : LOK Try.prog C35 0 (bodyF Try.f35) := (Lall.LOK rfl (by kernel_rfl) trivial)
noncomputable def E35 : (Int × Unit) → Option KD0 := fun x => S35 F50 G50  x.1
noncomputable def F35 : (Int × Unit) → KD0 := fun x => (E35 x).getD (dflt (.pair KT13 KT13))
noncomputable def G35 : (Int × Unit) → Bool := fun x => (E35 x).isSome
theorem p35 : ∀ x, G35 x = true → PureOK Try.prog 35 (mkA [(.int .u64)] x) ⟨(.pair KT13 KT13), F35 x⟩ :=
  PureOK.ofS (ts := [(.int .u64)]) (T := (.pair KT13 KT13)) (S := E35) CxOK35 Try.func35 (LOK.fn LOK35) (fun x => t35 F50 G50  x.1)
noncomputable def kn26 : Kn := kOf []
theorem knOK26 : KOK Try.prog kn26 := KOK.nil
noncomputable def C26 : Cx := CxL Try.Θ kn26 (lOf [])
theorem CxOK26 : CxOK Try.prog C26 := ⟨Try.tabOK, knOK26, by kernel_rfl, POK.none⟩
theorem LOK26 : LOK Try.prog C26 0 (bodyF Try.f26) := (Lall.LOK rfl (by kernel_rfl) trivial)
noncomputable def E26 : (Int × Unit) → Option KD0 := fun x => S26   x.1
noncomputable def F26 : (Int × Unit) → KD0 := fun x => (E26 x).getD (dflt (.pair KT13 KT13))
noncomputable def G26 : (Int × Unit) → Bool := fun x => (E26 x).isSome
theorem p26 : ∀ x, G26 x = true → PureOK Try.prog 26 (mkA [(.int .u64)] x) ⟨(.pair KT13 KT13), F26 x⟩ :=
  PureOK.ofS (ts := [(.int .u64)]) (T := (.pair KT13 KT13)) (S := E26) CxOK26 Try.func26 (LOK.fn LOK26) (fun x => t26   x.1)
end Go.Proofs
