import Derived.Test.YtjnbpklllapjiaaB
import Derived.Test.YtjnbpklllapjiaaGe
namespace Go.Proofs
open Go.GX
set_option linter.unusedVariables false
set_option maxRecDepth 100000

noncomputable def kn59 : Kn := kOf []
theorem knOK59 : KOK Try.prog kn59 := KOK.nil
noncomputable def C59 : Cx := CxL Try.Θ kn59 (lOf [])
theorem CxOK59 : CxOK Try.prog C59 := ⟨Try.tabOK, knOK59, by kernel_rfl, POK.none⟩
theorem LOK59 : LOK Try.prog C59 0 (bodyF Try.f59) := (Lall.LOK rfl (by kernel_rfl) trivial)
noncomputable def E59 : ((Int × (Int × Unit)) × Unit) → Option Bool := fun x => S59   x.1
noncomputable def F59 : ((Int × (Int × Unit)) × Unit) → Bool := fun x => (E59 x).getD (dflt .bool)
noncomputable def G59 : ((Int × (Int × Unit)) × Unit) → Bool := fun x => (E59 x).isSome
theorem p59 : ∀ x, G59 x = true → PureOK Try.prog 59 (mkA [KT13] x) ⟨.bool, F59 x⟩ :=
  PureOK.ofS (ts := [KT13]) (T := .bool) (S := E59) CxOK59 Try.func59 (LOK.fn LOK59) (fun x => t59   x.1)
noncomputable def kn61 : Kn := kOf []
theorem knOK61 : KOK Try.prog kn61 := KOK.nil
noncomputable def V61_0 : (Int × Unit × Int × Int × (Int × (Int × Unit)) × Unit) → Option ((Int × Unit × Int × Int × (Int × (Int × Unit)) × Unit) ⊕ (Int × Unit × Int × (Int × (Int × Unit)) × Unit)) := fun x => R61_0  (fun _ => (0, (), 0, (0, (0, ())), ())) (fun _ => false) x.1 x.2.1 x.2.2.1 x.2.2.2.1 x.2.2.2.2.1
noncomputable def W61_0 : (Int × Unit × Int × Int × (Int × (Int × Unit)) × Unit) → (Int × Unit × Int × (Int × (Int × Unit)) × Unit) := whV (hd := hd61_0) (ys := ys61_0) V61_0
noncomputable def Q61_0 : (Int × Unit × Int × Int × (Int × (Int × Unit)) × Unit) → Bool := whK (hd := hd61_0) (ys := ys61_0) V61_0
noncomputable def C61 : Cx := CxL Try.Θ kn61 (lOf [(0, orc 22 25 0 hd61_0 ys61_0 W61_0 Q61_0)])
theorem CxOK61 : CxOK Try.prog C61 := ⟨Try.tabOK, knOK61, by kernel_rfl, POK.none⟩
theorem l61_0 : Lone Try.prog C61 0 (.loop (loopB 0 (bodyF Try.f61))) (orc 22 25 0 hd61_0 ys61_0 W61_0 Q61_0) :=
  Lone.of CxOK61 (Lall.LOK rfl (by kernel_rfl) (Lall.skip (by kernel_rfl) trivial)) (by kernel_rfl) (fun x => (r61_0  W61_0 Q61_0 x.1 x.2.1 x.2.2.1 x.2.2.2.1 x.2.2.2.2.1).trans (by first | (delta V61_0 R61_0; with_reducible rfl) | rfl))
theorem LOK61 : LOK Try.prog C61 0 (bodyF Try.f61) := (Lall.LOK rfl (by kernel_rfl) (Lall.cons (by kernel_rfl) l61_0 trivial))
noncomputable def E61 : (Int × Int × Unit) → Option (Int × (Int × Unit)) := fun x => S61  W61_0 Q61_0 x.1 x.2.1
noncomputable def F61 : (Int × Int × Unit) → (Int × (Int × Unit)) := fun x => (E61 x).getD (dflt KT13)
noncomputable def G61 : (Int × Int × Unit) → Bool := fun x => (E61 x).isSome
theorem p61 : ∀ x, G61 x = true → PureOK Try.prog 61 (mkA [(.int .u64), (.int .u64)] x) ⟨KT13, F61 x⟩ :=
  PureOK.ofS (ts := [(.int .u64), (.int .u64)]) (T := KT13) (S := E61) CxOK61 Try.func61 (LOK.fn LOK61) (fun x => t61  W61_0 Q61_0 x.1 x.2.1)
noncomputable def kn60 : Kn := kOf []
theorem knOK60 : KOK Try.prog kn60 := KOK.nil
noncomputable def C60 : Cx := CxL Try.Θ kn60 (lOf [])
theorem CxOK60 : CxOK Try.prog C60 := ⟨Try.tabOK, knOK60, by kernel_rfl, POK.none⟩
theorem LOK60 : LOK Try.prog C60 0 (bodyF Try.f60) := (Lall.LOK rfl (by kernel_rfl) trivial)
noncomputable def E60 : ((Int × (Int × Unit)) × (Int × (Int × Unit)) × Unit) → Option KD21 := fun x => S60   x.1 x.2.1
noncomputable def F60 : ((Int × (Int × Unit)) × (Int × (Int × Unit)) × Unit) → KD21 := fun x => (E60 x).getD (dflt KT22)
noncomputable def G60 : ((Int × (Int × Unit)) × (Int × (Int × Unit)) × Unit) → Bool := fun x => (E60 x).isSome
theorem p60 : ∀ x, G60 x = true → PureOK Try.prog 60 (mkA [KT13, KT13] x) ⟨KT22, F60 x⟩ :=
  PureOK.ofS (ts := [KT13, KT13]) (T := KT22) (S := E60) CxOK60 Try.func60 (LOK.fn LOK60) (fun x => t60   x.1 x.2.1)
noncomputable def kn54 : Kn := kOf [(59, sm [KT13] .bool F59 G59), (60, sm [KT13, KT13] KT22 F60 G60), (61, sm [(.int .u64), (.int .u64)] KT13 F61 G61)]
theorem knOK54 : KOK Try.prog kn54 := (KOK.cons Try.call59 (SmOK.sm p59) (KOK.cons Try.call60 (SmOK.sm p60) (KOK.cons Try.call61 (SmOK.sm p61) KOK.nil)))
noncomputable def V54_0 : (Unit × Unit × Int × KD0 × KD0 × Unit) → Option ((Unit × Unit × Int × KD0 × KD0 × Unit) ⊕ ((Unit × Unit × KD0 × KD0 × Unit) ⊕ (Unit × Bool × KD0 × Unit))) := fun x => R54_0 F59 G59 F60 G60 F61 G61 (fun _ => (Sum.inl ((), (), ((0, (0, ())), (0, (0, ()))), ((0, (0, ())), (0, (0, ()))), ()))) (fun _ => false) x.1 x.2.1 x.2.2.1 x.2.2.2.1 x.2.2.2.2.1
noncomputable def W54_0 : (Unit × Unit × Int × KD0 × KD0 × Unit) → ((Unit × Unit × KD0 × KD0 × Unit) ⊕ (Unit × Bool × KD0 × Unit)) := whV (hd := hd54_0) (ys := ys54_0) V54_0
noncomputable def Q54_0 : (Unit × Unit × Int × KD0 × KD0 × Unit) → Bool := whK (hd := hd54_0) (ys := ys54_0) V54_0
noncomputable def C54 : Cx := CxL Try.Θ kn54 (lOf [(0, orc 57 26 0 hd54_0 ys54_0 W54_0 Q54_0)])
theorem CxOK54 : CxOK Try.prog C54 := ⟨Try.tabOK, knOK54, by kernel_rfl, POK.none⟩
theorem l54_0 : Lone Try.prog C54 0 (.loop (loopB 0 (bodyF Try.f54))) (orc 57 26 0 hd54_0 ys54_0 W54_0 Q54_0) :=
  Lone.of CxOK54 (Lall.LOK rfl (by kernel_rfl) (Lall.skip (by kernel_rfl) trivial)) (by kernel_rfl) (fun x => (r54_0 F59 G59 F60 G60 F61 G61 W54_0 Q54_0 x.1 x.2.1 x.2.2.1 x.2.2.2.1 x.2.2.2.2.1).trans (by first | (delta V54_0 R54_0; with_reducible rfl) | rfl))
theorem LOK54 : LOK Try.prog C54 0 (bodyF Try.f54) := (Lall.LOK rfl (by kernel_rfl) (Lall.cons (by kernel_rfl) l54_0 trivial))
noncomputable def E54 : (KD0 × Unit) → Option (KD0 × (Bool × Unit)) := fun x => S54 F59 G59 F60 G60 F61 G61 W54_0 Q54_0 x.1
noncomputable def F54 : (KD0 × Unit) → (KD0 × (Bool × Unit)) := fun x => (E54 x).getD (dflt KT23)
noncomputable def G54 : (KD0 × Unit) → Bool := fun x => (E54 x).isSome
theorem p54 : ∀ x, G54 x = true → PureOK Try.prog 54 (mkA [(.pair KT13 KT13)] x) ⟨KT23, F54 x⟩ :=
  PureOK.ofS (ts := [(.pair KT13 KT13)]) (T := KT23) (S := E54) CxOK54 Try.func54 (LOK.fn LOK54) (fun x => t54 F59 G59 F60 G60 F61 G61 W54_0 Q54_0 x.1)
noncomputable def kn45 : Kn := kOf [(54, sm [(.pair KT13 KT13)] KT23 F54 G54)]
theorem knOK45 : KOK Try.prog kn45 := (KOK.cons Try.call54 (SmOK.sm p54) KOK.nil)
noncomputable def C45 : Cx := CxL Try.Θ kn45 (lOf [])
theorem CxOK45 : CxOK Try.prog C45 := ⟨Try.tabOK, knOK45, by kernel_rfl, POK.none⟩
theorem LOK45 : LOK Try.prog C45 0 (bodyF Try.f45) := (Lall.LOK rfl (by kernel_rfl) trivial)
noncomputable def E45 : (KD0 × Unit) → Option Bool := fun x => S45 F54 G54  x.1
noncomputable def F45 : (KD0 × Unit) → Bool := fun x => (E45 x).getD (dflt .bool)
noncomputable def G45 : (KD0 × Unit) → Bool := fun x => (E45 x).isSome
theorem p45 : ∀ x, G45 x = true → PureOK Try.prog 45 (mkA [(.pair KT13 KT13)] x) ⟨.bool, F45 x⟩ :=
  PureOK.ofS (ts := [(.pair KT13 KT13)]) (T := .bool) (S := E45) CxOK45 Try.func45 (LOK.fn LOK45) (fun x => t45 F54 G54  x.1)
noncomputable def kn24 : Kn := kOf [(45, sm [(.pair KT13 KT13)] .bool F45 G45)]
theorem knOK24 : KOK Try.prog kn24 := (KOK.cons Try.call45 (SmOK.sm p45) KOK.nil)
noncomputable def C24 : Cx := CxL Try.Θ kn24 (lOf [])
theorem CxOK24 : CxOK Try.prog C24 := ⟨Try.tabOK, knOK24, by kernel_rfl, POK.none⟩
theorem LOK24 : LOK Try.prog C24 0 (bodyF Try.f24) := (Lall.LOK rfl (by kernel_rfl) trivial)
noncomputable def E24 : ((Int × (KD0 × KD1)) × Unit) → Option Bool := fun x => S24 F45 G45  x.1
noncomputable def F24 : ((Int × (KD0 × KD1)) × Unit) → Bool := fun x => (E24 x).getD (dflt .bool)
noncomputable def G24 : ((Int × (KD0 × KD1)) × Unit) → Bool := fun x => (E24 x).isSome
theorem p24 : ∀ x, G24 x = true → PureOK Try.prog 24 (mkA [KT18] x) ⟨.bool, F24 x⟩ :=
  PureOK.ofS (ts := [KT18]) (T := .bool) (S := E24) CxOK24 Try.func24 (LOK.fn LOK24) (fun x => t24 F45 G45  x.1)
noncomputable def kn7 : Kn := kOf [(24, sm [KT18] .bool F24 G24)]
theorem knOK7 : KOK Try.prog kn7 := (KOK.cons Try.call24 (SmOK.sm p24) KOK.nil)
noncomputable def V7_0 : (Unit × Int × KD6 × Unit) → Option ((Unit × Int × KD6 × Unit) ⊕ ((Unit × KD6 × Unit) ⊕ (Bool × Unit))) := fun x => R7_0 F24 G24 (fun _ => (Sum.inl ((), ([], ([], (0, ([], (0, ()))))), ()))) (fun _ => false) (fun _ => (Sum.inl ((), ([], ([], (0, ([], (0, ()))))), ()))) (fun _ => false) (fun _ => (Sum.inl ((), 0, ([], ([], (0, ([], (0, ()))))), ()))) (fun _ => false) (fun _ => (Sum.inl ((), ([], ([], (0, ([], (0, ()))))), ()))) (fun _ => false) x.1 x.2.1 x.2.2.1
noncomputable def W7_0 : (Unit × Int × KD6 × Unit) → ((Unit × KD6 × Unit) ⊕ (Bool × Unit)) := whV (hd := hd7_0) (ys := ys7_0) V7_0
noncomputable def Q7_0 : (Unit × Int × KD6 × Unit) → Bool := whK (hd := hd7_0) (ys := ys7_0) V7_0
noncomputable def V7_2 : (Unit × Int × KD6 × Unit) → Option ((Unit × Int × KD6 × Unit) ⊕ ((Unit × KD6 × Unit) ⊕ (Bool × Unit))) := fun x => R7_2 F24 G24 W7_0 Q7_0 (fun _ => (Sum.inl ((), ([], ([], (0, ([], (0, ()))))), ()))) (fun _ => false) (fun _ => (Sum.inl ((), 0, ([], ([], (0, ([], (0, ()))))), ()))) (fun _ => false) (fun _ => (Sum.inl ((), ([], ([], (0, ([], (0, ()))))), ()))) (fun _ => false) x.1 x.2.1 x.2.2.1
noncomputable def W7_2 : (Unit × Int × KD6 × Unit) → ((Unit × KD6 × Unit) ⊕ (Bool × Unit)) := whV (hd := hd7_2) (ys := ys7_2) V7_2
noncomputable def Q7_2 : (Unit × Int × KD6 × Unit) → Bool := whK (hd := hd7_2) (ys := ys7_2) V7_2
noncomputable def V7_6 : (Unit × Int × Int × KD6 × Unit) → Option ((Unit × Int × Int × KD6 × Unit) ⊕ ((Unit × Int × KD6 × Unit) ⊕ (Bool × Unit))) := fun x => R7_6 F24 G24 W7_0 Q7_0 W7_2 Q7_2 (fun _ => (Sum.inl ((), 0, ([], ([], (0, ([], (0, ()))))), ()))) (fun _ => false) (fun _ => (Sum.inl ((), ([], ([], (0, ([], (0, ()))))), ()))) (fun _ => false) x.1 x.2.1 x.2.2.1 x.2.2.2.1
noncomputable def W7_6 : (Unit × Int × Int × KD6 × Unit) → ((Unit × Int × KD6 × Unit) ⊕ (Bool × Unit)) := whV (hd := hd7_6) (ys := ys7_6) V7_6
noncomputable def Q7_6 : (Unit × Int × Int × KD6 × Unit) → Bool := whK (hd := hd7_6) (ys := ys7_6) V7_6
noncomputable def V7_4 : (Unit × Int × KD6 × Unit) → Option ((Unit × Int × KD6 × Unit) ⊕ ((Unit × KD6 × Unit) ⊕ (Bool × Unit))) := fun x => R7_4 F24 G24 W7_0 Q7_0 W7_2 Q7_2 W7_6 Q7_6 (fun _ => (Sum.inl ((), ([], ([], (0, ([], (0, ()))))), ()))) (fun _ => false) x.1 x.2.1 x.2.2.1
noncomputable def W7_4 : (Unit × Int × KD6 × Unit) → ((Unit × KD6 × Unit) ⊕ (Bool × Unit)) := whV (hd := hd7_4) (ys := ys7_4) V7_4
noncomputable def Q7_4 : (Unit × Int × KD6 × Unit) → Bool := whK (hd := hd7_4) (ys := ys7_4) V7_4
noncomputable def C7 : Cx := CxL Try.Θl kn7 (lOf [(0, orc 142 25 0 hd7_0 ys7_0 W7_0 Q7_0), (2, orc 142 49 2 hd7_2 ys7_2 W7_2 Q7_2), (6, orc 142 97 6 hd7_6 ys7_6 W7_6 Q7_6), (4, orc 142 73 4 hd7_4 ys7_4 W7_4 Q7_4)])
theorem CxOK7 : CxOK Try.prog C7 := ⟨Try.tabOKl, knOK7, by kernel_rfl, POK.none⟩
theorem l7_0 : Lone Try.prog C7 0 (.loop (loopB 0 (bodyF Try.f7))) (orc 142 25 0 hd7_0 ys7_0 W7_0 Q7_0) :=
  Lone.of CxOK7 (Lall.LOK rfl (by kernel_rfl) (Lall.skip (by kernel_rfl) (Lall.skip (by kernel_rfl) (Lall.skip (by kernel_rfl) (Lall.skip (by kernel_rfl) trivial))))) (by kernel_rfl) (fun x => (r7_0 F24 G24 W7_0 Q7_0 W7_2 Q7_2 W7_6 Q7_6 W7_4 Q7_4 x.1 x.2.1 x.2.2.1).trans (by first | (delta V7_0 R7_0; with_reducible rfl) | rfl))
theorem l7_2 : Lone Try.prog C7 2 (.loop (loopB 2 (bodyF Try.f7))) (orc 142 49 2 hd7_2 ys7_2 W7_2 Q7_2) :=
  Lone.of CxOK7 (Lall.LOK rfl (by kernel_rfl) (Lall.skip (by kernel_rfl) (Lall.skip (by kernel_rfl) (Lall.skip (by kernel_rfl) (Lall.skip (by kernel_rfl) trivial))))) (by kernel_rfl) (fun x => (r7_2 F24 G24 W7_0 Q7_0 W7_2 Q7_2 W7_6 Q7_6 W7_4 Q7_4 x.1 x.2.1 x.2.2.1).trans (by first | (delta V7_2 R7_2; with_reducible rfl) | rfl))
theorem l7_6 : Lone Try.prog C7 6 (.loop (loopB 6 (bodyF Try.f7))) (orc 142 97 6 hd7_6 ys7_6 W7_6 Q7_6) :=
  Lone.of CxOK7 (Lall.LOK rfl (by kernel_rfl) (Lall.skip (by kernel_rfl) (Lall.skip (by kernel_rfl) (Lall.skip (by kernel_rfl) (Lall.skip (by kernel_rfl) trivial))))) (by kernel_rfl) (fun x => (r7_6 F24 G24 W7_0 Q7_0 W7_2 Q7_2 W7_6 Q7_6 W7_4 Q7_4 x.1 x.2.1 x.2.2.1 x.2.2.2.1).trans (by first | (delta V7_6 R7_6; with_reducible rfl) | rfl))
theorem l7_4 : Lone Try.prog C7 4 (.loop (loopB 4 (bodyF Try.f7))) (orc 142 73 4 hd7_4 ys7_4 W7_4 Q7_4) :=
  Lone.of CxOK7 (Lall.LOK rfl (by kernel_rfl) (Lall.skip (by kernel_rfl) (Lall.skip (by kernel_rfl) (Lall.cons (by kernel_rfl) l7_6 (Lall.skip (by kernel_rfl) trivial))))) (by kernel_rfl) (fun x => (r7_4 F24 G24 W7_0 Q7_0 W7_2 Q7_2 W7_6 Q7_6 W7_4 Q7_4 x.1 x.2.1 x.2.2.1).trans (by first | (delta V7_4 R7_4; with_reducible rfl) | rfl))
theorem LOK7 : LOK Try.prog C7 0 (bodyF Try.f7) := (Lall.LOK rfl (by kernel_rfl) (Lall.cons (by kernel_rfl) l7_0 (Lall.cons (by kernel_rfl) l7_2 (Lall.cons (by kernel_rfl) l7_6 (Lall.cons (by kernel_rfl) l7_4 trivial)))))
noncomputable def E7 : (KD6 × Unit) → Option Bool := fun x => S7 F24 G24 W7_0 Q7_0 W7_2 Q7_2 W7_6 Q7_6 W7_4 Q7_4 x.1
noncomputable def F7 : (KD6 × Unit) → Bool := fun x => (E7 x).getD (dflt .bool)
noncomputable def G7 : (KD6 × Unit) → Bool := fun x => (E7 x).isSome
theorem p7 : ∀ x, G7 x = true → PureOK Try.prog 7 (mkA [KT27] x) ⟨.bool, F7 x⟩ :=
  PureOK.ofL (ts := [KT27]) (T := .bool) (S := E7) CxOK7 Try.func7 (LOK.fn LOK7) (fun x => t7 F24 G24 W7_0 Q7_0 W7_2 Q7_2 W7_6 Q7_6 W7_4 Q7_4 x.1)
noncomputable def kn62 : Kn := kOf []
theorem knOK62 : KOK Try.prog kn62 := KOK.nil
noncomputable def C62 : Cx := CxL Try.Θ kn62 (lOf [])
theorem CxOK62 : CxOK Try.prog C62 := ⟨Try.tabOK, knOK62, by kernel_rfl, POK.none⟩
theorem LOK62 : LOK Try.prog C62 0 (bodyF Try.f62) := (Lall.LOK rfl (by kernel_rfl) trivial)
noncomputable def E62 : ((Int × (Int × Unit)) × Int × Unit) → Option Bool := fun x => S62   x.1 x.2.1
noncomputable def F62 : ((Int × (Int × Unit)) × Int × Unit) → Bool := fun x => (E62 x).getD (dflt .bool)
noncomputable def G62 : ((Int × (Int × Unit)) × Int × Unit) → Bool := fun x => (E62 x).isSome
theorem p62 : ∀ x, G62 x = true → PureOK Try.prog 62 (mkA [KT13, (.int .u64)] x) ⟨.bool, F62 x⟩ :=
  PureOK.ofS (ts := [KT13, (.int .u64)]) (T := .bool) (S := E62) CxOK62 Try.func62 (LOK.fn LOK62) (fun x => t62   x.1 x.2.1)
noncomputable def kn55 : Kn := kOf [(62, sm [KT13, (.int .u64)] .bool F62 G62)]
theorem knOK55 : KOK Try.prog kn55 := (KOK.cons Try.call62 (SmOK.sm p62) KOK.nil)
noncomputable def C55 : Cx := CxL Try.Θ kn55 (lOf [])
theorem CxOK55 : CxOK Try.prog C55 := ⟨Try.tabOK, knOK55, by kernel_rfl, POK.none⟩
theorem LOK55 : LOK Try.prog C55 0 (bodyF Try.f55) := (Lall.LOK rfl (by kernel_rfl) trivial)
noncomputable def E55 : ((Int × (Int × Unit)) × (Int × (Int × Unit)) × Unit) → Option Bool := fun x => S55 F62 G62  x.1 x.2.1
noncomputable def F55 : ((Int × (Int × Unit)) × (Int × (Int × Unit)) × Unit) → Bool := fun x => (E55 x).getD (dflt .bool)
noncomputable def G55 : ((Int × (Int × Unit)) × (Int × (Int × Unit)) × Unit) → Bool := fun x => (E55 x).isSome
theorem p55 : ∀ x, G55 x = true → PureOK Try.prog 55 (mkA [KT13, KT13] x) ⟨.bool, F55 x⟩ :=
  PureOK.ofS (ts := [KT13, KT13]) (T := .bool) (S := E55) CxOK55 Try.func55 (LOK.fn LOK55) (fun x => t55 F62 G62  x.1 x.2.1)
noncomputable def kn48 : Kn := kOf [(55, sm [KT13, KT13] .bool F55 G55)]
theorem knOK48 : KOK Try.prog kn48 := (KOK.cons Try.call55 (SmOK.sm p55) KOK.nil)
noncomputable def C48 : Cx := CxL Try.Θ kn48 (lOf [])
theorem CxOK48 : CxOK Try.prog C48 := ⟨Try.tabOK, knOK48, by kernel_rfl, POK.none⟩
theorem LOK48 : LOK Try.prog C48 0 (bodyF Try.f48) := (Lall.LOK rfl (by kernel_rfl) trivial)
noncomputable def E48 : (KD0 × KD0 × Unit) → Option Bool := fun x => S48 F55 G55  x.1 x.2.1
noncomputable def F48 : (KD0 × KD0 × Unit) → Bool := fun x => (E48 x).getD (dflt .bool)
noncomputable def G48 : (KD0 × KD0 × Unit) → Bool := fun x => (E48 x).isSome
theorem p48 : ∀ x, G48 x = true → PureOK Try.prog 48 (mkA [(.pair KT13 KT13), (.pair KT13 KT13)] x) ⟨.bool, F48 x⟩ :=
  PureOK.ofS (ts := [(.pair KT13 KT13), (.pair KT13 KT13)]) (T := .bool) (S := E48) CxOK48 Try.func48 (LOK.fn LOK48) (fun x => t48 F55 G55  x.1 x.2.1)
noncomputable def kn30 : Kn := kOf []
theorem knOK30 : KOK Try.prog kn30 := KOK.nil
noncomputable def C30 : Cx := CxL Try.Θ kn30 (lOf [])
theorem CxOK30 : CxOK Try.prog C30 := ⟨Try.tabOK, knOK30, by kernel_rfl, POK.none⟩
theorem LOK30 : LOK Try.prog C30 1 (bodyF Try.f30) := LOK.void (fun _ => rfl)
noncomputable def E30 : KD28 → (Int × Int × Unit) → Option (Bool × KD28) := fun x z => S30   x z.1 z.2.1
noncomputable def F30 : KD28 → (Int × Int × Unit) → Bool := fun x z => ((E30 x z).getD (dflt .bool, OD0.dflt)).1
noncomputable def H30 : KD28 → (Int × Int × Unit) → KD28 := fun x z => ((E30 x z).getD (dflt .bool, OD0.dflt)).2
noncomputable def G30 : KD28 → (Int × Int × Unit) → Bool := fun x z => (E30 x z).isSome
theorem o30 : ∀ x z, G30 x z = true → ObjOK Try.prog 30 OD0 [0] 3 (mkA [(.int .i64), (.int .i64)] z) x ⟨.bool, F30 x z⟩ (H30 x z) :=
  ObjOK.ofS (D := OD0) (rp := [0]) (n1 := 3) (ts := [(.int .i64), (.int .i64)]) (T := .bool) (S := E30) CxOK30 Try.func30 (LOK.fn LOK30) (by kernel_rfl) (fun x z => t30   x z.1 z.2.1)
theorem sm30_ok : SmOK Try.prog 30 (smO OD0 [0] 3 [(.int .i64), (.int .i64)] .bool F30 H30 G30) := SmOK.smO (D := OD0) (rp := [0]) (n1 := 3) (ts := [(.int .i64), (.int .i64)]) (T := .bool) (v := F30) (d := H30) (k := G30) (by kernel_rfl) (by kernel_rfl) (by kernel_rfl) (by decide) (by decide) (by kernel_rfl) o30
noncomputable def kn27 : Kn := kOf [(30, smO OD0 [0] 3 [(.int .i64), (.int .i64)] .bool F30 H30 G30), (48, sm [(.pair KT13 KT13), (.pair KT13 KT13)] .bool F48 G48)]
theorem knOK27 : KOK Try.prog kn27 := (KOK.cons Try.call30 sm30_ok (KOK.cons Try.call48 (SmOK.sm p48) KOK.nil))
noncomputable def C27 : Cx := CxL Try.Θ kn27 (lOf [])
theorem CxOK27 : CxOK Try.prog C27 := ⟨Try.tabOK, knOK27, by kernel_rfl, POK.none⟩
theorem LOK27 : LOK Try.prog C27 1 (bodyF Try.f27) := LOK.void (fun _ => rfl)
noncomputable def E27 : KD28 → ((Int × (KD0 × KD1)) × (Int × (KD0 × KD1)) × Unit) → Option (Bool × KD28) := fun x z => S27 F30 H30 G30 F48 G48  x z.1 z.2.1
noncomputable def F27 : KD28 → ((Int × (KD0 × KD1)) × (Int × (KD0 × KD1)) × Unit) → Bool := fun x z => ((E27 x z).getD (dflt .bool, OD0.dflt)).1
noncomputable def H27 : KD28 → ((Int × (KD0 × KD1)) × (Int × (KD0 × KD1)) × Unit) → KD28 := fun x z => ((E27 x z).getD (dflt .bool, OD0.dflt)).2
noncomputable def G27 : KD28 → ((Int × (KD0 × KD1)) × (Int × (KD0 × KD1)) × Unit) → Bool := fun x z => (E27 x z).isSome
theorem o27 : ∀ x z, G27 x z = true → ObjOK Try.prog 27 OD0 [0] 3 (mkA [KT18, KT18] z) x ⟨.bool, F27 x z⟩ (H27 x z) :=
  ObjOK.ofS (D := OD0) (rp := [0]) (n1 := 3) (ts := [KT18, KT18]) (T := .bool) (S := E27) CxOK27 Try.func27 (LOK.fn LOK27) (by kernel_rfl) (fun x z => t27 F30 H30 G30 F48 G48  x z.1 z.2.1)
theorem sm27_ok : SmOK Try.prog 27 (smO OD0 [0] 3 [KT18, KT18] .bool F27 H27 G27) := SmOK.smO (D := OD0) (rp := [0]) (n1 := 3) (ts := [KT18, KT18]) (T := .bool) (v := F27) (d := H27) (k := G27) (by kernel_rfl) (by kernel_rfl) (by kernel_rfl) (by decide) (by decide) (by kernel_rfl) o27
noncomputable def kn28 : Kn := kOf [(27, smO OD0 [0] 3 [KT18, KT18] .bool F27 H27 G27)]
theorem knOK28 : KOK Try.prog kn28 := (KOK.cons Try.call27 sm27_ok KOK.nil)
noncomputable def C28 : Cx := CxL Try.Θ kn28 (lOf [])
theorem CxOK28 : CxOK Try.prog C28 := ⟨Try.tabOK, knOK28, by kernel_rfl, POK.none⟩
theorem LOK28 : LOK Try.prog C28 1 (bodyF Try.f28) := LOK.void (fun _ => rfl)
noncomputable def E28 : KD28 → ((Int × (Int × KD3)) × (Int × (Int × KD3)) × Unit) → Option (Bool × KD28) := fun x z => S28 F27 H27 G27  x z.1 z.2.1
noncomputable def F28 : KD28 → ((Int × (Int × KD3)) × (Int × (Int × KD3)) × Unit) → Bool := fun x z => ((E28 x z).getD (dflt .bool, OD0.dflt)).1
noncomputable def H28 : KD28 → ((Int × (Int × KD3)) × (Int × (Int × KD3)) × Unit) → KD28 := fun x z => ((E28 x z).getD (dflt .bool, OD0.dflt)).2
noncomputable def G28 : KD28 → ((Int × (Int × KD3)) × (Int × (Int × KD3)) × Unit) → Bool := fun x z => (E28 x z).isSome
theorem o28 : ∀ x z, G28 x z = true → ObjOK Try.prog 28 OD0 [0] 3 (mkA [KT20, KT20] z) x ⟨.bool, F28 x z⟩ (H28 x z) :=
  ObjOK.ofS (D := OD0) (rp := [0]) (n1 := 3) (ts := [KT20, KT20]) (T := .bool) (S := E28) CxOK28 Try.func28 (LOK.fn LOK28) (by kernel_rfl) (fun x z => t28 F27 H27 G27  x z.1 z.2.1)
theorem sm28_ok : SmOK Try.prog 28 (smO OD0 [0] 3 [KT20, KT20] .bool F28 H28 G28) := SmOK.smO (D := OD0) (rp := [0]) (n1 := 3) (ts := [KT20, KT20]) (T := .bool) (v := F28) (d := H28) (k := G28) (by kernel_rfl) (by kernel_rfl) (by kernel_rfl) (by decide) (by decide) (by kernel_rfl) o28
noncomputable def kn29 : Kn := kOf [(30, smO OD0 [0] 3 [(.int .i64), (.int .i64)] .bool F30 H30 G30)]
theorem knOK29 : KOK Try.prog kn29 := (KOK.cons Try.call30 sm30_ok KOK.nil)
noncomputable def V29_0 : ((List Int) × Unit × (List Int) × Int × Int × KD7 × Unit) → Option (((List Int) × Unit × (List Int) × Int × Int × KD7 × Unit) ⊕ ((KD7 × Unit) ⊕ (Bool × KD7 × Unit))) := fun x => R29_0 F30 H30 G30 (fun _ => (Sum.inl (([], ([], ())), ()))) (fun _ => false) x.1 x.2.1 x.2.2.1 x.2.2.2.1 x.2.2.2.2.1 x.2.2.2.2.2.1
noncomputable def W29_0 : ((List Int) × Unit × (List Int) × Int × Int × KD7 × Unit) → ((KD7 × Unit) ⊕ (Bool × KD7 × Unit)) := whV (hd := hd29_0) (ys := ys29_0) V29_0
noncomputable def Q29_0 : ((List Int) × Unit × (List Int) × Int × Int × KD7 × Unit) → Bool := whK (hd := hd29_0) (ys := ys29_0) V29_0
noncomputable def C29 : Cx := CxL Try.Θl kn29 (lOf [(0, orc 32 27 0 hd29_0 ys29_0 W29_0 Q29_0)])
theorem CxOK29 : CxOK Try.prog C29 := ⟨Try.tabOKl, knOK29, by kernel_rfl, POK.none⟩
theorem l29_0 : Lone Try.prog C29 0 (.loop (loopB 0 (bodyF Try.f29))) (orc 32 27 0 hd29_0 ys29_0 W29_0 Q29_0) 1 :=
  Lone.of CxOK29 (Lall.LOK rfl (by kernel_rfl) (Lall.skip (by kernel_rfl) trivial)) (by kernel_rfl) (fun x => (r29_0 F30 H30 G30 W29_0 Q29_0 x.1 x.2.1 x.2.2.1 x.2.2.2.1 x.2.2.2.2.1 x.2.2.2.2.2.1).trans (by first | (delta V29_0 R29_0; with_reducible rfl) | rfl))
theorem LOK29 : LOK Try.prog C29 1 (bodyF Try.f29) := (Lall.LOK rfl (by kernel_rfl) (Lall.cons (by kernel_rfl) l29_0 trivial))
noncomputable def E29 : KD28 → ((List Int) × (List Int) × Unit) → Option (Bool × KD28) := fun x z => S29 F30 H30 G30 W29_0 Q29_0 x z.1 z.2.1
noncomputable def F29 : KD28 → ((List Int) × (List Int) × Unit) → Bool := fun x z => ((E29 x z).getD (dflt .bool, OD0.dflt)).1
noncomputable def H29 : KD28 → ((List Int) × (List Int) × Unit) → KD28 := fun x z => ((E29 x z).getD (dflt .bool, OD0.dflt)).2
noncomputable def G29 : KD28 → ((List Int) × (List Int) × Unit) → Bool := fun x z => (E29 x z).isSome
theorem o29 : ∀ x z, G29 x z = true → ObjOK Try.prog 29 OD0 [0] 3 (mkA [(.vsl (.int .i64)), (.vsl (.int .i64))] z) x ⟨.bool, F29 x z⟩ (H29 x z) (.fa 30) :=
  ObjOK.ofS (D := OD0) (rp := [0]) (n1 := 3) (ts := [(.vsl (.int .i64)), (.vsl (.int .i64))]) (T := .bool) (S := E29) CxOK29 Try.func29 (LOK.fn LOK29) (by kernel_rfl) (fun x z => t29 F30 H30 G30 W29_0 Q29_0 x z.1 z.2.1)
theorem sm29_ok : SmOK Try.prog 29 (smO OD0 [0] 3 [(.vsl (.int .i64)), (.vsl (.int .i64))] .bool F29 H29 G29 (.fa 30)) := SmOK.smO (D := OD0) (rp := [0]) (n1 := 3) (ts := [(.vsl (.int .i64)), (.vsl (.int .i64))]) (T := .bool) (v := F29) (d := H29) (k := G29) (by kernel_rfl) (by kernel_rfl) (by kernel_rfl) (by decide) (by decide) (by kernel_rfl) o29
noncomputable def kn9 : Kn := kOf [(27, smO OD0 [0] 3 [KT18, KT18] .bool F27 H27 G27), (28, smO OD0 [0] 3 [KT20, KT20] .bool F28 H28 G28), (29, smO OD0 [0] 3 [(.vsl (.int .i64)), (.vsl (.int .i64))] .bool F29 H29 G29 (.fa 30))]
theorem knOK9 : KOK Try.prog kn9 := (KOK.cons Try.call27 sm27_ok (KOK.cons Try.call28 sm28_ok (KOK.cons Try.call29 sm29_ok KOK.nil)))
noncomputable def V9_0 : (Unit × Unit × Unit × Int × KD6 × KD6 × KD8 × Unit) → Option ((Unit × Unit × Unit × Int × KD6 × KD6 × KD8 × Unit) ⊕ ((Unit × Unit × Unit × KD6 × KD6 × KD8 × Unit) ⊕ (Bool × Unit))) := fun x => R9_0 F27 H27 G27 F28 H28 G28 F29 H29 G29 (fun _ => (Sum.inl ((), (), (), ([], ([], (0, ([], (0, ()))))), ([], ([], (0, ([], (0, ()))))), ([], ([], ())), ()))) (fun _ => false) (fun _ => (Sum.inl ((), (), (), ([], ([], (0, ([], (0, ()))))), ([], ([], (0, ([], (0, ()))))), ([], ([], ())), ()))) (fun _ => false) (fun _ => (false, ())) (fun _ => false) (fun _ => (false, ())) (fun _ => false) x.1 x.2.1 x.2.2.1 x.2.2.2.1 x.2.2.2.2.1 x.2.2.2.2.2.1 x.2.2.2.2.2.2.1
noncomputable def W9_0 : (Unit × Unit × Unit × Int × KD6 × KD6 × KD8 × Unit) → ((Unit × Unit × Unit × KD6 × KD6 × KD8 × Unit) ⊕ (Bool × Unit)) := whV (hd := hd9_0) (ys := ys9_0) V9_0
noncomputable def Q9_0 : (Unit × Unit × Unit × Int × KD6 × KD6 × KD8 × Unit) → Bool := whK (hd := hd9_0) (ys := ys9_0) V9_0
noncomputable def V9_2 : (Unit × Unit × Unit × Int × KD6 × KD6 × KD9 × Unit) → Option ((Unit × Unit × Unit × Int × KD6 × KD6 × KD9 × Unit) ⊕ ((Unit × Unit × Unit × KD6 × KD6 × KD9 × Unit) ⊕ (Bool × Unit))) := fun x => R9_2 F27 H27 G27 F28 H28 G28 F29 H29 G29 W9_0 Q9_0 (fun _ => (Sum.inl ((), (), (), ([], ([], (0, ([], (0, ()))))), ([], ([], (0, ([], (0, ()))))), ([], ([], ())), ()))) (fun _ => false) (fun _ => (false, ())) (fun _ => false) (fun _ => (false, ())) (fun _ => false) x.1 x.2.1 x.2.2.1 x.2.2.2.1 x.2.2.2.2.1 x.2.2.2.2.2.1 x.2.2.2.2.2.2.1
noncomputable def W9_2 : (Unit × Unit × Unit × Int × KD6 × KD6 × KD9 × Unit) → ((Unit × Unit × Unit × KD6 × KD6 × KD9 × Unit) ⊕ (Bool × Unit)) := whV (hd := hd9_2) (ys := ys9_2) V9_2
noncomputable def Q9_2 : (Unit × Unit × Unit × Int × KD6 × KD6 × KD9 × Unit) → Bool := whK (hd := hd9_2) (ys := ys9_2) V9_2
noncomputable def V9_1000015 : (Unit × Unit × Unit × KD6 × KD6 × KD29 × Unit) → Option (Bool × Unit) := fun x => R9_1000015 F27 H27 G27 F28 H28 G28 F29 H29 G29 W9_0 Q9_0 W9_2 Q9_2 (fun _ => (false, ())) (fun _ => false) (fun _ => (false, ())) (fun _ => false) x.1 x.2.1 x.2.2.1 x.2.2.2.1 x.2.2.2.2.1 x.2.2.2.2.2.1
noncomputable def W9_1000015 : (Unit × Unit × Unit × KD6 × KD6 × KD29 × Unit) → (Bool × Unit) := jnV (hd := hd9_1000015) (ys := ys9_1000015) V9_1000015
noncomputable def Q9_1000015 : (Unit × Unit × Unit × KD6 × KD6 × KD29 × Unit) → Bool := jnK (hd := hd9_1000015) (ys := ys9_1000015) V9_1000015
noncomputable def V9_1000009 : (Unit × Unit × Unit × KD6 × KD6 × KD30 × Unit) → Option (Bool × Unit) := fun x => R9_1000009 F27 H27 G27 F28 H28 G28 F29 H29 G29 W9_0 Q9_0 W9_2 Q9_2 W9_1000015 Q9_1000015 (fun _ => (false, ())) (fun _ => false) x.1 x.2.1 x.2.2.1 x.2.2.2.1 x.2.2.2.2.1 x.2.2.2.2.2.1
noncomputable def W9_1000009 : (Unit × Unit × Unit × KD6 × KD6 × KD30 × Unit) → (Bool × Unit) := jnV (hd := hd9_1000009) (ys := ys9_1000009) V9_1000009
noncomputable def Q9_1000009 : (Unit × Unit × Unit × KD6 × KD6 × KD30 × Unit) → Bool := jnK (hd := hd9_1000009) (ys := ys9_1000009) V9_1000009
noncomputable def C9 : Cx := CxL Try.Θl kn9 (lOf [(0, orc 56 29 0 hd9_0 ys9_0 W9_0 Q9_0), (2, orc 56 77 2 hd9_2 ys9_2 W9_2 Q9_2), (1000015, orj 56 101 hd9_1000015 ys9_1000015 W9_1000015 Q9_1000015), (1000009, orj 56 53 hd9_1000009 ys9_1000009 W9_1000009 Q9_1000009)])
theorem CxOK9 : CxOK Try.prog C9 := ⟨Try.tabOKl, knOK9, by kernel_rfl, POK.none⟩
theorem l9_0 : Lone Try.prog C9 0 (.loop (loopB 0 (bodyF Try.f9))) (orc 56 29 0 hd9_0 ys9_0 W9_0 Q9_0) :=
  Lone.of CxOK9 (Lall.LOK rfl (by kernel_rfl) (Lall.skip (by kernel_rfl) (Lall.skip (by kernel_rfl) (Lall.skip (by kernel_rfl) (Lall.skip (by kernel_rfl) trivial))))) (by kernel_rfl) (fun x => (r9_0 F27 H27 G27 F28 H28 G28 F29 H29 G29 W9_0 Q9_0 W9_2 Q9_2 W9_1000015 Q9_1000015 W9_1000009 Q9_1000009 x.1 x.2.1 x.2.2.1 x.2.2.2.1 x.2.2.2.2.1 x.2.2.2.2.2.1 x.2.2.2.2.2.2.1).trans (by first | (delta V9_0 R9_0; with_reducible rfl) | rfl))
theorem l9_2 : Lone Try.prog C9 2 (.loop (loopB 2 (bodyF Try.f9))) (orc 56 77 2 hd9_2 ys9_2 W9_2 Q9_2) :=
  Lone.of CxOK9 (Lall.LOK rfl (by kernel_rfl) (Lall.skip (by kernel_rfl) (Lall.skip (by kernel_rfl) (Lall.skip (by kernel_rfl) (Lall.skip (by kernel_rfl) trivial))))) (by kernel_rfl) (fun x => (r9_2 F27 H27 G27 F28 H28 G28 F29 H29 G29 W9_0 Q9_0 W9_2 Q9_2 W9_1000015 Q9_1000015 W9_1000009 Q9_1000009 x.1 x.2.1 x.2.2.1 x.2.2.2.1 x.2.2.2.2.1 x.2.2.2.2.2.1 x.2.2.2.2.2.2.1).trans (by first | (delta V9_2 R9_2; with_reducible rfl) | rfl))
theorem l9_1000015 : Lone Try.prog C9 1000015 (joinB 1000015 (bodyF Try.f9)) (orj 56 101 hd9_1000015 ys9_1000015 W9_1000015 Q9_1000015) :=
  Lone.join CxOK9 (by kernel_rfl) (Lall.LOK rfl (by kernel_rfl) (Lall.skip (by kernel_rfl) (Lall.skip (by kernel_rfl) (Lall.skip (by kernel_rfl) (Lall.skip (by kernel_rfl) trivial))))) (by kernel_rfl) (fun x => (r9_1000015 F27 H27 G27 F28 H28 G28 F29 H29 G29 W9_0 Q9_0 W9_2 Q9_2 W9_1000015 Q9_1000015 W9_1000009 Q9_1000009 x.1 x.2.1 x.2.2.1 x.2.2.2.1 x.2.2.2.2.1 x.2.2.2.2.2.1).trans (by first | (delta V9_1000015 R9_1000015; with_reducible rfl) | rfl))
theorem l9_1000009 : Lone Try.prog C9 1000009 (joinB 1000009 (bodyF Try.f9)) (orj 56 53 hd9_1000009 ys9_1000009 W9_1000009 Q9_1000009) :=
  Lone.join CxOK9 (by kernel_rfl) (Lall.LOK rfl (by kernel_rfl) (Lall.skip (by kernel_rfl) (Lall.cons (by kernel_rfl) l9_2 (Lall.cons (by kernel_rfl) l9_1000015 (Lall.skip (by kernel_rfl) trivial))))) (by kernel_rfl) (fun x => (r9_1000009 F27 H27 G27 F28 H28 G28 F29 H29 G29 W9_0 Q9_0 W9_2 Q9_2 W9_1000015 Q9_1000015 W9_1000009 Q9_1000009 x.1 x.2.1 x.2.2.1 x.2.2.2.1 x.2.2.2.2.1 x.2.2.2.2.2.1).trans (by first | (delta V9_1000009 R9_1000009; with_reducible rfl) | rfl))
theorem LOK9 : LOK Try.prog C9 0 (bodyF Try.f9) := (Lall.LOK rfl (by kernel_rfl) (Lall.cons (by kernel_rfl) l9_0 (Lall.cons (by kernel_rfl) l9_2 (Lall.cons (by kernel_rfl) l9_1000015 (Lall.cons (by kernel_rfl) l9_1000009 trivial)))))
noncomputable def E9 : (KD6 × KD6 × Unit) → Option Bool := fun x => S9 F27 H27 G27 F28 H28 G28 F29 H29 G29 W9_0 Q9_0 W9_2 Q9_2 W9_1000015 Q9_1000015 W9_1000009 Q9_1000009 x.1 x.2.1
noncomputable def F9 : (KD6 × KD6 × Unit) → Bool := fun x => (E9 x).getD (dflt .bool)
noncomputable def G9 : (KD6 × KD6 × Unit) → Bool := fun x => (E9 x).isSome
theorem p9 : ∀ x, G9 x = true → PureOK Try.prog 9 (mkA [KT27, KT27] x) ⟨.bool, F9 x⟩ :=
  PureOK.ofL (ts := [KT27, KT27]) (T := .bool) (S := E9) CxOK9 Try.func9 (LOK.fn LOK9) (fun x => t9 F27 H27 G27 F28 H28 G28 F29 H29 G29 W9_0 Q9_0 W9_2 Q9_2 W9_1000015 Q9_1000015 W9_1000009 Q9_1000009 x.1 x.2.1)
noncomputable def kn56 : Kn := kOf []
theorem knOK56 : KOK Try.prog kn56 := KOK.nil
noncomputable def C56 : Cx := CxL Try.Θ kn56 (lOf [])
theorem CxOK56 : CxOK Try.prog C56 := ⟨Try.tabOK, knOK56, by kernel_rfl, POK.none⟩
theorem LOK56 : LOK Try.prog C56 0 (bodyF Try.f56) := (Lall.LOK rfl (by kernel_rfl) trivial)
noncomputable def E56 : ((Int × (Int × Unit)) × (Int × (Int × Unit)) × Unit) → Option Bool := fun x => S56   x.1 x.2.1
noncomputable def F56 : ((Int × (Int × Unit)) × (Int × (Int × Unit)) × Unit) → Bool := fun x => (E56 x).getD (dflt .bool)
noncomputable def G56 : ((Int × (Int × Unit)) × (Int × (Int × Unit)) × Unit) → Bool := fun x => (E56 x).isSome
theorem p56 : ∀ x, G56 x = true → PureOK Try.prog 56 (mkA [KT13, KT13] x) ⟨.bool, F56 x⟩ :=
  PureOK.ofS (ts := [KT13, KT13]) (T := .bool) (S := E56) CxOK56 Try.func56 (LOK.fn LOK56) (fun x => t56   x.1 x.2.1)
noncomputable def kn49 : Kn := kOf [(56, sm [KT13, KT13] .bool F56 G56)]
theorem knOK49 : KOK Try.prog kn49 := (KOK.cons Try.call56 (SmOK.sm p56) KOK.nil)
noncomputable def C49 : Cx := CxL Try.Θ kn49 (lOf [])
theorem CxOK49 : CxOK Try.prog C49 := ⟨Try.tabOK, knOK49, by kernel_rfl, POK.none⟩
theorem LOK49 : LOK Try.prog C49 0 (bodyF Try.f49) := (Lall.LOK rfl (by kernel_rfl) trivial)
noncomputable def E49 : (KD0 × KD0 × Unit) → Option Bool := fun x => S49 F56 G56  x.1 x.2.1
noncomputable def F49 : (KD0 × KD0 × Unit) → Bool := fun x => (E49 x).getD (dflt .bool)
noncomputable def G49 : (KD0 × KD0 × Unit) → Bool := fun x => (E49 x).isSome
theorem p49 : ∀ x, G49 x = true → PureOK Try.prog 49 (mkA [(.pair KT13 KT13), (.pair KT13 KT13)] x) ⟨.bool, F49 x⟩ :=
  PureOK.ofS (ts := [(.pair KT13 KT13), (.pair KT13 KT13)]) (T := .bool) (S := E49) CxOK49 Try.func49 (LOK.fn LOK49) (fun x => t49 F56 G56  x.1 x.2.1)
noncomputable def kn33 : Kn := kOf []
theorem knOK33 : KOK Try.prog kn33 := KOK.nil
noncomputable def V33_0 : (Unit × Int × Int × Int × KD10 × Unit) → Option ((Unit × Int × Int × Int × KD10 × Unit) ⊕ ((Unit × Int × Int × KD10 × Unit) ⊕ (Bool × KD10 × Unit))) := fun x => R33_0  (fun _ => (Sum.inl ((), 0, 0, ([], ([], ())), ()))) (fun _ => false) x.1 x.2.1 x.2.2.1 x.2.2.2.1 x.2.2.2.2.1
noncomputable def W33_0 : (Unit × Int × Int × Int × KD10 × Unit) → ((Unit × Int × Int × KD10 × Unit) ⊕ (Bool × KD10 × Unit)) := whV (hd := hd33_0) (ys := ys33_0) V33_0
noncomputable def Q33_0 : (Unit × Int × Int × Int × KD10 × Unit) → Bool := whK (hd := hd33_0) (ys := ys33_0) V33_0
noncomputable def C33 : Cx := CxL Try.Θ kn33 (lOf [(0, orc 77 27 0 hd33_0 ys33_0 W33_0 Q33_0)])
theorem CxOK33 : CxOK Try.prog C33 := ⟨Try.tabOK, knOK33, by kernel_rfl, POK.none⟩
theorem l33_0 : Lone Try.prog C33 0 (.loop (loopB 0 (bodyF Try.f33))) (orc 77 27 0 hd33_0 ys33_0 W33_0 Q33_0) 1 :=
  Lone.of CxOK33 (Lall.LOK rfl (by kernel_rfl) (Lall.skip (by kernel_rfl) trivial)) (by kernel_rfl) (fun x => (r33_0  W33_0 Q33_0 x.1 x.2.1 x.2.2.1 x.2.2.2.1 x.2.2.2.2.1).trans (by first | (delta V33_0 R33_0; with_reducible rfl) | rfl))
theorem LOK33 : LOK Try.prog C33 1 (bodyF Try.f33) := (Lall.LOK rfl (by kernel_rfl) (Lall.cons (by kernel_rfl) l33_0 trivial))
noncomputable def E33 : KD31 → (Int × Int × Unit) → Option (Bool × KD31) := fun x z => S33  W33_0 Q33_0 x z.1 z.2.1
noncomputable def F33 : KD31 → (Int × Int × Unit) → Bool := fun x z => ((E33 x z).getD (dflt .bool, OD7.dflt)).1
noncomputable def H33 : KD31 → (Int × Int × Unit) → KD31 := fun x z => ((E33 x z).getD (dflt .bool, OD7.dflt)).2
noncomputable def G33 : KD31 → (Int × Int × Unit) → Bool := fun x z => (E33 x z).isSome
theorem o33 : ∀ x z, G33 x z = true → ObjOK Try.prog 33 OD7 [0] 3 (mkA [(.int .i64), (.int .i64)] z) x ⟨.bool, F33 x z⟩ (H33 x z) :=
  ObjOK.ofS (D := OD7) (rp := [0]) (n1 := 3) (ts := [(.int .i64), (.int .i64)]) (T := .bool) (S := E33) CxOK33 Try.func33 (LOK.fn LOK33) (by kernel_rfl) (fun x z => t33  W33_0 Q33_0 x z.1 z.2.1)
theorem sm33_ok : SmOK Try.prog 33 (smO OD7 [0] 3 [(.int .i64), (.int .i64)] .bool F33 H33 G33) := SmOK.smO (D := OD7) (rp := [0]) (n1 := 3) (ts := [(.int .i64), (.int .i64)]) (T := .bool) (v := F33) (d := H33) (k := G33) (by kernel_rfl) (by kernel_rfl) (by kernel_rfl) (by decide) (by decide) (by kernel_rfl) o33
noncomputable def kn31 : Kn := kOf [(33, smO OD7 [0] 3 [(.int .i64), (.int .i64)] .bool F33 H33 G33), (49, sm [(.pair KT13 KT13), (.pair KT13 KT13)] .bool F49 G49)]
theorem knOK31 : KOK Try.prog kn31 := (KOK.cons Try.call33 sm33_ok (KOK.cons Try.call49 (SmOK.sm p49) KOK.nil))
noncomputable def C31 : Cx := CxL Try.Θ kn31 (lOf [])
theorem CxOK31 : CxOK Try.prog C31 := ⟨Try.tabOK, knOK31, by kernel_rfl, POK.none⟩
theorem LOK31 : LOK Try.prog C31 1 (bodyF Try.f31) := LOK.void (fun _ => rfl)
noncomputable def E31 : KD31 → ((Int × (KD0 × KD1)) × (Int × (KD0 × KD1)) × Unit) → Option (Bool × KD31) := fun x z => S31 F33 H33 G33 F49 G49  x z.1 z.2.1
noncomputable def F31 : KD31 → ((Int × (KD0 × KD1)) × (Int × (KD0 × KD1)) × Unit) → Bool := fun x z => ((E31 x z).getD (dflt .bool, OD7.dflt)).1
noncomputable def H31 : KD31 → ((Int × (KD0 × KD1)) × (Int × (KD0 × KD1)) × Unit) → KD31 := fun x z => ((E31 x z).getD (dflt .bool, OD7.dflt)).2
noncomputable def G31 : KD31 → ((Int × (KD0 × KD1)) × (Int × (KD0 × KD1)) × Unit) → Bool := fun x z => (E31 x z).isSome
theorem o31 : ∀ x z, G31 x z = true → ObjOK Try.prog 31 OD7 [0] 3 (mkA [KT18, KT18] z) x ⟨.bool, F31 x z⟩ (H31 x z) :=
  ObjOK.ofS (D := OD7) (rp := [0]) (n1 := 3) (ts := [KT18, KT18]) (T := .bool) (S := E31) CxOK31 Try.func31 (LOK.fn LOK31) (by kernel_rfl) (fun x z => t31 F33 H33 G33 F49 G49  x z.1 z.2.1)
theorem sm31_ok : SmOK Try.prog 31 (smO OD7 [0] 3 [KT18, KT18] .bool F31 H31 G31) := SmOK.smO (D := OD7) (rp := [0]) (n1 := 3) (ts := [KT18, KT18]) (T := .bool) (v := F31) (d := H31) (k := G31) (by kernel_rfl) (by kernel_rfl) (by kernel_rfl) (by decide) (by decide) (by kernel_rfl) o31
noncomputable def kn32 : Kn := kOf [(31, smO OD7 [0] 3 [KT18, KT18] .bool F31 H31 G31)]
theorem knOK32 : KOK Try.prog kn32 := (KOK.cons Try.call31 sm31_ok KOK.nil)
noncomputable def C32 : Cx := CxL Try.Θ kn32 (lOf [])
theorem CxOK32 : CxOK Try.prog C32 := ⟨Try.tabOK, knOK32, by kernel_rfl, POK.none⟩
theorem LOK32 : LOK Try.prog C32 1 (bodyF Try.f32) := LOK.void (fun _ => rfl)
noncomputable def E32 : KD31 → ((Int × (Int × KD3)) × (Int × (Int × KD3)) × Unit) → Option (Bool × KD31) := fun x z => S32 F31 H31 G31  x z.1 z.2.1
noncomputable def F32 : KD31 → ((Int × (Int × KD3)) × (Int × (Int × KD3)) × Unit) → Bool := fun x z => ((E32 x z).getD (dflt .bool, OD7.dflt)).1
noncomputable def H32 : KD31 → ((Int × (Int × KD3)) × (Int × (Int × KD3)) × Unit) → KD31 := fun x z => ((E32 x z).getD (dflt .bool, OD7.dflt)).2
noncomputable def G32 : KD31 → ((Int × (Int × KD3)) × (Int × (Int × KD3)) × Unit) → Bool := fun x z => (E32 x z).isSome
theorem o32 : ∀ x z, G32 x z = true → ObjOK Try.prog 32 OD7 [0] 3 (mkA [KT20, KT20] z) x ⟨.bool, F32 x z⟩ (H32 x z) :=
  ObjOK.ofS (D := OD7) (rp := [0]) (n1 := 3) (ts := [KT20, KT20]) (T := .bool) (S := E32) CxOK32 Try.func32 (LOK.fn LOK32) (by kernel_rfl) (fun x z => t32 F31 H31 G31  x z.1 z.2.1)
theorem sm32_ok : SmOK Try.prog 32 (smO OD7 [0] 3 [KT20, KT20] .bool F32 H32 G32) := SmOK.smO (D := OD7) (rp := [0]) (n1 := 3) (ts := [KT20, KT20]) (T := .bool) (v := F32) (d := H32) (k := G32) (by kernel_rfl) (by kernel_rfl) (by kernel_rfl) (by decide) (by decide) (by kernel_rfl) o32
noncomputable def kn10 : Kn := kOf [(31, smO OD7 [0] 3 [KT18, KT18] .bool F31 H31 G31), (32, smO OD7 [0] 3 [KT20, KT20] .bool F32 H32 G32), (33, smO OD7 [0] 3 [(.int .i64), (.int .i64)] .bool F33 H33 G33)]
theorem knOK10 : KOK Try.prog kn10 := (KOK.cons Try.call31 sm31_ok (KOK.cons Try.call32 sm32_ok (KOK.cons Try.call33 sm33_ok KOK.nil)))
noncomputable def V10_0 : (Unit × Unit × Unit × Int × KD6 × KD6 × KD10 × Unit) → Option ((Unit × Unit × Unit × Int × KD6 × KD6 × KD10 × Unit) ⊕ ((Unit × Unit × Unit × KD6 × KD6 × KD10 × Unit) ⊕ (Bool × Unit))) := fun x => R10_0 F31 H31 G31 F32 H32 G32 F33 H33 G33 (fun _ => (Sum.inl ((), (), (), ([], ([], (0, ([], (0, ()))))), ([], ([], (0, ([], (0, ()))))), ([], ([], ())), ()))) (fun _ => false) (fun _ => (Sum.inl ((), (), (), ([], ([], (0, ([], (0, ()))))), ([], ([], (0, ([], (0, ()))))), ([], ([], ())), ()))) (fun _ => false) (fun _ => (Sum.inl ((), (), ([], ([], (0, ([], (0, ()))))), ([], ([], (0, ([], (0, ()))))), ()))) (fun _ => false) (fun _ => (false, ())) (fun _ => false) (fun _ => (false, ())) (fun _ => false) (fun _ => (false, ())) (fun _ => false) x.1 x.2.1 x.2.2.1 x.2.2.2.1 x.2.2.2.2.1 x.2.2.2.2.2.1 x.2.2.2.2.2.2.1
noncomputable def W10_0 : (Unit × Unit × Unit × Int × KD6 × KD6 × KD10 × Unit) → ((Unit × Unit × Unit × KD6 × KD6 × KD10 × Unit) ⊕ (Bool × Unit)) := whV (hd := hd10_0) (ys := ys10_0) V10_0
noncomputable def Q10_0 : (Unit × Unit × Unit × Int × KD6 × KD6 × KD10 × Unit) → Bool := whK (hd := hd10_0) (ys := ys10_0) V10_0
noncomputable def V10_2 : (Unit × Unit × Unit × Int × KD6 × KD6 × KD11 × Unit) → Option ((Unit × Unit × Unit × Int × KD6 × KD6 × KD11 × Unit) ⊕ ((Unit × Unit × Unit × KD6 × KD6 × KD11 × Unit) ⊕ (Bool × Unit))) := fun x => R10_2 F31 H31 G31 F32 H32 G32 F33 H33 G33 W10_0 Q10_0 (fun _ => (Sum.inl ((), (), (), ([], ([], (0, ([], (0, ()))))), ([], ([], (0, ([], (0, ()))))), ([], ([], ())), ()))) (fun _ => false) (fun _ => (Sum.inl ((), (), ([], ([], (0, ([], (0, ()))))), ([], ([], (0, ([], (0, ()))))), ()))) (fun _ => false) (fun _ => (false, ())) (fun _ => false) (fun _ => (false, ())) (fun _ => false) (fun _ => (false, ())) (fun _ => false) x.1 x.2.1 x.2.2.1 x.2.2.2.1 x.2.2.2.2.1 x.2.2.2.2.2.1 x.2.2.2.2.2.2.1
noncomputable def W10_2 : (Unit × Unit × Unit × Int × KD6 × KD6 × KD11 × Unit) → ((Unit × Unit × Unit × KD6 × KD6 × KD11 × Unit) ⊕ (Bool × Unit)) := whV (hd := hd10_2) (ys := ys10_2) V10_2
noncomputable def Q10_2 : (Unit × Unit × Unit × Int × KD6 × KD6 × KD11 × Unit) → Bool := whK (hd := hd10_2) (ys := ys10_2) V10_2
noncomputable def V10_4 : (Unit × Unit × Unit × Int × KD6 × KD6 × KD32 × Unit) → Option ((Unit × Unit × Unit × Int × KD6 × KD6 × KD32 × Unit) ⊕ ((Unit × Unit × KD6 × KD6 × Unit) ⊕ (Bool × Unit))) := fun x => R10_4 F31 H31 G31 F32 H32 G32 F33 H33 G33 W10_0 Q10_0 W10_2 Q10_2 (fun _ => (Sum.inl ((), (), ([], ([], (0, ([], (0, ()))))), ([], ([], (0, ([], (0, ()))))), ()))) (fun _ => false) (fun _ => (false, ())) (fun _ => false) (fun _ => (false, ())) (fun _ => false) (fun _ => (false, ())) (fun _ => false) x.1 x.2.1 x.2.2.1 x.2.2.2.1 x.2.2.2.2.1 x.2.2.2.2.2.1 x.2.2.2.2.2.2.1
noncomputable def W10_4 : (Unit × Unit × Unit × Int × KD6 × KD6 × KD32 × Unit) → ((Unit × Unit × KD6 × KD6 × Unit) ⊕ (Bool × Unit)) := whV (hd := hd10_4) (ys := ys10_4) V10_4
noncomputable def Q10_4 : (Unit × Unit × Unit × Int × KD6 × KD6 × KD32 × Unit) → Bool := whK (hd := hd10_4) (ys := ys10_4) V10_4
noncomputable def V10_1000020 : (Unit × Unit × KD6 × KD6 × Unit) → Option (Bool × Unit) := fun x => R10_1000020 F31 H31 G31 F32 H32 G32 F33 H33 G33 W10_0 Q10_0 W10_2 Q10_2 W10_4 Q10_4 (fun _ => (false, ())) (fun _ => false) (fun _ => (false, ())) (fun _ => false) (fun _ => (false, ())) (fun _ => false) x.1 x.2.1 x.2.2.1 x.2.2.2.1
noncomputable def W10_1000020 : (Unit × Unit × KD6 × KD6 × Unit) → (Bool × Unit) := jnV (hd := hd10_1000020) (ys := ys10_1000020) V10_1000020
noncomputable def Q10_1000020 : (Unit × Unit × KD6 × KD6 × Unit) → Bool := jnK (hd := hd10_1000020) (ys := ys10_1000020) V10_1000020
noncomputable def V10_1000013 : (Unit × Unit × Unit × KD6 × KD6 × KD33 × Unit) → Option (Bool × Unit) := fun x => R10_1000013 F31 H31 G31 F32 H32 G32 F33 H33 G33 W10_0 Q10_0 W10_2 Q10_2 W10_4 Q10_4 W10_1000020 Q10_1000020 (fun _ => (false, ())) (fun _ => false) (fun _ => (false, ())) (fun _ => false) x.1 x.2.1 x.2.2.1 x.2.2.2.1 x.2.2.2.2.1 x.2.2.2.2.2.1
noncomputable def W10_1000013 : (Unit × Unit × Unit × KD6 × KD6 × KD33 × Unit) → (Bool × Unit) := jnV (hd := hd10_1000013) (ys := ys10_1000013) V10_1000013
noncomputable def Q10_1000013 : (Unit × Unit × Unit × KD6 × KD6 × KD33 × Unit) → Bool := jnK (hd := hd10_1000013) (ys := ys10_1000013) V10_1000013
noncomputable def V10_1000008 : (Unit × Unit × Unit × KD6 × KD6 × KD34 × Unit) → Option (Bool × Unit) := fun x => R10_1000008 F31 H31 G31 F32 H32 G32 F33 H33 G33 W10_0 Q10_0 W10_2 Q10_2 W10_4 Q10_4 W10_1000020 Q10_1000020 W10_1000013 Q10_1000013 (fun _ => (false, ())) (fun _ => false) x.1 x.2.1 x.2.2.1 x.2.2.2.1 x.2.2.2.2.1 x.2.2.2.2.2.1
noncomputable def W10_1000008 : (Unit × Unit × Unit × KD6 × KD6 × KD34 × Unit) → (Bool × Unit) := jnV (hd := hd10_1000008) (ys := ys10_1000008) V10_1000008
noncomputable def Q10_1000008 : (Unit × Unit × Unit × KD6 × KD6 × KD34 × Unit) → Bool := jnK (hd := hd10_1000008) (ys := ys10_1000008) V10_1000008
noncomputable def C10 : Cx := CxL Try.Θl kn10 (lOf [(0, orc 73 27 0 hd10_0 ys10_0 W10_0 Q10_0), (2, orc 73 75 2 hd10_2 ys10_2 W10_2 Q10_2), (4, orc 73 123 4 hd10_4 ys10_4 W10_4 Q10_4), (1000020, orj 73 147 hd10_1000020 ys10_1000020 W10_1000020 Q10_1000020), (1000013, orj 73 99 hd10_1000013 ys10_1000013 W10_1000013 Q10_1000013), (1000008, orj 73 51 hd10_1000008 ys10_1000008 W10_1000008 Q10_1000008)])
theorem CxOK10 : CxOK Try.prog C10 := ⟨Try.tabOKl, knOK10, by kernel_rfl, POK.none⟩
theorem l10_0 : Lone Try.prog C10 0 (.loop (loopB 0 (bodyF Try.f10))) (orc 73 27 0 hd10_0 ys10_0 W10_0 Q10_0) :=
  Lone.of CxOK10 (Lall.LOK rfl (by kernel_rfl) (Lall.skip (by kernel_rfl) (Lall.skip (by kernel_rfl) (Lall.skip (by kernel_rfl) (Lall.skip (by kernel_rfl) (Lall.skip (by kernel_rfl) (Lall.skip (by kernel_rfl) trivial))))))) (by kernel_rfl) (fun x => (r10_0 F31 H31 G31 F32 H32 G32 F33 H33 G33 W10_0 Q10_0 W10_2 Q10_2 W10_4 Q10_4 W10_1000020 Q10_1000020 W10_1000013 Q10_1000013 W10_1000008 Q10_1000008 x.1 x.2.1 x.2.2.1 x.2.2.2.1 x.2.2.2.2.1 x.2.2.2.2.2.1 x.2.2.2.2.2.2.1).trans (by first | (delta V10_0 R10_0; with_reducible rfl) | rfl))
theorem l10_2 : Lone Try.prog C10 2 (.loop (loopB 2 (bodyF Try.f10))) (orc 73 75 2 hd10_2 ys10_2 W10_2 Q10_2) :=
  Lone.of CxOK10 (Lall.LOK rfl (by kernel_rfl) (Lall.skip (by kernel_rfl) (Lall.skip (by kernel_rfl) (Lall.skip (by kernel_rfl) (Lall.skip (by kernel_rfl) (Lall.skip (by kernel_rfl) (Lall.skip (by kernel_rfl) trivial))))))) (by kernel_rfl) (fun x => (r10_2 F31 H31 G31 F32 H32 G32 F33 H33 G33 W10_0 Q10_0 W10_2 Q10_2 W10_4 Q10_4 W10_1000020 Q10_1000020 W10_1000013 Q10_1000013 W10_1000008 Q10_1000008 x.1 x.2.1 x.2.2.1 x.2.2.2.1 x.2.2.2.2.1 x.2.2.2.2.2.1 x.2.2.2.2.2.2.1).trans (by first | (delta V10_2 R10_2; with_reducible rfl) | rfl))
theorem l10_4 : Lone Try.prog C10 4 (.loop (loopB 4 (bodyF Try.f10))) (orc 73 123 4 hd10_4 ys10_4 W10_4 Q10_4) :=
  Lone.of CxOK10 (Lall.LOK rfl (by kernel_rfl) (Lall.skip (by kernel_rfl) (Lall.skip (by kernel_rfl) (Lall.skip (by kernel_rfl) (Lall.skip (by kernel_rfl) (Lall.skip (by kernel_rfl) (Lall.skip (by kernel_rfl) trivial))))))) (by kernel_rfl) (fun x => (r10_4 F31 H31 G31 F32 H32 G32 F33 H33 G33 W10_0 Q10_0 W10_2 Q10_2 W10_4 Q10_4 W10_1000020 Q10_1000020 W10_1000013 Q10_1000013 W10_1000008 Q10_1000008 x.1 x.2.1 x.2.2.1 x.2.2.2.1 x.2.2.2.2.1 x.2.2.2.2.2.1 x.2.2.2.2.2.2.1).trans (by first | (delta V10_4 R10_4; with_reducible rfl) | rfl))
theorem l10_1000020 : Lone Try.prog C10 1000020 (joinB 1000020 (bodyF Try.f10)) (orj 73 147 hd10_1000020 ys10_1000020 W10_1000020 Q10_1000020) :=
  Lone.join CxOK10 (by kernel_rfl) (Lall.LOK rfl (by kernel_rfl) (Lall.skip (by kernel_rfl) (Lall.skip (by kernel_rfl) (Lall.skip (by kernel_rfl) (Lall.skip (by kernel_rfl) (Lall.skip (by kernel_rfl) (Lall.skip (by kernel_rfl) trivial))))))) (by kernel_rfl) (fun x => (r10_1000020 F31 H31 G31 F32 H32 G32 F33 H33 G33 W10_0 Q10_0 W10_2 Q10_2 W10_4 Q10_4 W10_1000020 Q10_1000020 W10_1000013 Q10_1000013 W10_1000008 Q10_1000008 x.1 x.2.1 x.2.2.1 x.2.2.2.1).trans (by first | (delta V10_1000020 R10_1000020; with_reducible rfl) | rfl))
theorem l10_1000013 : Lone Try.prog C10 1000013 (joinB 1000013 (bodyF Try.f10)) (orj 73 99 hd10_1000013 ys10_1000013 W10_1000013 Q10_1000013) :=
  Lone.join CxOK10 (by kernel_rfl) (Lall.LOK rfl (by kernel_rfl) (Lall.skip (by kernel_rfl) (Lall.skip (by kernel_rfl) (Lall.cons (by kernel_rfl) l10_4 (Lall.cons (by kernel_rfl) l10_1000020 (Lall.skip (by kernel_rfl) (Lall.skip (by kernel_rfl) trivial))))))) (by kernel_rfl) (fun x => (r10_1000013 F31 H31 G31 F32 H32 G32 F33 H33 G33 W10_0 Q10_0 W10_2 Q10_2 W10_4 Q10_4 W10_1000020 Q10_1000020 W10_1000013 Q10_1000013 W10_1000008 Q10_1000008 x.1 x.2.1 x.2.2.1 x.2.2.2.1 x.2.2.2.2.1 x.2.2.2.2.2.1).trans (by first | (delta V10_1000013 R10_1000013; with_reducible rfl) | rfl))
theorem l10_1000008 : Lone Try.prog C10 1000008 (joinB 1000008 (bodyF Try.f10)) (orj 73 51 hd10_1000008 ys10_1000008 W10_1000008 Q10_1000008) :=
  Lone.join CxOK10 (by kernel_rfl) (Lall.LOK rfl (by kernel_rfl) (Lall.skip (by kernel_rfl) (Lall.cons (by kernel_rfl) l10_2 (Lall.cons (by kernel_rfl) l10_4 (Lall.cons (by kernel_rfl) l10_1000020 (Lall.cons (by kernel_rfl) l10_1000013 (Lall.skip (by kernel_rfl) trivial))))))) (by kernel_rfl) (fun x => (r10_1000008 F31 H31 G31 F32 H32 G32 F33 H33 G33 W10_0 Q10_0 W10_2 Q10_2 W10_4 Q10_4 W10_1000020 Q10_1000020 W10_1000013 Q10_1000013 W10_1000008 Q10_1000008 x.1 x.2.1 x.2.2.1 x.2.2.2.1 x.2.2.2.2.1 x.2.2.2.2.2.1).trans (by first | (delta V10_1000008 R10_1000008; with_reducible rfl) | rfl))
theorem LOK10 : LOK Try.prog C10 0 (bodyF Try.f10) := (Lall.LOK rfl (by kernel_rfl) (Lall.cons (by kernel_rfl) l10_0 (Lall.cons (by kernel_rfl) l10_2 (Lall.cons (by kernel_rfl) l10_4 (Lall.cons (by kernel_rfl) l10_1000020 (Lall.cons (by kernel_rfl) l10_1000013 (Lall.cons (by kernel_rfl) l10_1000008 trivial)))))))
noncomputable def E10 : (KD6 × KD6 × Unit) → Option Bool := fun x => S10 F31 H31 G31 F32 H32 G32 F33 H33 G33 W10_0 Q10_0 W10_2 Q10_2 W10_4 Q10_4 W10_1000020 Q10_1000020 W10_1000013 Q10_1000013 W10_1000008 Q10_1000008 x.1 x.2.1
noncomputable def F10 : (KD6 × KD6 × Unit) → Bool := fun x => (E10 x).getD (dflt .bool)
noncomputable def G10 : (KD6 × KD6 × Unit) → Bool := fun x => (E10 x).isSome
theorem p10 : ∀ x, G10 x = true → PureOK Try.prog 10 (mkA [KT27, KT27] x) ⟨.bool, F10 x⟩ :=
  PureOK.ofL (ts := [KT27, KT27]) (T := .bool) (S := E10) CxOK10 Try.func10 (LOK.fn LOK10) (fun x => t10 F31 H31 G31 F32 H32 G32 F33 H33 G33 W10_0 Q10_0 W10_2 Q10_2 W10_4 Q10_4 W10_1000020 Q10_1000020 W10_1000013 Q10_1000013 W10_1000008 Q10_1000008 x.1 x.2.1)
noncomputable def kn34 : Kn := kOf []
theorem knOK34 : KOK Try.prog kn34 := KOK.nil
noncomputable def V34_0 : ((List Int) × (List Int) × Int × Int × Unit) → Option (((List Int) × (List Int) × Int × Int × Unit) ⊕ ((Unit) ⊕ (Bool × Unit))) := fun x => R34_0  (fun _ => (Sum.inl (()))) (fun _ => false) x.1 x.2.1 x.2.2.1 x.2.2.2.1
noncomputable def W34_0 : ((List Int) × (List Int) × Int × Int × Unit) → ((Unit) ⊕ (Bool × Unit)) := whV (hd := hd34_0) (ys := ys34_0) V34_0
noncomputable def Q34_0 : ((List Int) × (List Int) × Int × Int × Unit) → Bool := whK (hd := hd34_0) (ys := ys34_0) V34_0
noncomputable def C34 : Cx := CxL Try.Θl kn34 (lOf [(0, orc 26 24 0 hd34_0 ys34_0 W34_0 Q34_0)])
theorem CxOK34 : CxOK Try.prog C34 := ⟨Try.tabOKl, knOK34, by kernel_rfl, POK.none⟩
theorem l34_0 : Lone Try.prog C34 0 (.loop (loopB 0 (bodyF Try.f34))) (orc 26 24 0 hd34_0 ys34_0 W34_0 Q34_0) :=
  Lone.of CxOK34 (Lall.LOK rfl (by kernel_rfl) (Lall.skip (by kernel_rfl) trivial)) (by kernel_rfl) (fun x => (r34_0  W34_0 Q34_0 x.1 x.2.1 x.2.2.1 x.2.2.2.1).trans (by first | (delta V34_0 R34_0; with_reducible rfl) | rfl))
theorem LOK34 : LOK Try.prog C34 0 (bodyF Try.f34) := (Lall.LOK rfl (by kernel_rfl) (Lall.cons (by kernel_rfl) l34_0 trivial))
noncomputable def E34 : ((List Int) × (List Int) × Unit) → Option Bool := fun x => S34  W34_0 Q34_0 x.1 x.2.1
noncomputable def F34 : ((List Int) × (List Int) × Unit) → Bool := fun x => (E34 x).getD (dflt .bool)
noncomputable def G34 : ((List Int) × (List Int) × Unit) → Bool := fun x => (E34 x).isSome
theorem p34 : ∀ x, G34 x = true → PureOK Try.prog 34 (mkA [(.vsl (.int .i64)), (.vsl (.int .i64))] x) ⟨.bool, F34 x⟩ :=
  PureOK.ofL (ts := [(.vsl (.int .i64)), (.vsl (.int .i64))]) (T := .bool) (S := E34) CxOK34 Try.func34 (LOK.fn LOK34) (fun x => t34  W34_0 Q34_0 x.1 x.2.1)
noncomputable def kn11 : Kn := kOf [(34, sm [(.vsl (.int .i64)), (.vsl (.int .i64))] .bool F34 G34)]
theorem knOK11 : KOK Try.prog kn11 := (KOK.cons Try.call34 (SmOK.sm p34) KOK.nil)
noncomputable def C11 : Cx := CxL Try.Θl kn11 (lOf [])
theorem CxOK11 : CxOK Try.prog C11 := ⟨Try.tabOKl, knOK11, by kernel_rfl, POK.none⟩
theorem LOK11 : LOK Try.prog C11 0 (bodyF Try.f11) := (Lall.LOK rfl (by kernel_rfl) trivial)
noncomputable def E11 : (KD6 × KD6 × Unit) → Option Bool := fun x => S11 F34 G34  x.1 x.2.1
noncomputable def F11 : (KD6 × KD6 × Unit) → Bool := fun x => (E11 x).getD (dflt .bool)
noncomputable def G11 : (KD6 × KD6 × Unit) → Bool := fun x => (E11 x).isSome
theorem p11 : ∀ x, G11 x = true → PureOK Try.prog 11 (mkA [KT27, KT27] x) ⟨.bool, F11 x⟩ :=
  PureOK.ofL (ts := [KT27, KT27]) (T := .bool) (S := E11) CxOK11 Try.func11 (LOK.fn LOK11) (fun x => t11 F34 G34  x.1 x.2.1)
noncomputable def kn12 : Kn := kOf []
theorem knOK12 : KOK Try.prog kn12 := KOK.nil
noncomputable def V12_0 : (Unit × Unit × Int × KD6 × KD6 × Unit) → Option ((Unit × Unit × Int × KD6 × KD6 × Unit) ⊕ ((Unit) ⊕ (Bool × Unit))) := fun x => R12_0  (fun _ => (Sum.inl (()))) (fun _ => false) x.1 x.2.1 x.2.2.1 x.2.2.2.1 x.2.2.2.2.1
noncomputable def W12_0 : (Unit × Unit × Int × KD6 × KD6 × Unit) → ((Unit) ⊕ (Bool × Unit)) := whV (hd := hd12_0) (ys := ys12_0) V12_0
noncomputable def Q12_0 : (Unit × Unit × Int × KD6 × KD6 × Unit) → Bool := whK (hd := hd12_0) (ys := ys12_0) V12_0
noncomputable def C12 : Cx := CxL Try.Θl kn12 (lOf [(0, orc 59 26 0 hd12_0 ys12_0 W12_0 Q12_0)])
theorem CxOK12 : CxOK Try.prog C12 := ⟨Try.tabOKl, knOK12, by kernel_rfl, POK.none⟩
theorem l12_0 : Lone Try.prog C12 0 (.loop (loopB 0 (bodyF Try.f12))) (orc 59 26 0 hd12_0 ys12_0 W12_0 Q12_0) :=
  Lone.of CxOK12 (Lall.LOK rfl (by kernel_rfl) (Lall.skip (by kernel_rfl) trivial)) (by kernel_rfl) (fun x => (r12_0  W12_0 Q12_0 x.1 x.2.1 x.2.2.1 x.2.2.2.1 x.2.2.2.2.1).trans (by first | (delta V12_0 R12_0; with_reducible rfl) | rfl))
theorem LOK12 : LOK Try.prog C12 0 (bodyF Try.f12) := (Lall.LOK rfl (by kernel_rfl) (Lall.cons (by kernel_rfl) l12_0 trivial))
noncomputable def E12 : (KD6 × KD6 × Unit) → Option Bool := fun x => S12  W12_0 Q12_0 x.1 x.2.1
noncomputable def F12 : (KD6 × KD6 × Unit) → Bool := fun x => (E12 x).getD (dflt .bool)
noncomputable def G12 : (KD6 × KD6 × Unit) → Bool := fun x => (E12 x).isSome
theorem p12 : ∀ x, G12 x = true → PureOK Try.prog 12 (mkA [KT27, KT27] x) ⟨.bool, F12 x⟩ :=
  PureOK.ofL (ts := [KT27, KT27]) (T := .bool) (S := E12) CxOK12 Try.func12 (LOK.fn LOK12) (fun x => t12  W12_0 Q12_0 x.1 x.2.1)
noncomputable def kn57 : Kn := kOf []
theorem knOK57 : KOK Try.prog kn57 := KOK.nil
noncomputable def C57 : Cx := CxL Try.Θ kn57 (lOf [])
theorem CxOK57 : CxOK Try.prog C57 := ⟨Try.tabOK, knOK57, by kernel_rfl, POK.none⟩
theorem LOK57 : LOK Try.prog C57 0 (bodyF Try.f57) := (Lall.LOK rfl (by kernel_rfl) trivial)
noncomputable def E57 : (Int × Int × Unit) → Option (Int × (Int × Unit)) := fun x => S57   x.1 x.2.1
noncomputable def F57 : (Int × Int × Unit) → (Int × (Int × Unit)) := fun x => (E57 x).getD (dflt KT13)
noncomputable def G57 : (Int × Int × Unit) → Bool := fun x => (E57 x).isSome
theorem p57 : ∀ x, G57 x = true → PureOK Try.prog 57 (mkA [(.int .u64), (.int .u64)] x) ⟨KT13, F57 x⟩ :=
  PureOK.ofS (ts := [(.int .u64), (.int .u64)]) (T := KT13) (S := E57) CxOK57 Try.func57 (LOK.fn LOK57) (fun x => t57   x.1 x.2.1)
noncomputable def kn50 : Kn := kOf [(57, sm [(.int .u64), (.int .u64)] KT13 F57 G57)]
theorem knOK50 : KOK Try.prog kn50 := (KOK.cons Try.call57 (SmOK.sm p57) KOK.nil)
noncomputable def C50 : Cx := CxL Try.Θ kn50 (lOf [])
theorem CxOK50 : CxOK Try.prog C50 := ⟨Try.tabOK, knOK50, by kernel_rfl, POK.none⟩
theorem LOK50 : LOK Try.prog C50 0 (bodyF Try.f50) := (Lall.LOK rfl (by kernel_rfl) trivial)
noncomputable def E50 : (Int × Unit) → Option (Int × (Int × Unit)) := fun x => S50 F57 G57  x.1
noncomputable def F50 : (Int × Unit) → (Int × (Int × Unit)) := fun x => (E50 x).getD (dflt KT13)
noncomputable def G50 : (Int × Unit) → Bool := fun x => (E50 x).isSome
theorem p50 : ∀ x, G50 x = true → PureOK Try.prog 50 (mkA [(.int .u64)] x) ⟨KT13, F50 x⟩ :=
  PureOK.ofS (ts := [(.int .u64)]) (T := KT13) (S := E50) CxOK50 Try.func50 (LOK.fn LOK50) (fun x => t50 F57 G57  x.1)
noncomputable def kn35 : Kn := kOf [(50, sm [(.int .u64)] KT13 F50 G50)]
theorem knOK35 : KOK Try.prog kn35 := (KOK.cons Try.call50 (SmOK.sm p50) KOK.nil)
noncomputable def C35 : Cx := CxL Try.Θ kn35 (lOf [])
theorem CxOK35 : CxOK Try.prog C35 := ⟨Try.tabOK, knOK35, by kernel_rfl, POK.none⟩
theorem LOK35 : LOK Try.prog C35 0 (bodyF Try.f35) := (Lall.LOK rfl (by kernel_rfl) trivial)
noncomputable def E35 : (Int × Unit) → Option KD0 := fun x => S35 F50 G50  x.1
noncomputable def F35 : (Int × Unit) → KD0 := fun x => (E35 x).getD (dflt (.pair KT13 KT13))
noncomputable def G35 : (Int × Unit) → Bool := fun x => (E35 x).isSome
theorem p35 : ∀ x, G35 x = true → PureOK Try.prog 35 (mkA [(.int .u64)] x) ⟨(.pair KT13 KT13), F35 x⟩ :=
  PureOK.ofS (ts := [(.int .u64)]) (T := (.pair KT13 KT13)) (S := E35) CxOK35 Try.func35 (LOK.fn LOK35) (fun x => t35 F50 G50  x.1)
noncomputable def kn13 : Kn := kOf [(35, sm [(.int .u64)] (.pair KT13 KT13) F35 G35)]
theorem knOK13 : KOK Try.prog kn13 := (KOK.cons Try.call35 (SmOK.sm p35) KOK.nil)
noncomputable def C13 : Cx := CxL Try.Θl kn13 (lOf [])
theorem CxOK13 : CxOK Try.prog C13 := ⟨Try.tabOKl, knOK13, by kernel_rfl, POK.none⟩
theorem LOK13 : LOK Try.prog C13 0 (bodyF Try.f13) := (Lall.LOK rfl (by kernel_rfl) trivial)
noncomputable def E13 : (Unit) → Option KD6 := fun x => S13 F35 G35  
noncomputable def F13 : (Unit) → KD6 := fun x => (E13 x).getD (dflt KT27)
noncomputable def G13 : (Unit) → Bool := fun x => (E13 x).isSome
theorem p13 : ∀ x, G13 x = true → PureOK Try.prog 13 (mkA [] x) ⟨KT27, F13 x⟩ :=
  PureOK.ofL (ts := []) (T := KT27) (S := E13) CxOK13 Try.func13 (LOK.fn LOK13) (fun x => t13 F35 G35  )
noncomputable def kn26 : Kn := kOf []
theorem knOK26 : KOK Try.prog kn26 := KOK.nil
noncomputable def C26 : Cx := CxL Try.Θ kn26 (lOf [])
theorem CxOK26 : CxOK Try.prog C26 := ⟨Try.tabOK, knOK26, by kernel_rfl, POK.none⟩
theorem LOK26 : LOK Try.prog C26 0 (bodyF Try.f26) := (Lall.LOK rfl (by kernel_rfl) trivial)
noncomputable def E26 : (Int × Unit) → Option KD0 := fun x => S26   x.1
noncomputable def F26 : (Int × Unit) → KD0 := fun x => (E26 x).getD (dflt (.pair KT13 KT13))
noncomputable def G26 : (Int × Unit) → Bool := fun x => (E26 x).isSome
theorem p26 : ∀ x, G26 x = true → PureOK Try.prog 26 (mkA [(.int .u64)] x) ⟨(.pair KT13 KT13), F26 x⟩ :=
  PureOK.ofS (ts := [(.int .u64)]) (T := (.pair KT13 KT13)) (S := E26) CxOK26 Try.func26 (LOK.fn LOK26) (fun x => t26   x.1)
noncomputable def kn14 : Kn := kOf [(26, sm [(.int .u64)] (.pair KT13 KT13) F26 G26)]
theorem knOK14 : KOK Try.prog kn14 := (KOK.cons Try.call26 (SmOK.sm p26) KOK.nil)
noncomputable def C14 : Cx := CxL Try.Θl kn14 (lOf [])
theorem CxOK14 : CxOK Try.prog C14 := ⟨Try.tabOKl, knOK14, by kernel_rfl, POK.none⟩
theorem LOK14 : LOK Try.prog C14 0 (bodyF Try.f14) := (Lall.LOK rfl (by kernel_rfl) trivial)
noncomputable def E14 : (Unit) → Option KD6 := fun x => S14 F26 G26  
noncomputable def F14 : (Unit) → KD6 := fun x => (E14 x).getD (dflt KT27)
noncomputable def G14 : (Unit) → Bool := fun x => (E14 x).isSome
theorem p14 : ∀ x, G14 x = true → PureOK Try.prog 14 (mkA [] x) ⟨KT27, F14 x⟩ :=
  PureOK.ofL (ts := []) (T := KT27) (S := E14) CxOK14 Try.func14 (LOK.fn LOK14) (fun x => t14 F26 G26  )
noncomputable def kn15 : Kn := kOf [(36, sm [(.vsl (.int .i64))] (.vsl (.int .i64)) F36 G36)]
theorem knOK15 : KOK Try.prog kn15 := (KOK.cons Try.call36 (SmOK.sm p36) KOK.nil)
noncomputable def C15 : Cx := CxL Try.Θl kn15 (lOf [])
theorem CxOK15 : CxOK Try.prog C15 := ⟨Try.tabOKl, knOK15, by kernel_rfl, POK.none⟩
theorem LOK15 : LOK Try.prog C15 0 (bodyF Try.f15) := (Lall.LOK rfl (by kernel_rfl) trivial)
noncomputable def E15 : (KD6 × Unit) → Option KD6 := fun x => S15 F36 G36  x.1
noncomputable def F15 : (KD6 × Unit) → KD6 := fun x => (E15 x).getD (dflt KT27)
noncomputable def G15 : (KD6 × Unit) → Bool := fun x => (E15 x).isSome
theorem p15 : ∀ x, G15 x = true → PureOK Try.prog 15 (mkA [KT27] x) ⟨KT27, F15 x⟩ :=
  PureOK.ofL (ts := [KT27]) (T := KT27) (S := E15) CxOK15 Try.func15 (LOK.fn LOK15) (fun x => t15 F36 G36  x.1)
noncomputable def kn3 : Kn := kOf [(7, sm [KT27] .bool F7 G7), (8, sm [] .bool F8 G8), (9, sm [KT27, KT27] .bool F9 G9), (10, sm [KT27, KT27] .bool F10 G10), (11, sm [KT27, KT27] .bool F11 G11), (12, sm [KT27, KT27] .bool F12 G12), (13, sm [] KT27 F13 G13), (14, sm [] KT27 F14 G14), (15, sm [KT27] KT27 F15 G15)]
theorem knOK3 : KOK Try.prog kn3 := (KOK.cons Try.call7 (SmOK.sm p7) (KOK.cons Try.call8 (SmOK.sm p8) (KOK.cons Try.call9 (SmOK.sm p9) (KOK.cons Try.call10 (SmOK.sm p10) (KOK.cons Try.call11 (SmOK.sm p11) (KOK.cons Try.call12 (SmOK.sm p12) (KOK.cons Try.call13 (SmOK.sm p13) (KOK.cons Try.call14 (SmOK.sm p14) (KOK.cons Try.call15 (SmOK.sm p15) KOK.nil)))))))))
noncomputable def C3 : Cx := CxL Try.Θl kn3 (lOf [])
theorem CxOK3 : CxOK Try.prog C3 := ⟨Try.tabOKl, knOK3, by kernel_rfl, POK.none⟩
theorem LOK3 : LOK Try.prog C3 0 (bodyF Try.f3) := (Lall.LOK rfl (by kernel_rfl) trivial)
noncomputable def E3 : (KD6 × KD6 × Unit) → Option Bool := fun x => S3 F7 G7 F8 G8 F9 G9 F10 G10 F11 G11 F12 G12 F13 G13 F14 G14 F15 G15  x.1 x.2.1
noncomputable def F3 : (KD6 × KD6 × Unit) → Bool := fun x => (E3 x).getD (dflt .bool)
noncomputable def G3 : (KD6 × KD6 × Unit) → Bool := fun x => (E3 x).isSome
theorem p3 : ∀ x, G3 x = true → PureOK Try.prog 3 (mkA [KT27, KT27] x) ⟨.bool, F3 x⟩ :=
  PureOK.ofL (ts := [KT27, KT27]) (T := .bool) (S := E3) CxOK3 Try.func3 (LOK.fn LOK3) (fun x => t3 F7 G7 F8 G8 F9 G9 F10 G10 F11 G11 F12 G12 F13 G13 F14 G14 F15 G15  x.1 x.2.1)
end Go.Proofs
