import Derived.Test.YtfhpihomdnbgpaaBP
import Derived.Test.YtfhpihomdnbgpaaGd
namespace Go.Proofs.Po.Pl
open Go.GX
set_option linter.unusedVariables false
set_option maxRecDepth 100000
noncomputable def kn23 : Kn := kOf [(19, sm [] (.pair KTp1 KTp1) F19 G19), (24, sm [(.pair KTp1 KTp1)] KTp13 F24 G24), (45, sm [KTp12, (.int .i64), (.int .i64), KTp6] (.tup KTp12 KTp14) F45 G45)]
theorem knOK23 : KOK Try.prog kn23 := (KOK.cons Try.call19 (SmOK.sm p19) (KOK.cons Try.call24 (SmOK.sm p24) (KOK.cons Try.call45 (SmOK.sm p45) KOK.nil)))
noncomputable def V23_0 : Yd0 → Option (Yd0 ⊕ Yd2) := fun x => R23_0 F19 G19 F24 G24 F45 G45 (fun _ => ((), (), ([], ([], (0, ([], (0, ()))))), ([], ([], (0, ([], (0, ()))))), ())) (fun _ => false) x.1 x.2.1 x.2.2.1 x.2.2.2.1 x.2.2.2.2.1 x.2.2.2.2.2.1 x.2.2.2.2.2.2.1
noncomputable def W23_0 : Yd0 → Yd2 := whV (hd := hd23_0) (ys := ys23_0) V23_0
noncomputable def Q23_0 : Yd0 → Bool := whK (hd := hd23_0) (ys := ys23_0) V23_0
noncomputable def C23 : Cx := CxL Try.Θ kn23 (lOf [(0, orc 41 27 0 hd23_0 ys23_0 W23_0 Q23_0)])
theorem CxOK23 : CxOK Try.prog C23 := ⟨Try.tabOK, knOK23, by kernel_rfl, POK.none⟩
theorem l23_0 : Lone Try.prog C23 0 (.loop (loopB 0 (bodyF Try.f23))) (orc 41 27 0 hd23_0 ys23_0 W23_0 Q23_0) :=
 Lone.of CxOK23 (Lall.LOK rfl (by kernel_rfl) (Lall.skip (by kernel_rfl) trivial)) (by kernel_rfl) (fun x => (r23_0 F19 G19 F24 G24 F45 G45 W23_0 Q23_0 x.1 x.2.1 x.2.2.1 x.2.2.2.1 x.2.2.2.2.1 x.2.2.2.2.2.1 x.2.2.2.2.2.2.1).trans (by first | (delta V23_0 R23_0; with_reducible rfl) | rfl))
theorem LOK23 : LOK Try.prog C23 0 (bodyF Try.f23) := (Lall.LOK rfl (by kernel_rfl) (Lall.cons (by kernel_rfl) l23_0 trivial))
noncomputable def E23 : Yd3 → Option KDp21 := fun x => S23 F19 G19 F24 G24 F45 G45 W23_0 Q23_0 x.1 x.2.1
noncomputable def F23 : Yd3 → KDp21 := fun x => (E23 x).getD (dflt KTp12)
noncomputable def G23 : Yd3 → Bool := fun x => (E23 x).isSome
theorem p23 : ∀ x, G23 x = true → PureU Try.prog 23 (mkA [KTp12, (.int .i64)] x) ⟨KTp12, F23 x⟩ :=
 PureU.ofS (ts := [KTp12, (.int .i64)]) (T := KTp12) (S := E23) CxOK23 Try.func23 (LOK.fn LOK23) (fun x => t23 F19 G19 F24 G24 F45 G45 W23_0 Q23_0 x.1 x.2.1)
noncomputable def kn9 : Kn := kOf [(16, sm [(.int .i64)] KTp24 F16 G16), (17, smR ODp0 [0] [] (.int .i64) F17 G17), (18, sm [KTp12] KTp12 F18 G18), (19, sm [] (.pair KTp1 KTp1) F19 G19), (20, sm [(.int .u64)] (.pair KTp1 KTp1) F20 G20), (21, sm [(.pair KTp1 KTp1), (.int .i64)] (.pair KTp1 KTp1) F21 G21), (22, sm [KTp12] KTp12 F22 G22), (23, smU [KTp12, (.int .i64)] KTp12 F23 G23), (24, sm [(.pair KTp1 KTp1)] KTp13 F24 G24), (25, sm [(.vsl (.int .i64)), (.int .i64)] .bool F25 G25), (26, sm [KTp12, (.int .i64)] KTp12 F26 G26)]
theorem knOK9 : KOK Try.prog kn9 := (KOK.cons Try.call16 (SmOK.sm p16) (KOK.cons Try.call17 sm17_ok (KOK.cons Try.call18 (SmOK.sm p18) (KOK.cons Try.call19 (SmOK.sm p19) (KOK.cons Try.call20 (SmOK.sm p20) (KOK.cons Try.call21 (SmOK.sm p21) (KOK.cons Try.call22 (SmOK.sm p22) (KOK.cons Try.call23 (SmOK.smU p23) (KOK.cons Try.call24 (SmOK.sm p24) (KOK.cons Try.call25 (SmOK.sm p25) (KOK.cons Try.call26 (SmOK.sm p26) KOK.nil)))))))))))
noncomputable def C9 : Cx := CxL Try.Θ kn9 (lOf [])
theorem CxOK9 : CxOK Try.prog C9 := ⟨Try.tabOK, knOK9, by kernel_rfl, POK.none⟩
theorem LOK9 : LOK Try.prog C9 0 (bodyF Try.f9) := (Lall.LOK rfl (by kernel_rfl) trivial)
noncomputable def E9 : (KDp21 × (List (Int × KDp16)) × Int × Unit) → Option (KDp21 × (Int × Unit)) := fun x => S9 F16 G16 F17 G17 F18 G18 F19 G19 F20 G20 F21 G21 F22 G22 F23 G23 F24 G24 F25 G25 F26 G26  x.1 x.2.1 x.2.2.1
noncomputable def F9 : (KDp21 × (List (Int × KDp16)) × Int × Unit) → (KDp21 × (Int × Unit)) := fun x => (E9 x).getD (dflt (.tup KTp12 KTp14))
noncomputable def G9 : (KDp21 × (List (Int × KDp16)) × Int × Unit) → Bool := fun x => (E9 x).isSome
theorem p9 : ∀ x, G9 x = true → PureOK Try.prog 9 (mkA [KTp12, (.vsl KTp25), (.int .i64)] x) ⟨(.tup KTp12 KTp14), F9 x⟩ :=
 PureOK.ofS (ts := [KTp12, (.vsl KTp25), (.int .i64)]) (T := (.tup KTp12 KTp14)) (S := E9) CxOK9 Try.func9 (LOK.fn LOK9) (fun x => t9 F16 G16 F17 G17 F18 G18 F19 G19 F20 G20 F21 G21 F22 G22 F23 G23 F24 G24 F25 G25 F26 G26  x.1 x.2.1 x.2.2.1)
end Go.Proofs.Po.Pl
