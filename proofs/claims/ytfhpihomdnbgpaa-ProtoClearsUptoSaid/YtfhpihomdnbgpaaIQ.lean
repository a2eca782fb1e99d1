import Derived.Test.YtfhpihomdnbgpaaBQ
import Derived.Test.YtfhpihomdnbgpaaGd
namespace Go.Proofs.Po
open Go.GX
set_option linter.unusedVariables false
set_option maxRecDepth 100000
noncomputable def kn3 : Kn := kOf [(6, sm [KTq19] .bool F6 G6), (7, sm [(.vsl KTq20)] .bool F7 G7), (8, sm [] .bool F8 G8), (9, sm [KTq19, (.vsl KTq20), (.int .i64)] (.tup KTq19 KTq21) F9 G9)]
theorem knOK3 : KOK Try.prog kn3 := (KOK.cons Try.call6 (SmOK.sm p6) (KOK.cons Try.call7 (SmOK.sm p7) (KOK.cons Try.call8 (SmOK.sm p8) (KOK.cons Try.call9 (SmOK.sm p9) KOK.nil))))
noncomputable def V3_0 : Ye0 → Option (Ye0 ⊕ Ye2) := fun x => R3_0 F6 G6 F7 G7 F8 G8 F9 G9 (fun _ => (Sum.inl ((), (), ([], ([], (0, ([], (0, ()))))), ([], ([], (0, ([], (0, ()))))), ()))) (fun _ => false) x.1 x.2.1 x.2.2.1 x.2.2.2.1 x.2.2.2.2.1
noncomputable def W3_0 : Ye0 → Ye2 := whV (hd := hd3_0) (ys := ys3_0) V3_0
noncomputable def Q3_0 : Ye0 → Bool := whK (hd := hd3_0) (ys := ys3_0) V3_0
noncomputable def C3 : Cx := CxL Try.Θ kn3 (lOf [(0, orc 87 26 0 hd3_0 ys3_0 W3_0 Q3_0)])
theorem CxOK3 : CxOK Try.prog C3 := ⟨Try.tabOK, knOK3, by kernel_rfl, POK.none⟩
theorem l3_0 : Lone Try.prog C3 0 (.loop (loopB 0 (bodyF Try.f3))) (orc 87 26 0 hd3_0 ys3_0 W3_0 Q3_0) :=
 Lone.of CxOK3 (Lall.LOK rfl (by kernel_rfl) (Lall.skip (by kernel_rfl) trivial)) (by kernel_rfl) (fun x => (r3_0 F6 G6 F7 G7 F8 G8 F9 G9 W3_0 Q3_0 x.1 x.2.1 x.2.2.1 x.2.2.2.1 x.2.2.2.2.1).trans (by first | (delta V3_0 R3_0; with_reducible rfl) | rfl))
theorem LOK3 : LOK Try.prog C3 0 (bodyF Try.f3) := (Lall.LOK rfl (by kernel_rfl) (Lall.cons (by kernel_rfl) l3_0 trivial))
noncomputable def E3 : Ye1 → Option Bool := fun x => S3 F6 G6 F7 G7 F8 G8 F9 G9 W3_0 Q3_0 x.1 x.2.1 x.2.2.1
noncomputable def F3 : Ye1 → Bool := fun x => (E3 x).getD (dflt .bool)
noncomputable def G3 : Ye1 → Bool := fun x => (E3 x).isSome
theorem p3 : ∀ x, G3 x = true → PureOK Try.prog 3 (mkA [KTq19, (.vsl KTq20), (.int .i64)] x) ⟨.bool, F3 x⟩ :=
 PureOK.ofS (ts := [KTq19, (.vsl KTq20), (.int .i64)]) (T := .bool) (S := E3) CxOK3 Try.func3 (LOK.fn LOK3) (fun x => t3 F6 G6 F7 G7 F8 G8 F9 G9 W3_0 Q3_0 x.1 x.2.1 x.2.2.1)
end Go.Proofs.Po
