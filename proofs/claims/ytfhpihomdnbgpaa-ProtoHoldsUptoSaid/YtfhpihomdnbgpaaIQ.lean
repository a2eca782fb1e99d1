import Derived.Test.YtfhpihomdnbgpaaBQ
import Derived.Test.YtfhpihomdnbgpaaGd
namespace Go.Proofs.Po
open Go.GX
set_option linter.unusedVariables false
set_option maxRecDepth 100000
noncomputable def kn4 : Kn := kOf [(6, sm [KTq19] .bool F6 G6), (7, sm [(.vsl KTq20)] .bool F7 G7), (8, sm [] .bool F8 G8), (9, sm [KTq19, (.vsl KTq20), (.int .i64)] (.tup KTq19 KTq21) F9 G9)]
theorem knOK4 : KOK Try.prog kn4 := (KOK.cons Try.call6 (SmOK.sm p6) (KOK.cons Try.call7 (SmOK.sm p7) (KOK.cons Try.call8 (SmOK.sm p8) (KOK.cons Try.call9 (SmOK.sm p9) KOK.nil))))
noncomputable def V4_1 : Ye0 → Option (Ye0 ⊕ Ye2) := fun x => R4_1 F6 G6 F7 G7 F8 G8 F9 G9 (fun _ => (Sum.inl ((), (), ([], ([], (0, ([], (0, ()))))), ([], ([], (0, ([], (0, ()))))), ()))) (fun _ => false) (fun _ => (Sum.inl (()))) (fun _ => false) x.1 x.2.1 x.2.2.1 x.2.2.2.1 x.2.2.2.2.1
noncomputable def W4_1 : Ye0 → Ye2 := whV (hd := hd4_1) (ys := ys4_1) V4_1
noncomputable def Q4_1 : Ye0 → Bool := whK (hd := hd4_1) (ys := ys4_1) V4_1
noncomputable def V4_3 : Ye0 → Option (Ye0 ⊕ Ye4) := fun x => R4_3 F6 G6 F7 G7 F8 G8 F9 G9 W4_1 Q4_1 (fun _ => (Sum.inl (()))) (fun _ => false) x.1 x.2.1 x.2.2.1 x.2.2.2.1 x.2.2.2.2.1
noncomputable def W4_3 : Ye0 → Ye4 := whV (hd := hd4_3) (ys := ys4_3) V4_3
noncomputable def Q4_3 : Ye0 → Bool := whK (hd := hd4_3) (ys := ys4_3) V4_3
noncomputable def C4 : Cx := CxL Try.Θ kn4 (lOf [(1, orc 136 26 1 hd4_1 ys4_1 W4_1 Q4_1), (3, orc 136 26 3 hd4_3 ys4_3 W4_3 Q4_3)])
theorem CxOK4 : CxOK Try.prog C4 := ⟨Try.tabOK, knOK4, by kernel_rfl, POK.none⟩
theorem l4_1 : Lone Try.prog C4 1 (.loop (loopB 1 (bodyF Try.f4))) (orc 136 26 1 hd4_1 ys4_1 W4_1 Q4_1) :=
 Lone.of CxOK4 (Lall.LOK rfl (by kernel_rfl) (Lall.skip (by kernel_rfl) (Lall.skip (by kernel_rfl) trivial))) (by kernel_rfl) (fun x => (r4_1 F6 G6 F7 G7 F8 G8 F9 G9 W4_1 Q4_1 W4_3 Q4_3 x.1 x.2.1 x.2.2.1 x.2.2.2.1 x.2.2.2.2.1).trans (by first | (delta V4_1 R4_1; with_reducible rfl) | rfl))
theorem l4_3 : Lone Try.prog C4 3 (.loop (loopB 3 (bodyF Try.f4))) (orc 136 26 3 hd4_3 ys4_3 W4_3 Q4_3) :=
 Lone.of CxOK4 (Lall.LOK rfl (by kernel_rfl) (Lall.skip (by kernel_rfl) (Lall.skip (by kernel_rfl) trivial))) (by kernel_rfl) (fun x => (r4_3 F6 G6 F7 G7 F8 G8 F9 G9 W4_1 Q4_1 W4_3 Q4_3 x.1 x.2.1 x.2.2.1 x.2.2.2.1 x.2.2.2.2.1).trans (by first | (delta V4_3 R4_3; with_reducible rfl) | rfl))
theorem LOK4 : LOK Try.prog C4 0 (bodyF Try.f4) := (Lall.LOK rfl (by kernel_rfl) (Lall.cons (by kernel_rfl) l4_1 (Lall.cons (by kernel_rfl) l4_3 trivial)))
noncomputable def E4 : Ye1 → Option Bool := fun x => S4 F6 G6 F7 G7 F8 G8 F9 G9 W4_1 Q4_1 W4_3 Q4_3 x.1 x.2.1 x.2.2.1
noncomputable def F4 : Ye1 → Bool := fun x => (E4 x).getD (dflt .bool)
noncomputable def G4 : Ye1 → Bool := fun x => (E4 x).isSome
theorem p4 : ∀ x, G4 x = true → PureOK Try.prog 4 (mkA [KTq19, (.vsl KTq20), (.int .i64)] x) ⟨.bool, F4 x⟩ :=
 PureOK.ofS (ts := [KTq19, (.vsl KTq20), (.int .i64)]) (T := .bool) (S := E4) CxOK4 Try.func4 (LOK.fn LOK4) (fun x => t4 F6 G6 F7 G7 F8 G8 F9 G9 W4_1 Q4_1 W4_3 Q4_3 x.1 x.2.1 x.2.2.1)
end Go.Proofs.Po
