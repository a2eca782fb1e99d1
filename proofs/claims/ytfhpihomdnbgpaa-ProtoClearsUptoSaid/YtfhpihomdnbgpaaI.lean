import Derived.Test.YtfhpihomdnbgpaaB
import Derived.Test.YtfhpihomdnbgpaaGd
namespace Go.Proofs
open Go.GX
set_option linter.unusedVariables false
set_option maxRecDepth 100000
noncomputable def kn62 : Kn := kOf []
theorem knOK62 : KOK Try.prog kn62 := KOK.nil
noncomputable def C62 : Cx := CxL Try.Θ kn62 (lOf [])
theorem CxOK62 : CxOK Try.prog C62 := ⟨Try.tabOK, knOK62, by kernel_rfl, POK.none⟩
theorem LOK62 : LOK Try.prog C62 0 (bodyF Try.f62) := (Lall.LOK rfl (by kernel_rfl) trivial)
noncomputable def E62 : (Ya0 × Unit) → Option Bool := fun x => S62   x.1
noncomputable def F62 : (Ya0 × Unit) → Bool := fun x => (E62 x).getD (dflt .bool)
noncomputable def G62 : (Ya0 × Unit) → Bool := fun x => (E62 x).isSome
theorem p62 : ∀ x, G62 x = true → PureOK Try.prog 62 (mkA [(.pair (.int .u64) KT7)] x) ⟨.bool, F62 x⟩ :=
 PureOK.ofS (ts := [(.pair (.int .u64) KT7)]) (T := .bool) (S := E62) CxOK62 Try.func62 (LOK.fn LOK62) (fun x => t62   x.1)
noncomputable def kn64 : Kn := kOf []
theorem knOK64 : KOK Try.prog kn64 := KOK.nil
noncomputable def V64_0 : Ya17 → Option (Ya17 ⊕ Ya31) := fun x => R64_0  (fun _ => (0, (), 0, (0, (0, ())), ())) (fun _ => false) x.1 x.2.1 x.2.2.1 x.2.2.2.1 x.2.2.2.2.1
noncomputable def W64_0 : Ya17 → Ya31 := whV (hd := hd64_0) (ys := ys64_0) V64_0
noncomputable def Q64_0 : Ya17 → Bool := whK (hd := hd64_0) (ys := ys64_0) V64_0
noncomputable def C64 : Cx := CxL Try.Θ kn64 (lOf [(0, orc 22 25 0 hd64_0 ys64_0 W64_0 Q64_0)])
theorem CxOK64 : CxOK Try.prog C64 := ⟨Try.tabOK, knOK64, by kernel_rfl, POK.none⟩
theorem l64_0 : Lone Try.prog C64 0 (.loop (loopB 0 (bodyF Try.f64))) (orc 22 25 0 hd64_0 ys64_0 W64_0 Q64_0) :=
 Lone.of CxOK64 (Lall.LOK rfl (by kernel_rfl) (Lall.skip (by kernel_rfl) trivial)) (by kernel_rfl) (fun x => (r64_0  W64_0 Q64_0 x.1 x.2.1 x.2.2.1 x.2.2.2.1 x.2.2.2.2.1).trans (by first | (delta V64_0 R64_0; with_reducible rfl) | rfl))
theorem LOK64 : LOK Try.prog C64 0 (bodyF Try.f64) := (Lall.LOK rfl (by kernel_rfl) (Lall.cons (by kernel_rfl) l64_0 trivial))
noncomputable def E64 : Ya5 → Option Ya0 := fun x => S64  W64_0 Q64_0 x.1 x.2.1
noncomputable def F64 : Ya5 → Ya0 := fun x => (E64 x).getD (dflt (.pair (.int .u64) KT7))
noncomputable def G64 : Ya5 → Bool := fun x => (E64 x).isSome
theorem p64 : ∀ x, G64 x = true → PureOK Try.prog 64 (mkA [(.int .u64), (.int .u64)] x) ⟨(.pair (.int .u64) KT7), F64 x⟩ :=
 PureOK.ofS (ts := [(.int .u64), (.int .u64)]) (T := (.pair (.int .u64) KT7)) (S := E64) CxOK64 Try.func64 (LOK.fn LOK64) (fun x => t64  W64_0 Q64_0 x.1 x.2.1)
noncomputable def kn63 : Kn := kOf []
theorem knOK63 : KOK Try.prog kn63 := KOK.nil
noncomputable def C63 : Cx := CxL Try.Θ kn63 (lOf [])
theorem CxOK63 : CxOK Try.prog C63 := ⟨Try.tabOK, knOK63, by kernel_rfl, POK.none⟩
theorem LOK63 : LOK Try.prog C63 0 (bodyF Try.f63) := (Lall.LOK rfl (by kernel_rfl) trivial)
noncomputable def E63 : Ya24 → Option KD18 := fun x => S63   x.1 x.2.1
noncomputable def F63 : Ya24 → KD18 := fun x => (E63 x).getD (dflt KT19)
noncomputable def G63 : Ya24 → Bool := fun x => (E63 x).isSome
theorem p63 : ∀ x, G63 x = true → PureOK Try.prog 63 (mkA [(.pair (.int .u64) KT7), (.pair (.int .u64) KT7)] x) ⟨KT19, F63 x⟩ :=
 PureOK.ofS (ts := [(.pair (.int .u64) KT7), (.pair (.int .u64) KT7)]) (T := KT19) (S := E63) CxOK63 Try.func63 (LOK.fn LOK63) (fun x => t63   x.1 x.2.1)
noncomputable def kn49 : Kn := kOf [(62, sm [(.pair (.int .u64) KT7)] .bool F62 G62), (63, sm [(.pair (.int .u64) KT7), (.pair (.int .u64) KT7)] KT19 F63 G63), (64, sm [(.int .u64), (.int .u64)] (.pair (.int .u64) KT7) F64 G64)]
theorem knOK49 : KOK Try.prog kn49 := (KOK.cons Try.call62 (SmOK.sm p62) (KOK.cons Try.call63 (SmOK.sm p63) (KOK.cons Try.call64 (SmOK.sm p64) KOK.nil)))
noncomputable def V49_0 : Ya15 → Option (Ya15 ⊕ Ya20) := fun x => R49_0 F62 G62 F63 G63 F64 G64 (fun _ => (Sum.inl ((), (), ((0, (0, ())), (0, (0, ()))), ((0, (0, ())), (0, (0, ()))), ()))) (fun _ => false) x.1 x.2.1 x.2.2.1 x.2.2.2.1 x.2.2.2.2.1
noncomputable def W49_0 : Ya15 → Ya20 := whV (hd := hd49_0) (ys := ys49_0) V49_0
noncomputable def Q49_0 : Ya15 → Bool := whK (hd := hd49_0) (ys := ys49_0) V49_0
noncomputable def C49 : Cx := CxL Try.Θ kn49 (lOf [(0, orc 57 26 0 hd49_0 ys49_0 W49_0 Q49_0)])
theorem CxOK49 : CxOK Try.prog C49 := ⟨Try.tabOK, knOK49, by kernel_rfl, POK.none⟩
theorem l49_0 : Lone Try.prog C49 0 (.loop (loopB 0 (bodyF Try.f49))) (orc 57 26 0 hd49_0 ys49_0 W49_0 Q49_0) :=
 Lone.of CxOK49 (Lall.LOK rfl (by kernel_rfl) (Lall.skip (by kernel_rfl) trivial)) (by kernel_rfl) (fun x => (r49_0 F62 G62 F63 G63 F64 G64 W49_0 Q49_0 x.1 x.2.1 x.2.2.1 x.2.2.2.1 x.2.2.2.2.1).trans (by first | (delta V49_0 R49_0; with_reducible rfl) | rfl))
theorem LOK49 : LOK Try.prog C49 0 (bodyF Try.f49) := (Lall.LOK rfl (by kernel_rfl) (Lall.cons (by kernel_rfl) l49_0 trivial))
noncomputable def E49 : (KD0 × Unit) → Option Ya35 := fun x => S49 F62 G62 F63 G63 F64 G64 W49_0 Q49_0 x.1
noncomputable def F49 : (KD0 × Unit) → Ya35 := fun x => (E49 x).getD (dflt KT20)
noncomputable def G49 : (KD0 × Unit) → Bool := fun x => (E49 x).isSome
theorem p49 : ∀ x, G49 x = true → PureOK Try.prog 49 (mkA [KT8] x) ⟨KT20, F49 x⟩ :=
 PureOK.ofS (ts := [KT8]) (T := KT20) (S := E49) CxOK49 Try.func49 (LOK.fn LOK49) (fun x => t49 F62 G62 F63 G63 F64 G64 W49_0 Q49_0 x.1)
noncomputable def kn27 : Kn := kOf [(49, sm [KT8] KT20 F49 G49)]
theorem knOK27 : KOK Try.prog kn27 := (KOK.cons Try.call49 (SmOK.sm p49) KOK.nil)
noncomputable def C27 : Cx := CxL Try.Θ kn27 (lOf [])
theorem CxOK27 : CxOK Try.prog C27 := ⟨Try.tabOK, knOK27, by kernel_rfl, POK.none⟩
theorem LOK27 : LOK Try.prog C27 0 (bodyF Try.f27) := (Lall.LOK rfl (by kernel_rfl) trivial)
noncomputable def E27 : (KD0 × Unit) → Option Bool := fun x => S27 F49 G49  x.1
noncomputable def F27 : (KD0 × Unit) → Bool := fun x => (E27 x).getD (dflt .bool)
noncomputable def G27 : (KD0 × Unit) → Bool := fun x => (E27 x).isSome
theorem p27 : ∀ x, G27 x = true → PureOK Try.prog 27 (mkA [KT8] x) ⟨.bool, F27 x⟩ :=
 PureOK.ofS (ts := [KT8]) (T := .bool) (S := E27) CxOK27 Try.func27 (LOK.fn LOK27) (fun x => t27 F49 G49  x.1)
noncomputable def kn12 : Kn := kOf [(27, sm [KT8] .bool F27 G27)]
theorem knOK12 : KOK Try.prog kn12 := (KOK.cons Try.call27 (SmOK.sm p27) KOK.nil)
noncomputable def C12 : Cx := CxL Try.Θ kn12 (lOf [])
theorem CxOK12 : CxOK Try.prog C12 := ⟨Try.tabOK, knOK12, by kernel_rfl, POK.none⟩
theorem LOK12 : LOK Try.prog C12 0 (bodyF Try.f12) := (Lall.LOK rfl (by kernel_rfl) trivial)
noncomputable def E12 : (Ya3 × Unit) → Option Bool := fun x => S12 F27 G27  x.1
noncomputable def F12 : (Ya3 × Unit) → Bool := fun x => (E12 x).getD (dflt .bool)
noncomputable def G12 : (Ya3 × Unit) → Bool := fun x => (E12 x).isSome
theorem p12 : ∀ x, G12 x = true → PureOK Try.prog 12 (mkA [KT11] x) ⟨.bool, F12 x⟩ :=
 PureOK.ofS (ts := [KT11]) (T := .bool) (S := E12) CxOK12 Try.func12 (LOK.fn LOK12) (fun x => t12 F27 G27  x.1)
noncomputable def kn6 : Kn := kOf [(12, sm [KT11] .bool F12 G12)]
theorem knOK6 : KOK Try.prog kn6 := (KOK.cons Try.call12 (SmOK.sm p12) KOK.nil)
noncomputable def V6_0 : Ya1 → Option (Ya1 ⊕ Ya4) := fun x => R6_0 F12 G12 (fun _ => (Sum.inl ((), ([], ([], (0, ([], (0, ()))))), ()))) (fun _ => false) (fun _ => (Sum.inl ((), ([], ([], (0, ([], (0, ()))))), ()))) (fun _ => false) (fun _ => (Sum.inl ((), 0, ([], ([], (0, ([], (0, ()))))), ()))) (fun _ => false) (fun _ => (Sum.inl ((), ([], ([], (0, ([], (0, ()))))), ()))) (fun _ => false) x.1 x.2.1 x.2.2.1
noncomputable def W6_0 : Ya1 → Ya4 := whV (hd := hd6_0) (ys := ys6_0) V6_0
noncomputable def Q6_0 : Ya1 → Bool := whK (hd := hd6_0) (ys := ys6_0) V6_0
noncomputable def V6_2 : Ya1 → Option (Ya1 ⊕ Ya4) := fun x => R6_2 F12 G12 W6_0 Q6_0 (fun _ => (Sum.inl ((), ([], ([], (0, ([], (0, ()))))), ()))) (fun _ => false) (fun _ => (Sum.inl ((), 0, ([], ([], (0, ([], (0, ()))))), ()))) (fun _ => false) (fun _ => (Sum.inl ((), ([], ([], (0, ([], (0, ()))))), ()))) (fun _ => false) x.1 x.2.1 x.2.2.1
noncomputable def W6_2 : Ya1 → Ya4 := whV (hd := hd6_2) (ys := ys6_2) V6_2
noncomputable def Q6_2 : Ya1 → Bool := whK (hd := hd6_2) (ys := ys6_2) V6_2
noncomputable def V6_6 : Ya9 → Option (Ya9 ⊕ Ya28) := fun x => R6_6 F12 G12 W6_0 Q6_0 W6_2 Q6_2 (fun _ => (Sum.inl ((), 0, ([], ([], (0, ([], (0, ()))))), ()))) (fun _ => false) (fun _ => (Sum.inl ((), ([], ([], (0, ([], (0, ()))))), ()))) (fun _ => false) x.1 x.2.1 x.2.2.1 x.2.2.2.1
noncomputable def W6_6 : Ya9 → Ya28 := whV (hd := hd6_6) (ys := ys6_6) V6_6
noncomputable def Q6_6 : Ya9 → Bool := whK (hd := hd6_6) (ys := ys6_6) V6_6
noncomputable def V6_4 : Ya1 → Option (Ya1 ⊕ Ya4) := fun x => R6_4 F12 G12 W6_0 Q6_0 W6_2 Q6_2 W6_6 Q6_6 (fun _ => (Sum.inl ((), ([], ([], (0, ([], (0, ()))))), ()))) (fun _ => false) x.1 x.2.1 x.2.2.1
noncomputable def W6_4 : Ya1 → Ya4 := whV (hd := hd6_4) (ys := ys6_4) V6_4
noncomputable def Q6_4 : Ya1 → Bool := whK (hd := hd6_4) (ys := ys6_4) V6_4
noncomputable def C6 : Cx := CxL Try.Θ kn6 (lOf [(0, orc 142 25 0 hd6_0 ys6_0 W6_0 Q6_0), (2, orc 142 49 2 hd6_2 ys6_2 W6_2 Q6_2), (6, orc 142 97 6 hd6_6 ys6_6 W6_6 Q6_6), (4, orc 142 73 4 hd6_4 ys6_4 W6_4 Q6_4)])
theorem CxOK6 : CxOK Try.prog C6 := ⟨Try.tabOK, knOK6, by kernel_rfl, POK.none⟩
theorem l6_0 : Lone Try.prog C6 0 (.loop (loopB 0 (bodyF Try.f6))) (orc 142 25 0 hd6_0 ys6_0 W6_0 Q6_0) :=
 Lone.of CxOK6 (Lall.LOK rfl (by kernel_rfl) (Lall.skip (by kernel_rfl) (Lall.skip (by kernel_rfl) (Lall.skip (by kernel_rfl) (Lall.skip (by kernel_rfl) trivial))))) (by kernel_rfl) (fun x => (r6_0 F12 G12 W6_0 Q6_0 W6_2 Q6_2 W6_6 Q6_6 W6_4 Q6_4 x.1 x.2.1 x.2.2.1).trans (by first | (delta V6_0 R6_0; with_reducible rfl) | rfl))
theorem l6_2 : Lone Try.prog C6 2 (.loop (loopB 2 (bodyF Try.f6))) (orc 142 49 2 hd6_2 ys6_2 W6_2 Q6_2) :=
 Lone.of CxOK6 (Lall.LOK rfl (by kernel_rfl) (Lall.skip (by kernel_rfl) (Lall.skip (by kernel_rfl) (Lall.skip (by kernel_rfl) (Lall.skip (by kernel_rfl) trivial))))) (by kernel_rfl) (fun x => (r6_2 F12 G12 W6_0 Q6_0 W6_2 Q6_2 W6_6 Q6_6 W6_4 Q6_4 x.1 x.2.1 x.2.2.1).trans (by first | (delta V6_2 R6_2; with_reducible rfl) | rfl))
theorem l6_6 : Lone Try.prog C6 6 (.loop (loopB 6 (bodyF Try.f6))) (orc 142 97 6 hd6_6 ys6_6 W6_6 Q6_6) :=
 Lone.of CxOK6 (Lall.LOK rfl (by kernel_rfl) (Lall.skip (by kernel_rfl) (Lall.skip (by kernel_rfl) (Lall.skip (by kernel_rfl) (Lall.skip (by kernel_rfl) trivial))))) (by kernel_rfl) (fun x => (r6_6 F12 G12 W6_0 Q6_0 W6_2 Q6_2 W6_6 Q6_6 W6_4 Q6_4 x.1 x.2.1 x.2.2.1 x.2.2.2.1).trans (by first | (delta V6_6 R6_6; with_reducible rfl) | rfl))
theorem l6_4 : Lone Try.prog C6 4 (.loop (loopB 4 (bodyF Try.f6))) (orc 142 73 4 hd6_4 ys6_4 W6_4 Q6_4) :=
 Lone.of CxOK6 (Lall.LOK rfl (by kernel_rfl) (Lall.skip (by kernel_rfl) (Lall.skip (by kernel_rfl) (Lall.cons (by kernel_rfl) l6_6 (Lall.skip (by kernel_rfl) trivial))))) (by kernel_rfl) (fun x => (r6_4 F12 G12 W6_0 Q6_0 W6_2 Q6_2 W6_6 Q6_6 W6_4 Q6_4 x.1 x.2.1 x.2.2.1).trans (by first | (delta V6_4 R6_4; with_reducible rfl) | rfl))
theorem LOK6 : LOK Try.prog C6 0 (bodyF Try.f6) := (Lall.LOK rfl (by kernel_rfl) (Lall.cons (by kernel_rfl) l6_0 (Lall.cons (by kernel_rfl) l6_2 (Lall.cons (by kernel_rfl) l6_6 (Lall.cons (by kernel_rfl) l6_4 trivial)))))
noncomputable def E6 : (KD6 × Unit) → Option Bool := fun x => S6 F12 G12 W6_0 Q6_0 W6_2 Q6_2 W6_6 Q6_6 W6_4 Q6_4 x.1
noncomputable def F6 : (KD6 × Unit) → Bool := fun x => (E6 x).getD (dflt .bool)
noncomputable def G6 : (KD6 × Unit) → Bool := fun x => (E6 x).isSome
theorem p6 : ∀ x, G6 x = true → PureOK Try.prog 6 (mkA [KT17] x) ⟨.bool, F6 x⟩ :=
 PureOK.ofS (ts := [KT17]) (T := .bool) (S := E6) CxOK6 Try.func6 (LOK.fn LOK6) (fun x => t6 F12 G12 W6_0 Q6_0 W6_2 Q6_2 W6_6 Q6_6 W6_4 Q6_4 x.1)
noncomputable def kn50 : Kn := kOf []
theorem knOK50 : KOK Try.prog kn50 := KOK.nil
noncomputable def C50 : Cx := CxL Try.Θ kn50 (lOf [])
theorem CxOK50 : CxOK Try.prog C50 := ⟨Try.tabOK, knOK50, by kernel_rfl, POK.none⟩
theorem LOK50 : LOK Try.prog C50 0 (bodyF Try.f50) := (Lall.LOK rfl (by kernel_rfl) trivial)
noncomputable def E50 : (Int × Unit) → Option Int := fun x => S50   x.1
noncomputable def F50 : (Int × Unit) → Int := fun x => (E50 x).getD (dflt (.int .i64))
noncomputable def G50 : (Int × Unit) → Bool := fun x => (E50 x).isSome
theorem p50 : ∀ x, G50 x = true → PureOK Try.prog 50 (mkA [(.int .i64)] x) ⟨(.int .i64), F50 x⟩ :=
 PureOK.ofS (ts := [(.int .i64)]) (T := (.int .i64)) (S := E50) CxOK50 Try.func50 (LOK.fn LOK50) (fun x => t50   x.1)
noncomputable def kn28 : Kn := kOf [(50, sm [(.int .i64)] (.int .i64) F50 G50)]
theorem knOK28 : KOK Try.prog kn28 := (KOK.cons Try.call50 (SmOK.sm p50) KOK.nil)
noncomputable def C28 : Cx := CxL Try.Θ kn28 (lOf [])
theorem CxOK28 : CxOK Try.prog C28 := ⟨Try.tabOK, knOK28, by kernel_rfl, POK.none⟩
theorem LOK28 : LOK Try.prog C28 0 (bodyF Try.f28) := (Lall.LOK rfl (by kernel_rfl) trivial)
noncomputable def E28 : ((Int × KD1) × Int × Unit) → Option Bool := fun x => S28 F50 G50  x.1 x.2.1
noncomputable def F28 : ((Int × KD1) × Int × Unit) → Bool := fun x => (E28 x).getD (dflt .bool)
noncomputable def G28 : ((Int × KD1) × Int × Unit) → Bool := fun x => (E28 x).isSome
theorem p28 : ∀ x, G28 x = true → PureOK Try.prog 28 (mkA [KT21, (.int .i64)] x) ⟨.bool, F28 x⟩ :=
 PureOK.ofS (ts := [KT21, (.int .i64)]) (T := .bool) (S := E28) CxOK28 Try.func28 (LOK.fn LOK28) (fun x => t28 F50 G50  x.1 x.2.1)
noncomputable def kn29 : Kn := kOf []
theorem knOK29 : KOK Try.prog kn29 := KOK.nil
noncomputable def C29 : Cx := CxL Try.Θ kn29 (lOf [])
theorem CxOK29 : CxOK Try.prog C29 := ⟨Try.tabOK, knOK29, by kernel_rfl, POK.none⟩
theorem LOK29 : LOK Try.prog C29 0 (bodyF Try.f29) := (Lall.LOK rfl (by kernel_rfl) trivial)
noncomputable def E29 : Ya8 → Option Bool := fun x => S29   x.1
noncomputable def F29 : Ya8 → Bool := fun x => (E29 x).getD (dflt .bool)
noncomputable def G29 : Ya8 → Bool := fun x => (E29 x).isSome
theorem p29 : ∀ x, G29 x = true → PureOK Try.prog 29 (mkA [KT21] x) ⟨.bool, F29 x⟩ :=
 PureOK.ofS (ts := [KT21]) (T := .bool) (S := E29) CxOK29 Try.func29 (LOK.fn LOK29) (fun x => t29   x.1)
noncomputable def kn30 : Kn := kOf []
theorem knOK30 : KOK Try.prog kn30 := KOK.nil
noncomputable def C30 : Cx := CxL Try.Θ kn30 (lOf [])
theorem CxOK30 : CxOK Try.prog C30 := ⟨Try.tabOK, knOK30, by kernel_rfl, POK.none⟩
theorem LOK30 : LOK Try.prog C30 0 (bodyF Try.f30) := (Lall.LOK rfl (by kernel_rfl) trivial)
noncomputable def E30 : Ya8 → Option Bool := fun x => S30   x.1
noncomputable def F30 : Ya8 → Bool := fun x => (E30 x).getD (dflt .bool)
noncomputable def G30 : Ya8 → Bool := fun x => (E30 x).isSome
theorem p30 : ∀ x, G30 x = true → PureOK Try.prog 30 (mkA [KT21] x) ⟨.bool, F30 x⟩ :=
 PureOK.ofS (ts := [KT21]) (T := .bool) (S := E30) CxOK30 Try.func30 (LOK.fn LOK30) (fun x => t30   x.1)
noncomputable def kn31 : Kn := kOf []
theorem knOK31 : KOK Try.prog kn31 := KOK.nil
noncomputable def C31 : Cx := CxL Try.Θ kn31 (lOf [])
theorem CxOK31 : CxOK Try.prog C31 := ⟨Try.tabOK, knOK31, by kernel_rfl, POK.none⟩
theorem LOK31 : LOK Try.prog C31 0 (bodyF Try.f31) := (Lall.LOK rfl (by kernel_rfl) trivial)
noncomputable def E31 : Ya8 → Option Bool := fun x => S31   x.1
noncomputable def F31 : Ya8 → Bool := fun x => (E31 x).getD (dflt .bool)
noncomputable def G31 : Ya8 → Bool := fun x => (E31 x).isSome
theorem p31 : ∀ x, G31 x = true → PureOK Try.prog 31 (mkA [KT21] x) ⟨.bool, F31 x⟩ :=
 PureOK.ofS (ts := [KT21]) (T := .bool) (S := E31) CxOK31 Try.func31 (LOK.fn LOK31) (fun x => t31   x.1)
noncomputable def kn32 : Kn := kOf []
theorem knOK32 : KOK Try.prog kn32 := KOK.nil
noncomputable def C32 : Cx := CxL Try.Θ kn32 (lOf [])
theorem CxOK32 : CxOK Try.prog C32 := ⟨Try.tabOK, knOK32, by kernel_rfl, POK.none⟩
theorem LOK32 : LOK Try.prog C32 0 (bodyF Try.f32) := (Lall.LOK rfl (by kernel_rfl) trivial)
noncomputable def E32 : Ya8 → Option Bool := fun x => S32   x.1
noncomputable def F32 : Ya8 → Bool := fun x => (E32 x).getD (dflt .bool)
noncomputable def G32 : Ya8 → Bool := fun x => (E32 x).isSome
theorem p32 : ∀ x, G32 x = true → PureOK Try.prog 32 (mkA [KT21] x) ⟨.bool, F32 x⟩ :=
 PureOK.ofS (ts := [KT21]) (T := .bool) (S := E32) CxOK32 Try.func32 (LOK.fn LOK32) (fun x => t32   x.1)
noncomputable def kn33 : Kn := kOf []
theorem knOK33 : KOK Try.prog kn33 := KOK.nil
noncomputable def C33 : Cx := CxL Try.Θ kn33 (lOf [])
theorem CxOK33 : CxOK Try.prog C33 := ⟨Try.tabOK, knOK33, by kernel_rfl, POK.none⟩
theorem LOK33 : LOK Try.prog C33 0 (bodyF Try.f33) := (Lall.LOK rfl (by kernel_rfl) trivial)
noncomputable def E33 : Ya8 → Option Bool := fun x => S33   x.1
noncomputable def F33 : Ya8 → Bool := fun x => (E33 x).getD (dflt .bool)
noncomputable def G33 : Ya8 → Bool := fun x => (E33 x).isSome
theorem p33 : ∀ x, G33 x = true → PureOK Try.prog 33 (mkA [KT21] x) ⟨.bool, F33 x⟩ :=
 PureOK.ofS (ts := [KT21]) (T := .bool) (S := E33) CxOK33 Try.func33 (LOK.fn LOK33) (fun x => t33   x.1)
noncomputable def kn13 : Kn := kOf [(28, sm [KT21, (.int .i64)] .bool F28 G28), (29, sm [KT21] .bool F29 G29), (30, sm [KT21] .bool F30 G30), (31, sm [KT21] .bool F31 G31), (32, sm [KT21] .bool F32 G32), (33, sm [KT21] .bool F33 G33)]
theorem knOK13 : KOK Try.prog kn13 := (KOK.cons Try.call28 (SmOK.sm p28) (KOK.cons Try.call29 (SmOK.sm p29) (KOK.cons Try.call30 (SmOK.sm p30) (KOK.cons Try.call31 (SmOK.sm p31) (KOK.cons Try.call32 (SmOK.sm p32) (KOK.cons Try.call33 (SmOK.sm p33) KOK.nil))))))
noncomputable def C13 : Cx := CxL Try.Θ kn13 (lOf [])
theorem CxOK13 : CxOK Try.prog C13 := ⟨Try.tabOK, knOK13, by kernel_rfl, POK.none⟩
theorem LOK13 : LOK Try.prog C13 0 (bodyF Try.f13) := (Lall.LOK rfl (by kernel_rfl) trivial)
noncomputable def E13 : Ya8 → Option Int := fun x => S13 F28 G28 F29 G29 F30 G30 F31 G31 F32 G32 F33 G33  x.1
noncomputable def F13 : Ya8 → Int := fun x => (E13 x).getD (dflt (.int .i64))
noncomputable def G13 : Ya8 → Bool := fun x => (E13 x).isSome
theorem p13 : ∀ x, G13 x = true → PureOK Try.prog 13 (mkA [KT21] x) ⟨(.int .i64), F13 x⟩ :=
 PureOK.ofS (ts := [KT21]) (T := (.int .i64)) (S := E13) CxOK13 Try.func13 (LOK.fn LOK13) (fun x => t13 F28 G28 F29 G29 F30 G30 F31 G31 F32 G32 F33 G33  x.1)
noncomputable def kn7 : Kn := kOf [(13, sm [KT21] (.int .i64) F13 G13)]
theorem knOK7 : KOK Try.prog kn7 := (KOK.cons Try.call13 (SmOK.sm p13) KOK.nil)
noncomputable def V7_0 : Ya30 → Option (Ya30 ⊕ ((Unit) ⊕ (Bool × Unit))) := fun x => R7_0 F13 G13 (fun _ => (Sum.inl (()))) (fun _ => false) x.1 x.2.1
noncomputable def W7_0 : Ya30 → ((Unit) ⊕ (Bool × Unit)) := whV (hd := hd7_0) (ys := ys7_0) V7_0
noncomputable def Q7_0 : Ya30 → Bool := whK (hd := hd7_0) (ys := ys7_0) V7_0
noncomputable def C7 : Cx := CxL Try.Θ kn7 (lOf [(0, orc 16 24 0 hd7_0 ys7_0 W7_0 Q7_0)])
theorem CxOK7 : CxOK Try.prog C7 := ⟨Try.tabOK, knOK7, by kernel_rfl, POK.none⟩
theorem l7_0 : Lone Try.prog C7 0 (.loop (loopB 0 (bodyF Try.f7))) (orc 16 24 0 hd7_0 ys7_0 W7_0 Q7_0) :=
 Lone.of CxOK7 (Lall.LOK rfl (by kernel_rfl) (Lall.skip (by kernel_rfl) trivial)) (by kernel_rfl) (fun x => (r7_0 F13 G13 W7_0 Q7_0 x.1 x.2.1).trans (by first | (delta V7_0 R7_0; with_reducible rfl) | rfl))
theorem LOK7 : LOK Try.prog C7 0 (bodyF Try.f7) := (Lall.LOK rfl (by kernel_rfl) (Lall.cons (by kernel_rfl) l7_0 trivial))
noncomputable def E7 : (Ya14 × Unit) → Option Bool := fun x => S7 F13 G13 W7_0 Q7_0 x.1
noncomputable def F7 : (Ya14 × Unit) → Bool := fun x => (E7 x).getD (dflt .bool)
noncomputable def G7 : (Ya14 × Unit) → Bool := fun x => (E7 x).isSome
theorem p7 : ∀ x, G7 x = true → PureOK Try.prog 7 (mkA [(.vsl KT21)] x) ⟨.bool, F7 x⟩ :=
 PureOK.ofS (ts := [(.vsl KT21)]) (T := .bool) (S := E7) CxOK7 Try.func7 (LOK.fn LOK7) (fun x => t7 F13 G13 W7_0 Q7_0 x.1)
noncomputable def kn36 : Kn := kOf []
theorem knOK36 : KOK Try.prog kn36 := KOK.nil
noncomputable def C36 : Cx := CxL Try.Θ kn36 (lOf [])
theorem CxOK36 : CxOK Try.prog C36 := ⟨Try.tabOK, knOK36, by kernel_rfl, POK.none⟩
theorem LOK36 : LOK Try.prog C36 0 (bodyF Try.f36) := (Lall.LOK rfl (by kernel_rfl) trivial)
noncomputable def E36 : Ya33 → Option Ya34 := fun x => S36   x.1 x.2.1
noncomputable def F36 : Ya33 → Ya34 := fun x => (E36 x).getD (dflt KT25)
noncomputable def G36 : Ya33 → Bool := fun x => (E36 x).isSome
theorem p36 : ∀ x, G36 x = true → PureOK Try.prog 36 (mkA [(.vsl (.int .i64)), (.vsl (.int .i64))] x) ⟨KT25, F36 x⟩ :=
 PureOK.ofS (ts := [(.vsl (.int .i64)), (.vsl (.int .i64))]) (T := KT25) (S := E36) CxOK36 Try.func36 (LOK.fn LOK36) (fun x => t36   x.1 x.2.1)
noncomputable def kn16 : Kn := kOf [(36, sm [(.vsl (.int .i64)), (.vsl (.int .i64))] KT25 F36 G36)]
theorem knOK16 : KOK Try.prog kn16 := (KOK.cons Try.call36 (SmOK.sm p36) KOK.nil)
noncomputable def C16 : Cx := CxL Try.Θ kn16 (lOf [])
theorem CxOK16 : CxOK Try.prog C16 := ⟨Try.tabOK, knOK16, by kernel_rfl, POK.none⟩
theorem LOK16 : LOK Try.prog C16 0 (bodyF Try.f16) := (Lall.LOK rfl (by kernel_rfl) trivial)
noncomputable def E16 : (Int × Unit) → Option Ya34 := fun x => S16 F36 G36  x.1
noncomputable def F16 : (Int × Unit) → Ya34 := fun x => (E16 x).getD (dflt KT25)
noncomputable def G16 : (Int × Unit) → Bool := fun x => (E16 x).isSome
theorem p16 : ∀ x, G16 x = true → PureOK Try.prog 16 (mkA [(.int .i64)] x) ⟨KT25, F16 x⟩ :=
 PureOK.ofS (ts := [(.int .i64)]) (T := KT25) (S := E16) CxOK16 Try.func16 (LOK.fn LOK16) (fun x => t16 F36 G36  x.1)
noncomputable def kn51 : Kn := kOf []
theorem knOK51 : KOK Try.prog kn51 := KOK.nil
noncomputable def C51 : Cx := CxL Try.Θ kn51 (lOf [])
theorem CxOK51 : CxOK Try.prog C51 := ⟨Try.tabOK, knOK51, by kernel_rfl, POK.none⟩
theorem LOK51 : LOK Try.prog C51 0 (bodyF Try.f51) := (Lall.LOK rfl (by kernel_rfl) trivial)
noncomputable def E51 : (KD6 × KD26) → (Ya3 × Unit) → Option KD27 := fun x z => S51   x z.1
noncomputable def F51 : (KD6 × KD26) → (Ya3 × Unit) → KD27 := fun x z => (E51 x z).getD (dflt KT29)
noncomputable def G51 : (KD6 × KD26) → (Ya3 × Unit) → Bool := fun x z => (E51 x z).isSome
theorem sm51_ok : SmOK Try.prog 51 (smR OD0 [0] [KT11] KT29 F51 G51) :=
 SmOK.ofR (D := OD0) (rp := [0]) (n1 := 1) (ts := [KT11]) (T := KT29) (S := E51) CxOK51 Try.func51 (LOK.fn LOK51) (by kernel_rfl) (by kernel_rfl) (by decide) (by decide) (by kernel_rfl) (fun x z => t51   x z.1)
noncomputable def kn46 : Kn := kOf []
theorem knOK46 : KOK Try.prog kn46 := KOK.nil
noncomputable def V46_0 : Ya19 → Option (Ya19 ⊕ Ya25) := fun x => R46_0  (fun _ => (Sum.inl (()))) (fun _ => false) x.1 x.2.1 x.2.2.1 x.2.2.2.1
noncomputable def W46_0 : Ya19 → Ya25 := whV (hd := hd46_0) (ys := ys46_0) V46_0
noncomputable def Q46_0 : Ya19 → Bool := whK (hd := hd46_0) (ys := ys46_0) V46_0
noncomputable def C46 : Cx := CxL Try.Θ kn46 (lOf [(0, orc 19 24 0 hd46_0 ys46_0 W46_0 Q46_0)])
theorem CxOK46 : CxOK Try.prog C46 := ⟨Try.tabOK, knOK46, by kernel_rfl, POK.none⟩
theorem l46_0 : Lone Try.prog C46 0 (.loop (loopB 0 (bodyF Try.f46))) (orc 19 24 0 hd46_0 ys46_0 W46_0 Q46_0) :=
 Lone.of CxOK46 (Lall.LOK rfl (by kernel_rfl) (Lall.skip (by kernel_rfl) trivial)) (by kernel_rfl) (fun x => (r46_0  W46_0 Q46_0 x.1 x.2.1 x.2.2.1 x.2.2.2.1).trans (by first | (delta V46_0 R46_0; with_reducible rfl) | rfl))
theorem LOK46 : LOK Try.prog C46 0 (bodyF Try.f46) := (Lall.LOK rfl (by kernel_rfl) (Lall.cons (by kernel_rfl) l46_0 trivial))
noncomputable def E46 : Ya21 → Option Int := fun x => S46  W46_0 Q46_0 x.1 x.2.1
noncomputable def F46 : Ya21 → Int := fun x => (E46 x).getD (dflt (.int .i64))
noncomputable def G46 : Ya21 → Bool := fun x => (E46 x).isSome
theorem p46 : ∀ x, G46 x = true → PureOK Try.prog 46 (mkA [(.vsl (.int .i64)), (.int .i64)] x) ⟨(.int .i64), F46 x⟩ :=
 PureOK.ofS (ts := [(.vsl (.int .i64)), (.int .i64)]) (T := (.int .i64)) (S := E46) CxOK46 Try.func46 (LOK.fn LOK46) (fun x => t46  W46_0 Q46_0 x.1 x.2.1)
noncomputable def kn25 : Kn := kOf [(46, sm [(.vsl (.int .i64)), (.int .i64)] (.int .i64) F46 G46)]
theorem knOK25 : KOK Try.prog kn25 := (KOK.cons Try.call46 (SmOK.sm p46) KOK.nil)
noncomputable def C25 : Cx := CxL Try.Θ kn25 (lOf [])
theorem CxOK25 : CxOK Try.prog C25 := ⟨Try.tabOK, knOK25, by kernel_rfl, POK.none⟩
theorem LOK25 : LOK Try.prog C25 0 (bodyF Try.f25) := (Lall.LOK rfl (by kernel_rfl) trivial)
noncomputable def E25 : Ya21 → Option Bool := fun x => S25 F46 G46  x.1 x.2.1
noncomputable def F25 : Ya21 → Bool := fun x => (E25 x).getD (dflt .bool)
noncomputable def G25 : Ya21 → Bool := fun x => (E25 x).isSome
theorem p25 : ∀ x, G25 x = true → PureOK Try.prog 25 (mkA [(.vsl (.int .i64)), (.int .i64)] x) ⟨.bool, F25 x⟩ :=
 PureOK.ofS (ts := [(.vsl (.int .i64)), (.int .i64)]) (T := .bool) (S := E25) CxOK25 Try.func25 (LOK.fn LOK25) (fun x => t25 F46 G46  x.1 x.2.1)
noncomputable def kn57 : Kn := kOf []
theorem knOK57 : KOK Try.prog kn57 := KOK.nil
noncomputable def C57 : Cx := CxL Try.Θ kn57 (lOf [])
theorem CxOK57 : CxOK Try.prog C57 := ⟨Try.tabOK, knOK57, by kernel_rfl, POK.none⟩
theorem LOK57 : LOK Try.prog C57 0 (bodyF Try.f57) := (Lall.LOK rfl (by kernel_rfl) trivial)
noncomputable def E57 : Ya11 → Option (Int ⊕ Unit) := fun x => S57   x.1 x.2.1
noncomputable abbrev V57 : Ya11 → Unit := panV (dflt .tnil) E57
noncomputable abbrev K57 : Ya11 → Bool := panK E57
noncomputable abbrev Q57_0 : Ya11 → Bool := panQ E57 (fun x => x.2.1)
theorem pk57 : POK1 Try.prog 57 (pm [.bool, (.int .i64)] .tnil 108 [(Q57_0, (fun x => x.2.1))] V57 K57) :=
 POK1.pm (ts := [.bool, (.int .i64)]) (T := .tnil) (E := E57) [(fun x => x.2.1)] (fnP_E (ts := [.bool, (.int .i64)]) (T := .tnil) (E := E57) CxOK57 Try.func57 (LOK.fn LOK57) (fun x => t57   x.1 x.2.1))
noncomputable def kn65 : Kn := kOf []
theorem knOK65 : KOK Try.prog kn65 := KOK.nil
noncomputable def C65 : Cx := CxP Try.Θ kn65 (lOf []) (pOf [(57, pm [.bool, (.int .i64)] .tnil 108 [(Q57_0, (fun x => x.2.1))] V57 K57)])
theorem CxOK65 : CxOK Try.prog C65 := ⟨Try.tabOK, knOK65, by kernel_rfl, (POK.cons Try.call57 pk57 POK.nil)⟩
theorem LOK65 : LOK Try.prog C65 0 (bodyF Try.f65) := (Lall.LOK rfl (by kernel_rfl) trivial)
noncomputable def E65 : Ya6 → Option (Int ⊕ Unit) := fun x => S65  V57 K57 Q57_0  x.1 x.2.1 x.2.2.1 x.2.2.2.1
noncomputable abbrev V65 : Ya6 → Unit := panV (dflt .tnil) E65
noncomputable abbrev K65 : Ya6 → Bool := panK E65
noncomputable abbrev Q65_0 : Ya6 → Bool := panQ E65 (fun _ => 62)
noncomputable abbrev Q65_1 : Ya6 → Bool := panQ E65 (fun _ => 61)
theorem pk65 : POK1 Try.prog 65 (pm [KT17, (.vsl KT21), KT11, (.int .i64)] .tnil 108 [(Q65_0, (fun _ => 62)), (Q65_1, (fun _ => 61))] V65 K65) :=
 POK1.pm (ts := [KT17, (.vsl KT21), KT11, (.int .i64)]) (T := .tnil) (E := E65) [(fun _ => 62), (fun _ => 61)] (fnP_E (ts := [KT17, (.vsl KT21), KT11, (.int .i64)]) (T := .tnil) (E := E65) CxOK65 Try.func65 (LOK.fn LOK65) (fun x => t65  V57 K57 Q57_0  x.1 x.2.1 x.2.2.1 x.2.2.2.1))
noncomputable def kn24 : Kn := kOf []
theorem knOK24 : KOK Try.prog kn24 := KOK.nil
noncomputable def C24 : Cx := CxL Try.Θ kn24 (lOf [])
theorem CxOK24 : CxOK Try.prog C24 := ⟨Try.tabOK, knOK24, by kernel_rfl, POK.none⟩
theorem LOK24 : LOK Try.prog C24 0 (bodyF Try.f24) := (Lall.LOK rfl (by kernel_rfl) trivial)
noncomputable def E24 : (KD0 × Unit) → Option Ya32 := fun x => S24   x.1
noncomputable def F24 : (KD0 × Unit) → Ya32 := fun x => (E24 x).getD (dflt KT30)
noncomputable def G24 : (KD0 × Unit) → Bool := fun x => (E24 x).isSome
theorem p24 : ∀ x, G24 x = true → PureOK Try.prog 24 (mkA [KT8] x) ⟨KT30, F24 x⟩ :=
 PureOK.ofS (ts := [KT8]) (T := KT30) (S := E24) CxOK24 Try.func24 (LOK.fn LOK24) (fun x => t24   x.1)
noncomputable def kn66 : Kn := kOf [(24, sm [KT8] KT30 F24 G24)]
theorem knOK66 : KOK Try.prog kn66 := (KOK.cons Try.call24 (SmOK.sm p24) KOK.nil)
noncomputable def C66 : Cx := CxP Try.Θ kn66 (lOf []) (pOf [(57, pm [.bool, (.int .i64)] .tnil 108 [(Q57_0, (fun x => x.2.1))] V57 K57)])
theorem CxOK66 : CxOK Try.prog C66 := ⟨Try.tabOK, knOK66, by kernel_rfl, (POK.cons Try.call57 pk57 POK.nil)⟩
theorem LOK66 : LOK Try.prog C66 0 (bodyF Try.f66) := (Lall.LOK rfl (by kernel_rfl) trivial)
noncomputable def E66 : Ya22 → Option (Int ⊕ Int) := fun x => S66 F24 G24 V57 K57 Q57_0  x.1 x.2.1
noncomputable abbrev V66 : Ya22 → Int := panV (dflt (.int .i64)) E66
noncomputable abbrev K66 : Ya22 → Bool := panK E66
noncomputable abbrev Q66_0 : Ya22 → Bool := panQ E66 (fun x => x.2.1)
theorem pk66 : POK1 Try.prog 66 (pm [KT8, (.int .i64)] (.int .i64) 108 [(Q66_0, (fun x => x.2.1))] V66 K66) :=
 POK1.pm (ts := [KT8, (.int .i64)]) (T := (.int .i64)) (E := E66) [(fun x => x.2.1)] (fnP_E (ts := [KT8, (.int .i64)]) (T := (.int .i64)) (E := E66) CxOK66 Try.func66 (LOK.fn LOK66) (fun x => t66 F24 G24 V57 K57 Q57_0  x.1 x.2.1))
noncomputable def kn67 : Kn := kOf []
theorem knOK67 : KOK Try.prog kn67 := KOK.nil
noncomputable def C67 : Cx := CxP Try.Θ kn67 (lOf []) (pOf [(57, pm [.bool, (.int .i64)] .tnil 108 [(Q57_0, (fun x => x.2.1))] V57 K57)])
theorem CxOK67 : CxOK Try.prog C67 := ⟨Try.tabOK, knOK67, by kernel_rfl, (POK.cons Try.call57 pk57 POK.nil)⟩
theorem LOK67 : LOK Try.prog C67 0 (bodyF Try.f67) := (Lall.LOK rfl (by kernel_rfl) trivial)
noncomputable def E67 : Ya16 → Option (Int ⊕ Unit) := fun x => S67  V57 K57 Q57_0  x.1 x.2.1
noncomputable abbrev V67 : Ya16 → Unit := panV (dflt .tnil) E67
noncomputable abbrev K67 : Ya16 → Bool := panK E67
noncomputable abbrev Q67_0 : Ya16 → Bool := panQ E67 (fun _ => 63)
noncomputable abbrev Q67_1 : Ya16 → Bool := panQ E67 (fun _ => 60)
theorem pk67 : POK1 Try.prog 67 (pm [KT17, (.int .i64)] .tnil 108 [(Q67_0, (fun _ => 63)), (Q67_1, (fun _ => 60))] V67 K67) :=
 POK1.pm (ts := [KT17, (.int .i64)]) (T := .tnil) (E := E67) [(fun _ => 63), (fun _ => 60)] (fnP_E (ts := [KT17, (.int .i64)]) (T := .tnil) (E := E67) CxOK67 Try.func67 (LOK.fn LOK67) (fun x => t67  V57 K57 Q57_0  x.1 x.2.1))
noncomputable def kn52 : Kn := kOf []
theorem knOK52 : KOK Try.prog kn52 := KOK.nil
noncomputable def V52_0 : Ya10 → Option (Ya10 ⊕ Ya18) := fun x => R52_0  V57 K57 Q57_0 V65 K65 Q65_0 Q65_1 V66 K66 Q66_0 V67 K67 Q67_0 Q67_1 (fun _ => (Sum.inl ((), 0, ()))) (fun _ => false) x.1 x.2.1 x.2.2.1 x.2.2.2.1 x.2.2.2.2.1 x.2.2.2.2.2.1 x.2.2.2.2.2.2.1 x.2.2.2.2.2.2.2.1
noncomputable def W52_0 : Ya10 → Ya18 := whV (hd := hd52_0) (ys := ys52_0) V52_0
noncomputable def Q52_0 : Ya10 → Bool := whK (hd := hd52_0) (ys := ys52_0) V52_0
noncomputable def C52 : Cx := CxP Try.Θ kn52 (lOf [(0, orc 52 27 0 hd52_0 ys52_0 W52_0 Q52_0)]) (pOf [(57, pm [.bool, (.int .i64)] .tnil 108 [(Q57_0, (fun x => x.2.1))] V57 K57), (65, pm [KT17, (.vsl KT21), KT11, (.int .i64)] .tnil 108 [(Q65_0, (fun _ => 62)), (Q65_1, (fun _ => 61))] V65 K65), (66, pm [KT8, (.int .i64)] (.int .i64) 108 [(Q66_0, (fun x => x.2.1))] V66 K66), (67, pm [KT17, (.int .i64)] .tnil 108 [(Q67_0, (fun _ => 63)), (Q67_1, (fun _ => 60))] V67 K67)])
theorem CxOK52 : CxOK Try.prog C52 := ⟨Try.tabOK, knOK52, by kernel_rfl, (POK.cons Try.call57 pk57 (POK.cons Try.call65 pk65 (POK.cons Try.call66 pk66 (POK.cons Try.call67 pk67 POK.nil))))⟩
theorem l52_0 [DefL] : Lone Try.prog C52 0 (.loop (loopB 0 (bodyF Try.f52))) (orc 52 27 0 hd52_0 ys52_0 W52_0 Q52_0) 3 :=
 Lone.of CxOK52 (Lall.LOK rfl (by kernel_rfl) (Lall.skip (by kernel_rfl) trivial)) (by kernel_rfl) (fun x => (r52_0  V57 K57 Q57_0 V65 K65 Q65_0 Q65_1 V66 K66 Q66_0 V67 K67 Q67_0 Q67_1 W52_0 Q52_0 x.1 x.2.1 x.2.2.1 x.2.2.2.1 x.2.2.2.2.1 x.2.2.2.2.2.1 x.2.2.2.2.2.2.1 x.2.2.2.2.2.2.2.1).trans (by first | (delta V52_0 R52_0; with_reducible rfl) | rfl))
theorem LOK52 [DefL] : LOK Try.prog C52 3 (restD Try.f52) := (Lall.LOK rfl (by kernel_rfl) (Lall.cons (by kernel_rfl) l52_0 trivial))
noncomputable def E52 : Ya29 → Option Int := fun x => S52  V57 K57 Q57_0 V65 K65 Q65_0 Q65_1 V66 K66 Q66_0 V67 K67 Q67_0 Q67_1 W52_0 Q52_0 x.1 x.2.1 x.2.2.1 x.2.2.2.1 x.2.2.2.2.1
noncomputable def F52 : Ya29 → Int := fun x => (E52 x).getD (dflt (.int .i64))
noncomputable def G52 : Ya29 → Bool := fun x => (E52 x).isSome
theorem p52 : ∀ x, G52 x = true → PureOK Try.prog 52 (mkA [KT17, (.vsl KT21), KT11, (.int .i64), .bool] x) ⟨(.int .i64), F52 x⟩ :=
 PureOK.ofD (ts := [KT17, (.vsl KT21), KT11, (.int .i64), .bool]) (T := (.int .i64)) (S := E52) (kp := 3) CxOK52 Try.func52 Try.func56 Try.call56 df56 (by kernel_rfl) (fun _ => LOK52) (fun x => t52  V57 K57 Q57_0 V65 K65 Q65_0 Q65_1 V66 K66 Q66_0 V67 K67 Q67_0 Q67_1 W52_0 Q52_0 x.1 x.2.1 x.2.2.1 x.2.2.2.1 x.2.2.2.2.1)
noncomputable def kn53 : Kn := kOf [(24, sm [KT8] KT30 F24 G24)]
theorem knOK53 : KOK Try.prog kn53 := (KOK.cons Try.call24 (SmOK.sm p24) KOK.nil)
noncomputable def C53 : Cx := CxL Try.Θ kn53 (lOf [])
theorem CxOK53 : CxOK Try.prog C53 := ⟨Try.tabOK, knOK53, by kernel_rfl, POK.none⟩
theorem LOK53 : LOK Try.prog C53 0 (bodyF Try.f53) := (Lall.LOK rfl (by kernel_rfl) trivial)
noncomputable def E53 : (Ya3 × Int × Unit) → Option Bool := fun x => S53 F24 G24  x.1 x.2.1
noncomputable def F53 : (Ya3 × Int × Unit) → Bool := fun x => (E53 x).getD (dflt .bool)
noncomputable def G53 : (Ya3 × Int × Unit) → Bool := fun x => (E53 x).isSome
theorem p53 : ∀ x, G53 x = true → PureOK Try.prog 53 (mkA [KT11, (.int .i64)] x) ⟨.bool, F53 x⟩ :=
 PureOK.ofS (ts := [KT11, (.int .i64)]) (T := .bool) (S := E53) CxOK53 Try.func53 (LOK.fn LOK53) (fun x => t53 F24 G24  x.1 x.2.1)
noncomputable def kn37 : Kn := kOf [(24, sm [KT8] KT30 F24 G24), (25, sm [(.vsl (.int .i64)), (.int .i64)] .bool F25 G25), (51, smR OD0 [0] [KT11] KT29 F51 G51), (52, sm [KT17, (.vsl KT21), KT11, (.int .i64), .bool] (.int .i64) F52 G52), (53, sm [KT11, (.int .i64)] .bool F53 G53)]
theorem knOK37 : KOK Try.prog kn37 := (KOK.cons Try.call24 (SmOK.sm p24) (KOK.cons Try.call25 (SmOK.sm p25) (KOK.cons Try.call51 sm51_ok (KOK.cons Try.call52 (SmOK.sm p52) (KOK.cons Try.call53 (SmOK.sm p53) KOK.nil)))))
noncomputable def C37 : Cx := CxL Try.Θ kn37 (lOf [])
theorem CxOK37 : CxOK Try.prog C37 := ⟨Try.tabOK, knOK37, by kernel_rfl, POK.none⟩
theorem LOK37 : LOK Try.prog C37 0 (bodyF Try.f37) := (Lall.LOK rfl (by kernel_rfl) trivial)
noncomputable def E37 : (KD6 × KD26) → Ya5 → Option Int := fun x z => S37 F24 G24 F25 G25 F51 G51 F52 G52 F53 G53  x z.1 z.2.1
noncomputable def F37 : (KD6 × KD26) → Ya5 → Int := fun x z => (E37 x z).getD (dflt (.int .i64))
noncomputable def G37 : (KD6 × KD26) → Ya5 → Bool := fun x z => (E37 x z).isSome
theorem sm37_ok : SmOK Try.prog 37 (smR OD0 [0] [(.int .i64), (.int .i64)] (.int .i64) F37 G37) :=
 SmOK.ofR (D := OD0) (rp := [0]) (n1 := 1) (ts := [(.int .i64), (.int .i64)]) (T := (.int .i64)) (S := E37) CxOK37 Try.func37 (LOK.fn LOK37) (by kernel_rfl) (by kernel_rfl) (by decide) (by decide) (by kernel_rfl) (fun x z => t37 F24 G24 F25 G25 F51 G51 F52 G52 F53 G53  x z.1 z.2.1)
noncomputable def kn17 : Kn := kOf [(37, smR OD0 [0] [(.int .i64), (.int .i64)] (.int .i64) F37 G37)]
theorem knOK17 : KOK Try.prog kn17 := (KOK.cons Try.call37 sm37_ok KOK.nil)
noncomputable def V17_0 : Ya2 → Option (Ya2 ⊕ Ya23) := fun x => R17_0 F37 G37 (fun _ => ((), [], (([], ([], (0, ([], (0, ()))))), ([], (([], ([], ())), ()))), ())) (fun _ => false) (fun _ => (Sum.inl (()))) (fun _ => false) x.1 x.2.1 x.2.2.1 x.2.2.2.1 x.2.2.2.2.1
noncomputable def W17_0 : Ya2 → Ya23 := whV (hd := hd17_0) (ys := ys17_0) V17_0
noncomputable def Q17_0 : Ya2 → Bool := whK (hd := hd17_0) (ys := ys17_0) V17_0
noncomputable def V17_2 : Ya2 → Option (Ya2 ⊕ Ya25) := fun x => R17_2 F37 G37 W17_0 Q17_0 (fun _ => (Sum.inl (()))) (fun _ => false) x.1 x.2.1 x.2.2.1 x.2.2.2.1 x.2.2.2.2.1
noncomputable def W17_2 : Ya2 → Ya25 := whV (hd := hd17_2) (ys := ys17_2) V17_2
noncomputable def Q17_2 : Ya2 → Bool := whK (hd := hd17_2) (ys := ys17_2) V17_2
noncomputable def C17 : Cx := CxL Try.Θ kn17 (lOf [(0, orc 81 26 0 hd17_0 ys17_0 W17_0 Q17_0), (2, orc 81 50 2 hd17_2 ys17_2 W17_2 Q17_2)])
theorem CxOK17 : CxOK Try.prog C17 := ⟨Try.tabOK, knOK17, by kernel_rfl, POK.none⟩
theorem l17_0 : Lone Try.prog C17 0 (.loop (loopB 0 (bodyF Try.f17))) (orc 81 26 0 hd17_0 ys17_0 W17_0 Q17_0) :=
 Lone.of CxOK17 (Lall.LOK rfl (by kernel_rfl) (Lall.skip (by kernel_rfl) (Lall.skip (by kernel_rfl) trivial))) (by kernel_rfl) (fun x => (r17_0 F37 G37 W17_0 Q17_0 W17_2 Q17_2 x.1 x.2.1 x.2.2.1 x.2.2.2.1 x.2.2.2.2.1).trans (by first | (delta V17_0 R17_0; with_reducible rfl) | rfl))
theorem l17_2 : Lone Try.prog C17 2 (.loop (loopB 2 (bodyF Try.f17))) (orc 81 50 2 hd17_2 ys17_2 W17_2 Q17_2) :=
 Lone.of CxOK17 (Lall.LOK rfl (by kernel_rfl) (Lall.skip (by kernel_rfl) (Lall.skip (by kernel_rfl) trivial))) (by kernel_rfl) (fun x => (r17_2 F37 G37 W17_0 Q17_0 W17_2 Q17_2 x.1 x.2.1 x.2.2.1 x.2.2.2.1 x.2.2.2.2.1).trans (by first | (delta V17_2 R17_2; with_reducible rfl) | rfl))
theorem LOK17 : LOK Try.prog C17 0 (bodyF Try.f17) := (Lall.LOK rfl (by kernel_rfl) (Lall.cons (by kernel_rfl) l17_0 (Lall.cons (by kernel_rfl) l17_2 trivial)))
noncomputable def E17 : (KD6 × KD26) → (Unit) → Option Int := fun x z => S17 F37 G37 W17_0 Q17_0 W17_2 Q17_2 x
noncomputable def F17 : (KD6 × KD26) → (Unit) → Int := fun x z => (E17 x z).getD (dflt (.int .i64))
noncomputable def G17 : (KD6 × KD26) → (Unit) → Bool := fun x z => (E17 x z).isSome
theorem sm17_ok : SmOK Try.prog 17 (smR OD0 [0] [] (.int .i64) F17 G17) :=
 SmOK.ofR (D := OD0) (rp := [0]) (n1 := 1) (ts := []) (T := (.int .i64)) (S := E17) CxOK17 Try.func17 (LOK.fn LOK17) (by kernel_rfl) (by kernel_rfl) (by decide) (by decide) (by kernel_rfl) (fun x z => t17 F37 G37 W17_0 Q17_0 W17_2 Q17_2 x )
noncomputable def kn18 : Kn := kOf [(38, sm [(.vsl (.int .i64))] (.vsl (.int .i64)) F38 G38)]
theorem knOK18 : KOK Try.prog kn18 := (KOK.cons Try.call38 (SmOK.sm p38) KOK.nil)
noncomputable def C18 : Cx := CxL Try.Θ kn18 (lOf [])
theorem CxOK18 : CxOK Try.prog C18 := ⟨Try.tabOK, knOK18, by kernel_rfl, POK.none⟩
theorem LOK18 : LOK Try.prog C18 0 (bodyF Try.f18) := (Lall.LOK rfl (by kernel_rfl) trivial)
noncomputable def E18 : (KD6 × Unit) → Option KD6 := fun x => S18 F38 G38  x.1
noncomputable def F18 : (KD6 × Unit) → KD6 := fun x => (E18 x).getD (dflt KT17)
noncomputable def G18 : (KD6 × Unit) → Bool := fun x => (E18 x).isSome
theorem p18 : ∀ x, G18 x = true → PureOK Try.prog 18 (mkA [KT17] x) ⟨KT17, F18 x⟩ :=
 PureOK.ofS (ts := [KT17]) (T := KT17) (S := E18) CxOK18 Try.func18 (LOK.fn LOK18) (fun x => t18 F38 G38  x.1)
noncomputable def kn54 : Kn := kOf []
theorem knOK54 : KOK Try.prog kn54 := KOK.nil
noncomputable def C54 : Cx := CxL Try.Θ kn54 (lOf [])
theorem CxOK54 : CxOK Try.prog C54 := ⟨Try.tabOK, knOK54, by kernel_rfl, POK.none⟩
theorem LOK54 : LOK Try.prog C54 0 (bodyF Try.f54) := (Lall.LOK rfl (by kernel_rfl) trivial)
noncomputable def E54 : Ya5 → Option Ya0 := fun x => S54   x.1 x.2.1
noncomputable def F54 : Ya5 → Ya0 := fun x => (E54 x).getD (dflt (.pair (.int .u64) KT7))
noncomputable def G54 : Ya5 → Bool := fun x => (E54 x).isSome
theorem p54 : ∀ x, G54 x = true → PureOK Try.prog 54 (mkA [(.int .u64), (.int .u64)] x) ⟨(.pair (.int .u64) KT7), F54 x⟩ :=
 PureOK.ofS (ts := [(.int .u64), (.int .u64)]) (T := (.pair (.int .u64) KT7)) (S := E54) CxOK54 Try.func54 (LOK.fn LOK54) (fun x => t54   x.1 x.2.1)
noncomputable def kn39 : Kn := kOf [(54, sm [(.int .u64), (.int .u64)] (.pair (.int .u64) KT7) F54 G54)]
theorem knOK39 : KOK Try.prog kn39 := (KOK.cons Try.call54 (SmOK.sm p54) KOK.nil)
noncomputable def C39 : Cx := CxL Try.Θ kn39 (lOf [])
theorem CxOK39 : CxOK Try.prog C39 := ⟨Try.tabOK, knOK39, by kernel_rfl, POK.none⟩
theorem LOK39 : LOK Try.prog C39 0 (bodyF Try.f39) := (Lall.LOK rfl (by kernel_rfl) trivial)
noncomputable def E39 : (Unit) → Option Ya0 := fun x => S39 F54 G54
noncomputable def F39 : (Unit) → Ya0 := fun x => (E39 x).getD (dflt (.pair (.int .u64) KT7))
noncomputable def G39 : (Unit) → Bool := fun x => (E39 x).isSome
theorem p39 : ∀ x, G39 x = true → PureOK Try.prog 39 (mkA [] x) ⟨(.pair (.int .u64) KT7), F39 x⟩ :=
 PureOK.ofS (ts := []) (T := (.pair (.int .u64) KT7)) (S := E39) CxOK39 Try.func39 (LOK.fn LOK39) (fun x => t39 F54 G54  )
noncomputable def kn19 : Kn := kOf [(39, sm [] (.pair (.int .u64) KT7) F39 G39)]
theorem knOK19 : KOK Try.prog kn19 := (KOK.cons Try.call39 (SmOK.sm p39) KOK.nil)
noncomputable def C19 : Cx := CxL Try.Θ kn19 (lOf [])
theorem CxOK19 : CxOK Try.prog C19 := ⟨Try.tabOK, knOK19, by kernel_rfl, POK.none⟩
theorem LOK19 : LOK Try.prog C19 0 (bodyF Try.f19) := (Lall.LOK rfl (by kernel_rfl) trivial)
noncomputable def E19 : (Unit) → Option KD0 := fun x => S19 F39 G39
noncomputable def F19 : (Unit) → KD0 := fun x => (E19 x).getD (dflt KT8)
noncomputable def G19 : (Unit) → Bool := fun x => (E19 x).isSome
theorem p19 : ∀ x, G19 x = true → PureOK Try.prog 19 (mkA [] x) ⟨KT8, F19 x⟩ :=
 PureOK.ofS (ts := []) (T := KT8) (S := E19) CxOK19 Try.func19 (LOK.fn LOK19) (fun x => t19 F39 G39  )
noncomputable def kn40 : Kn := kOf [(54, sm [(.int .u64), (.int .u64)] (.pair (.int .u64) KT7) F54 G54)]
theorem knOK40 : KOK Try.prog kn40 := (KOK.cons Try.call54 (SmOK.sm p54) KOK.nil)
noncomputable def C40 : Cx := CxL Try.Θ kn40 (lOf [])
theorem CxOK40 : CxOK Try.prog C40 := ⟨Try.tabOK, knOK40, by kernel_rfl, POK.none⟩
theorem LOK40 : LOK Try.prog C40 0 (bodyF Try.f40) := (Lall.LOK rfl (by kernel_rfl) trivial)
noncomputable def E40 : (Int × Unit) → Option Ya0 := fun x => S40 F54 G54  x.1
noncomputable def F40 : (Int × Unit) → Ya0 := fun x => (E40 x).getD (dflt (.pair (.int .u64) KT7))
noncomputable def G40 : (Int × Unit) → Bool := fun x => (E40 x).isSome
theorem p40 : ∀ x, G40 x = true → PureOK Try.prog 40 (mkA [(.int .u64)] x) ⟨(.pair (.int .u64) KT7), F40 x⟩ :=
 PureOK.ofS (ts := [(.int .u64)]) (T := (.pair (.int .u64) KT7)) (S := E40) CxOK40 Try.func40 (LOK.fn LOK40) (fun x => t40 F54 G54  x.1)
noncomputable def kn20 : Kn := kOf [(40, sm [(.int .u64)] (.pair (.int .u64) KT7) F40 G40)]
theorem knOK20 : KOK Try.prog kn20 := (KOK.cons Try.call40 (SmOK.sm p40) KOK.nil)
noncomputable def C20 : Cx := CxL Try.Θ kn20 (lOf [])
theorem CxOK20 : CxOK Try.prog C20 := ⟨Try.tabOK, knOK20, by kernel_rfl, POK.none⟩
theorem LOK20 : LOK Try.prog C20 0 (bodyF Try.f20) := (Lall.LOK rfl (by kernel_rfl) trivial)
noncomputable def E20 : (Int × Unit) → Option KD0 := fun x => S20 F40 G40  x.1
noncomputable def F20 : (Int × Unit) → KD0 := fun x => (E20 x).getD (dflt KT8)
noncomputable def G20 : (Int × Unit) → Bool := fun x => (E20 x).isSome
theorem p20 : ∀ x, G20 x = true → PureOK Try.prog 20 (mkA [(.int .u64)] x) ⟨KT8, F20 x⟩ :=
 PureOK.ofS (ts := [(.int .u64)]) (T := KT8) (S := E20) CxOK20 Try.func20 (LOK.fn LOK20) (fun x => t20 F40 G40  x.1)
noncomputable def kn42 : Kn := kOf []
theorem knOK42 : KOK Try.prog kn42 := KOK.nil
noncomputable def C42 : Cx := CxL Try.Θ kn42 (lOf [])
theorem CxOK42 : CxOK Try.prog C42 := ⟨Try.tabOK, knOK42, by kernel_rfl, POK.none⟩
theorem LOK42 : LOK Try.prog C42 0 (bodyF Try.f42) := (Lall.LOK rfl (by kernel_rfl) trivial)
noncomputable def E42 : (Ya0 × Int × Unit) → Option Ya0 := fun x => S42   x.1 x.2.1
noncomputable def F42 : (Ya0 × Int × Unit) → Ya0 := fun x => (E42 x).getD (dflt (.pair (.int .u64) KT7))
noncomputable def G42 : (Ya0 × Int × Unit) → Bool := fun x => (E42 x).isSome
theorem p42 : ∀ x, G42 x = true → PureOK Try.prog 42 (mkA [(.pair (.int .u64) KT7), (.int .i64)] x) ⟨(.pair (.int .u64) KT7), F42 x⟩ :=
 PureOK.ofS (ts := [(.pair (.int .u64) KT7), (.int .i64)]) (T := (.pair (.int .u64) KT7)) (S := E42) CxOK42 Try.func42 (LOK.fn LOK42) (fun x => t42   x.1 x.2.1)
noncomputable def kn71 : Kn := kOf []
theorem knOK71 : KOK Try.prog kn71 := KOK.nil
noncomputable def C71 : Cx := CxL Try.Θ kn71 (lOf [])
theorem CxOK71 : CxOK Try.prog C71 := ⟨Try.tabOK, knOK71, by kernel_rfl, POK.none⟩
theorem LOK71 : LOK Try.prog C71 0 (bodyF Try.f71) := (Lall.LOK rfl (by kernel_rfl) trivial)
noncomputable def E71 : (Int × Unit) → Option Int := fun x => S71   x.1
noncomputable def F71 : (Int × Unit) → Int := fun x => (E71 x).getD (dflt (.int .i64))
noncomputable def G71 : (Int × Unit) → Bool := fun x => (E71 x).isSome
theorem p71 : ∀ x, G71 x = true → PureOK Try.prog 71 (mkA [(.int .u64)] x) ⟨(.int .i64), F71 x⟩ :=
 PureOK.ofS (ts := [(.int .u64)]) (T := (.int .i64)) (S := E71) CxOK71 Try.func71 (LOK.fn LOK71) (fun x => t71   x.1)
noncomputable def kn69 : Kn := kOf [(54, sm [(.int .u64), (.int .u64)] (.pair (.int .u64) KT7) F54 G54), (71, sm [(.int .u64)] (.int .i64) F71 G71)]
theorem knOK69 : KOK Try.prog kn69 := (KOK.cons Try.call54 (SmOK.sm p54) (KOK.cons Try.call71 (SmOK.sm p71) KOK.nil))
noncomputable def C69 : Cx := CxL Try.Θ kn69 (lOf [])
theorem CxOK69 : CxOK Try.prog C69 := ⟨Try.tabOK, knOK69, by kernel_rfl, POK.none⟩
theorem LOK69 : LOK Try.prog C69 0 (bodyF Try.f69) := (Lall.LOK rfl (by kernel_rfl) trivial)
noncomputable def E69 : Ya5 → Option Ya0 := fun x => S69 F54 G54 F71 G71  x.1 x.2.1
noncomputable def F69 : Ya5 → Ya0 := fun x => (E69 x).getD (dflt (.pair (.int .u64) KT7))
noncomputable def G69 : Ya5 → Bool := fun x => (E69 x).isSome
theorem p69 : ∀ x, G69 x = true → PureOK Try.prog 69 (mkA [(.int .u64), (.int .u64)] x) ⟨(.pair (.int .u64) KT7), F69 x⟩ :=
 PureOK.ofS (ts := [(.int .u64), (.int .u64)]) (T := (.pair (.int .u64) KT7)) (S := E69) CxOK69 Try.func69 (LOK.fn LOK69) (fun x => t69 F54 G54 F71 G71  x.1 x.2.1)
noncomputable def kn68 : Kn := kOf [(54, sm [(.int .u64), (.int .u64)] (.pair (.int .u64) KT7) F54 G54)]
theorem knOK68 : KOK Try.prog kn68 := (KOK.cons Try.call54 (SmOK.sm p54) KOK.nil)
noncomputable def C68 : Cx := CxL Try.Θ kn68 (lOf [])
theorem CxOK68 : CxOK Try.prog C68 := ⟨Try.tabOK, knOK68, by kernel_rfl, POK.none⟩
theorem LOK68 : LOK Try.prog C68 0 (bodyF Try.f68) := (Lall.LOK rfl (by kernel_rfl) trivial)
noncomputable def E68 : Ya24 → Option KD18 := fun x => S68 F54 G54  x.1 x.2.1
noncomputable def F68 : Ya24 → KD18 := fun x => (E68 x).getD (dflt KT19)
noncomputable def G68 : Ya24 → Bool := fun x => (E68 x).isSome
theorem p68 : ∀ x, G68 x = true → PureOK Try.prog 68 (mkA [(.pair (.int .u64) KT7), (.pair (.int .u64) KT7)] x) ⟨KT19, F68 x⟩ :=
 PureOK.ofS (ts := [(.pair (.int .u64) KT7), (.pair (.int .u64) KT7)]) (T := KT19) (S := E68) CxOK68 Try.func68 (LOK.fn LOK68) (fun x => t68 F54 G54  x.1 x.2.1)
noncomputable def kn55 : Kn := kOf [(68, sm [(.pair (.int .u64) KT7), (.pair (.int .u64) KT7)] KT19 F68 G68), (69, sm [(.int .u64), (.int .u64)] (.pair (.int .u64) KT7) F69 G69)]
theorem knOK55 : KOK Try.prog kn55 := (KOK.cons Try.call68 (SmOK.sm p68) (KOK.cons Try.call69 (SmOK.sm p69) KOK.nil))
noncomputable def V55_0 : Ya12 → Option (Ya12 ⊕ Ya27) := fun x => R55_0 F68 G68 F69 G69 (fun _ => ((), (), false, ((0, (0, ())), (0, (0, ()))), ((0, (0, ())), (0, (0, ()))), ())) (fun _ => false) x.1 x.2.1 x.2.2.1 x.2.2.2.1 x.2.2.2.2.1 x.2.2.2.2.2.1
noncomputable def W55_0 : Ya12 → Ya27 := whV (hd := hd55_0) (ys := ys55_0) V55_0
noncomputable def Q55_0 : Ya12 → Bool := whK (hd := hd55_0) (ys := ys55_0) V55_0
noncomputable def C55 : Cx := CxL Try.Θ kn55 (lOf [(0, orc 59 26 0 hd55_0 ys55_0 W55_0 Q55_0)])
theorem CxOK55 : CxOK Try.prog C55 := ⟨Try.tabOK, knOK55, by kernel_rfl, POK.none⟩
theorem l55_0 : Lone Try.prog C55 0 (.loop (loopB 0 (bodyF Try.f55))) (orc 59 26 0 hd55_0 ys55_0 W55_0 Q55_0) :=
 Lone.of CxOK55 (Lall.LOK rfl (by kernel_rfl) (Lall.skip (by kernel_rfl) trivial)) (by kernel_rfl) (fun x => (r55_0 F68 G68 F69 G69 W55_0 Q55_0 x.1 x.2.1 x.2.2.1 x.2.2.2.1 x.2.2.2.2.1 x.2.2.2.2.2.1).trans (by first | (delta V55_0 R55_0; with_reducible rfl) | rfl))
theorem LOK55 : LOK Try.prog C55 0 (bodyF Try.f55) := (Lall.LOK rfl (by kernel_rfl) (Lall.cons (by kernel_rfl) l55_0 trivial))
noncomputable def E55 : (KD0 × Unit) → Option Ya35 := fun x => S55 F68 G68 F69 G69 W55_0 Q55_0 x.1
noncomputable def F55 : (KD0 × Unit) → Ya35 := fun x => (E55 x).getD (dflt KT20)
noncomputable def G55 : (KD0 × Unit) → Bool := fun x => (E55 x).isSome
theorem p55 : ∀ x, G55 x = true → PureOK Try.prog 55 (mkA [KT8] x) ⟨KT20, F55 x⟩ :=
 PureOK.ofS (ts := [KT8]) (T := KT20) (S := E55) CxOK55 Try.func55 (LOK.fn LOK55) (fun x => t55 F68 G68 F69 G69 W55_0 Q55_0 x.1)
noncomputable def kn41 : Kn := kOf [(55, sm [KT8] KT20 F55 G55)]
theorem knOK41 : KOK Try.prog kn41 := (KOK.cons Try.call55 (SmOK.sm p55) KOK.nil)
noncomputable def C41 : Cx := CxL Try.Θ kn41 (lOf [])
theorem CxOK41 : CxOK Try.prog C41 := ⟨Try.tabOK, knOK41, by kernel_rfl, POK.none⟩
theorem LOK41 : LOK Try.prog C41 0 (bodyF Try.f41) := (Lall.LOK rfl (by kernel_rfl) trivial)
noncomputable def E41 : (Ya0 × Int × Int × Unit) → Option KD0 := fun x => S41 F55 G55  x.1 x.2.1 x.2.2.1
noncomputable def F41 : (Ya0 × Int × Int × Unit) → KD0 := fun x => (E41 x).getD (dflt KT8)
noncomputable def G41 : (Ya0 × Int × Int × Unit) → Bool := fun x => (E41 x).isSome
theorem p41 : ∀ x, G41 x = true → PureOK Try.prog 41 (mkA [(.pair (.int .u64) KT7), (.int .u64), (.int .u64)] x) ⟨KT8, F41 x⟩ :=
 PureOK.ofS (ts := [(.pair (.int .u64) KT7), (.int .u64), (.int .u64)]) (T := KT8) (S := E41) CxOK41 Try.func41 (LOK.fn LOK41) (fun x => t41 F55 G55  x.1 x.2.1 x.2.2.1)
noncomputable def kn21 : Kn := kOf [(41, sm [(.pair (.int .u64) KT7), (.int .u64), (.int .u64)] KT8 F41 G41), (42, sm [(.pair (.int .u64) KT7), (.int .i64)] (.pair (.int .u64) KT7) F42 G42)]
theorem knOK21 : KOK Try.prog kn21 := (KOK.cons Try.call41 (SmOK.sm p41) (KOK.cons Try.call42 (SmOK.sm p42) KOK.nil))
noncomputable def C21 : Cx := CxL Try.Θ kn21 (lOf [])
theorem CxOK21 : CxOK Try.prog C21 := ⟨Try.tabOK, knOK21, by kernel_rfl, POK.none⟩
theorem LOK21 : LOK Try.prog C21 0 (bodyF Try.f21) := (Lall.LOK rfl (by kernel_rfl) trivial)
noncomputable def E21 : Ya22 → Option KD0 := fun x => S21 F41 G41 F42 G42  x.1 x.2.1
noncomputable def F21 : Ya22 → KD0 := fun x => (E21 x).getD (dflt KT8)
noncomputable def G21 : Ya22 → Bool := fun x => (E21 x).isSome
theorem p21 : ∀ x, G21 x = true → PureOK Try.prog 21 (mkA [KT8, (.int .i64)] x) ⟨KT8, F21 x⟩ :=
 PureOK.ofS (ts := [KT8, (.int .i64)]) (T := KT8) (S := E21) CxOK21 Try.func21 (LOK.fn LOK21) (fun x => t21 F41 G41 F42 G42  x.1 x.2.1)
noncomputable def kn44 : Kn := kOf []
theorem knOK44 : KOK Try.prog kn44 := KOK.nil
noncomputable def C44 : Cx := CxL Try.Θ kn44 (lOf [])
theorem CxOK44 : CxOK Try.prog C44 := ⟨Try.tabOK, knOK44, by kernel_rfl, POK.none⟩
theorem LOK44 : LOK Try.prog C44 0 (bodyF Try.f44) := (Lall.LOK rfl (by kernel_rfl) trivial)
noncomputable def E44 : (Ya3 × Unit) → Option Ya3 := fun x => S44   x.1
noncomputable def F44 : (Ya3 × Unit) → Ya3 := fun x => (E44 x).getD (dflt KT11)
noncomputable def G44 : (Ya3 × Unit) → Bool := fun x => (E44 x).isSome
theorem p44 : ∀ x, G44 x = true → PureOK Try.prog 44 (mkA [KT11] x) ⟨KT11, F44 x⟩ :=
 PureOK.ofS (ts := [KT11]) (T := KT11) (S := E44) CxOK44 Try.func44 (LOK.fn LOK44) (fun x => t44   x.1)
noncomputable def kn22 : Kn := kOf []
theorem knOK22 : KOK Try.prog kn22 := KOK.nil
noncomputable def C22 : Cx := CxL Try.Θ kn22 (lOf [])
theorem CxOK22 : CxOK Try.prog C22 := ⟨Try.tabOK, knOK22, by kernel_rfl, POK.none⟩
theorem LOK22 : LOK Try.prog C22 0 (bodyF Try.f22) := (Lall.LOK rfl (by kernel_rfl) trivial)
noncomputable def E22 : (KD6 × Unit) → Option KD6 := fun x => S22   x.1
noncomputable def F22 : (KD6 × Unit) → KD6 := fun x => (E22 x).getD (dflt KT17)
noncomputable def G22 : (KD6 × Unit) → Bool := fun x => (E22 x).isSome
theorem p22 : ∀ x, G22 x = true → PureOK Try.prog 22 (mkA [KT17] x) ⟨KT17, F22 x⟩ :=
 PureOK.ofS (ts := [KT17]) (T := KT17) (S := E22) CxOK22 Try.func22 (LOK.fn LOK22) (fun x => t22   x.1)
noncomputable def kn58 : Kn := kOf []
theorem knOK58 : KOK Try.prog kn58 := KOK.nil
noncomputable def C58 : Cx := CxL Try.Θ kn58 (lOf [])
theorem CxOK58 : CxOK Try.prog C58 := ⟨Try.tabOK, knOK58, by kernel_rfl, POK.none⟩
theorem LOK58 : LOK Try.prog C58 0 (bodyF Try.f58) := (Lall.LOK rfl (by kernel_rfl) trivial)
noncomputable def E58 : Ya5 → Option Bool := fun x => S58   x.1 x.2.1
noncomputable def F58 : Ya5 → Bool := fun x => (E58 x).getD (dflt .bool)
noncomputable def G58 : Ya5 → Bool := fun x => (E58 x).isSome
theorem p58 : ∀ x, G58 x = true → PureOK Try.prog 58 (mkA [(.int .i64), (.int .i64)] x) ⟨.bool, F58 x⟩ :=
 PureOK.ofS (ts := [(.int .i64), (.int .i64)]) (T := .bool) (S := E58) CxOK58 Try.func58 (LOK.fn LOK58) (fun x => t58   x.1 x.2.1)
noncomputable def kn59 : Kn := kOf []
theorem knOK59 : KOK Try.prog kn59 := KOK.nil
noncomputable def C59 : Cx := CxL Try.Θ kn59 (lOf [])
theorem CxOK59 : CxOK Try.prog C59 := ⟨Try.tabOK, knOK59, by kernel_rfl, POK.none⟩
theorem LOK59 : LOK Try.prog C59 0 (bodyF Try.f59) := (Lall.LOK rfl (by kernel_rfl) trivial)
noncomputable def E59 : Ya5 → Option Bool := fun x => S59   x.1 x.2.1
noncomputable def F59 : Ya5 → Bool := fun x => (E59 x).getD (dflt .bool)
noncomputable def G59 : Ya5 → Bool := fun x => (E59 x).isSome
theorem p59 : ∀ x, G59 x = true → PureOK Try.prog 59 (mkA [(.int .i64), (.int .i64)] x) ⟨.bool, F59 x⟩ :=
 PureOK.ofS (ts := [(.int .i64), (.int .i64)]) (T := .bool) (S := E59) CxOK59 Try.func59 (LOK.fn LOK59) (fun x => t59   x.1 x.2.1)
noncomputable def kn45 : Kn := kOf [(18, sm [KT17] KT17 F18 G18), (58, sm [(.int .i64), (.int .i64)] .bool F58 G58), (59, sm [(.int .i64), (.int .i64)] .bool F59 G59)]
theorem knOK45 : KOK Try.prog kn45 := (KOK.cons Try.call18 (SmOK.sm p18) (KOK.cons Try.call58 (SmOK.sm p58) (KOK.cons Try.call59 (SmOK.sm p59) KOK.nil)))
noncomputable def V45_0 : Ya7 → Option (Ya7 ⊕ Ya26) := fun x => R45_0 F18 G18 F58 G58 F59 G59 V57 K57 Q57_0 (fun _ => ((), (), (), ([], ([], (0, ([], (0, ()))))), ([], ([], (0, ([], (0, ()))))), 0, ())) (fun _ => false) x.1 x.2.1 x.2.2.1 x.2.2.2.1 x.2.2.2.2.1 x.2.2.2.2.2.1 x.2.2.2.2.2.2.1 x.2.2.2.2.2.2.2.1 x.2.2.2.2.2.2.2.2.1
noncomputable def W45_0 : Ya7 → Ya26 := whV (hd := hd45_0) (ys := ys45_0) V45_0
noncomputable def Q45_0 : Ya7 → Bool := whK (hd := hd45_0) (ys := ys45_0) V45_0
noncomputable def C45 : Cx := CxP Try.Θ kn45 (lOf [(0, orc 91 28 0 hd45_0 ys45_0 W45_0 Q45_0)]) (pOf [(57, pm [.bool, (.int .i64)] .tnil 108 [(Q57_0, (fun x => x.2.1))] V57 K57)])
theorem CxOK45 : CxOK Try.prog C45 := ⟨Try.tabOK, knOK45, by kernel_rfl, (POK.cons Try.call57 pk57 POK.nil)⟩
theorem l45_0 [DefL] : Lone Try.prog C45 0 (.loop (loopB 0 (bodyF Try.f45))) (orc 91 28 0 hd45_0 ys45_0 W45_0 Q45_0) 4 :=
 Lone.of CxOK45 (Lall.LOK rfl (by kernel_rfl) (Lall.skip (by kernel_rfl) trivial)) (by kernel_rfl) (fun x => (r45_0 F18 G18 F58 G58 F59 G59 V57 K57 Q57_0 W45_0 Q45_0 x.1 x.2.1 x.2.2.1 x.2.2.2.1 x.2.2.2.2.1 x.2.2.2.2.2.1 x.2.2.2.2.2.2.1 x.2.2.2.2.2.2.2.1 x.2.2.2.2.2.2.2.2.1).trans (by first | (delta V45_0 R45_0; with_reducible rfl) | rfl))
theorem LOK45 [DefL] : LOK Try.prog C45 4 (restD Try.f45) := (Lall.LOK rfl (by kernel_rfl) (Lall.cons (by kernel_rfl) l45_0 trivial))
noncomputable def E45 : (KD6 × Int × Int × Ya3 × Unit) → Option (KD6 × (Int × Unit)) := fun x => S45 F18 G18 F58 G58 F59 G59 V57 K57 Q57_0 W45_0 Q45_0 x.1 x.2.1 x.2.2.1 x.2.2.2.1
noncomputable def F45 : (KD6 × Int × Int × Ya3 × Unit) → (KD6 × (Int × Unit)) := fun x => (E45 x).getD (dflt (.tup KT17 KT31))
noncomputable def G45 : (KD6 × Int × Int × Ya3 × Unit) → Bool := fun x => (E45 x).isSome
theorem p45 : ∀ x, G45 x = true → PureOK Try.prog 45 (mkA [KT17, (.int .i64), (.int .i64), KT11] x) ⟨(.tup KT17 KT31), F45 x⟩ :=
 PureOK.ofD (ts := [KT17, (.int .i64), (.int .i64), KT11]) (T := (.tup KT17 KT31)) (S := E45) (kp := 4) CxOK45 Try.func45 Try.func56 Try.call56 df56 (by kernel_rfl) (fun _ => LOK45) (fun x => t45 F18 G18 F58 G58 F59 G59 V57 K57 Q57_0 W45_0 Q45_0 x.1 x.2.1 x.2.2.1 x.2.2.2.1)
noncomputable def kn48 : Kn := kOf []
theorem knOK48 : KOK Try.prog kn48 := KOK.nil
noncomputable def C48 : Cx := CxL Try.Θ kn48 (lOf [])
theorem CxOK48 : CxOK Try.prog C48 := ⟨Try.tabOK, knOK48, by kernel_rfl, POK.none⟩
theorem LOK48 : LOK Try.prog C48 0 (bodyF Try.f48) := (Lall.LOK rfl (by kernel_rfl) trivial)
noncomputable def E48 : (Ya3 × Unit) → Option Ya3 := fun x => S48   x.1
noncomputable def F48 : (Ya3 × Unit) → Ya3 := fun x => (E48 x).getD (dflt KT11)
noncomputable def G48 : (Ya3 × Unit) → Bool := fun x => (E48 x).isSome
noncomputable def kn61 : Kn := kOf []
theorem knOK61 : KOK Try.prog kn61 := KOK.nil
noncomputable def C61 : Cx := CxL Try.Θ kn61 (lOf [])
theorem CxOK61 : CxOK Try.prog C61 := ⟨Try.tabOK, knOK61, by kernel_rfl, POK.none⟩
theorem LOK61 : LOK Try.prog C61 0 (bodyF Try.f61) := (Lall.LOK rfl (by kernel_rfl) trivial)
noncomputable def E61 : (Int × Unit) → Option Bool := fun x => S61   x.1
noncomputable def F61 : (Int × Unit) → Bool := fun x => (E61 x).getD (dflt .bool)
noncomputable def G61 : (Int × Unit) → Bool := fun x => (E61 x).isSome
noncomputable def kn47 : Kn := kOf []
theorem knOK47 : KOK Try.prog kn47 := KOK.nil
noncomputable def C47 : Cx := CxL Try.Θ kn47 (lOf [])
theorem CxOK47 : CxOK Try.prog C47 := ⟨Try.tabOK, knOK47, by kernel_rfl, POK.none⟩
theorem LOK47 : LOK Try.prog C47 0 (bodyF Try.f47) := (Lall.LOK rfl (by kernel_rfl) trivial)
noncomputable def E47 : Ya16 → Option KD6 := fun x => S47   x.1 x.2.1
noncomputable def F47 : Ya16 → KD6 := fun x => (E47 x).getD (dflt KT17)
noncomputable def G47 : Ya16 → Bool := fun x => (E47 x).isSome
noncomputable def kn26 : Kn := kOf []
theorem knOK26 : KOK Try.prog kn26 := KOK.nil
noncomputable def C26 : Cx := CxL Try.Θ kn26 (lOf [])
theorem CxOK26 : CxOK Try.prog C26 := ⟨Try.tabOK, knOK26, by kernel_rfl, POK.none⟩
theorem LOK26 : LOK Try.prog C26 0 (bodyF Try.f26) := (Lall.LOK rfl (by kernel_rfl) trivial)
noncomputable def E26 : Ya16 → Option KD6 := fun x => S26   x.1 x.2.1
noncomputable def F26 : Ya16 → KD6 := fun x => (E26 x).getD (dflt KT17)
noncomputable def G26 : Ya16 → Bool := fun x => (E26 x).isSome
theorem p26 : ∀ x, G26 x = true → PureOK Try.prog 26 (mkA [KT17, (.int .i64)] x) ⟨KT17, F26 x⟩ :=
 PureOK.ofS (ts := [KT17, (.int .i64)]) (T := KT17) (S := E26) CxOK26 Try.func26 (LOK.fn LOK26) (fun x => t26   x.1 x.2.1)
noncomputable def kn9 : Kn := kOf [(16, sm [(.int .i64)] KT25 F16 G16), (17, smR OD0 [0] [] (.int .i64) F17 G17), (18, sm [KT17] KT17 F18 G18), (19, sm [] KT8 F19 G19), (20, sm [(.int .u64)] KT8 F20 G20), (21, sm [KT8, (.int .i64)] KT8 F21 G21), (22, sm [KT17] KT17 F22 G22), (24, sm [KT8] KT30 F24 G24), (25, sm [(.vsl (.int .i64)), (.int .i64)] .bool F25 G25), (26, sm [KT17, (.int .i64)] KT17 F26 G26)]
theorem knOK9 : KOK Try.prog kn9 := (KOK.cons Try.call16 (SmOK.sm p16) (KOK.cons Try.call17 sm17_ok (KOK.cons Try.call18 (SmOK.sm p18) (KOK.cons Try.call19 (SmOK.sm p19) (KOK.cons Try.call20 (SmOK.sm p20) (KOK.cons Try.call21 (SmOK.sm p21) (KOK.cons Try.call22 (SmOK.sm p22) (KOK.cons Try.call24 (SmOK.sm p24) (KOK.cons Try.call25 (SmOK.sm p25) (KOK.cons Try.call26 (SmOK.sm p26) KOK.nil))))))))))
noncomputable def C9 : Cx := CxL Try.Θ kn9 (lOf [])
theorem CxOK9 : CxOK Try.prog C9 := ⟨Try.tabOK, knOK9, by kernel_rfl, POK.none⟩
theorem LOK9 : LOK Try.prog C9 0 (bodyF Try.f9) := (Lall.LOK rfl (by kernel_rfl) trivial)
noncomputable def E9 : (KD6 × Ya14 × Int × Unit) → Option (KD6 × (Int × Unit)) := fun x => S9 F16 G16 F17 G17 F18 G18 F19 G19 F20 G20 F21 G21 F22 G22 F24 G24 F25 G25 F26 G26  x.1 x.2.1 x.2.2.1
noncomputable def F9 : (KD6 × Ya14 × Int × Unit) → (KD6 × (Int × Unit)) := fun x => (E9 x).getD (dflt (.tup KT17 KT31))
noncomputable def G9 : (KD6 × Ya14 × Int × Unit) → Bool := fun x => (E9 x).isSome
theorem p9 : ∀ x, G9 x = true → PureOK Try.prog 9 (mkA [KT17, (.vsl KT21), (.int .i64)] x) ⟨(.tup KT17 KT31), F9 x⟩ :=
 PureOK.ofS (ts := [KT17, (.vsl KT21), (.int .i64)]) (T := (.tup KT17 KT31)) (S := E9) CxOK9 Try.func9 (LOK.fn LOK9) (fun x => t9 F16 G16 F17 G17 F18 G18 F19 G19 F20 G20 F21 G21 F22 G22 F24 G24 F25 G25 F26 G26  x.1 x.2.1 x.2.2.1)
end Go.Proofs
