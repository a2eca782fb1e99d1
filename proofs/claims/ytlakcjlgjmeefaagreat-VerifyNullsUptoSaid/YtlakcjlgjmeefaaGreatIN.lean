import Derived.Test.YtlakcjlgjmeefaaGreatBN
import Derived.Test.YtlakcjlgjmeefaaGreatGd
namespace Go.Proofs.Nu
open Go.GX
set_option linter.unusedVariables false
set_option maxRecDepth 100000
noncomputable def kn63_a : Kn := kOf [(46, sm [KTn11] (.int .i64) (fun _ => 5) (fun x => G46 x && decide (F46 x = 5))), (90, sm [(.pair KTn21 KTn23)] KTn15 F90 G90), (102, sm [(.pair KTn21 KTn23), KTn15, KTn15] KTn24 F102 G102), (103, sm [KTn21, (.int .i64), .bool] KTn21 F103 G103), (104, sm [(.pair KTn21 KTn23), KTn15, KTn15] KTn25 F104 G104)]
theorem knOK63_a : KOK Tryz.prog kn63_a := (KOK.cons Tryz.call46 (SmOK.sm (constP (ts := [KTn11]) (T := (.int .i64)) (F := F46) (G := G46) (c := 5) p46)) (KOK.cons Tryz.call90 (SmOK.sm p90) (KOK.cons Tryz.call102 (SmOK.sm p102) (KOK.cons Tryz.call103 (SmOK.sm p103) (KOK.cons Tryz.call104 (SmOK.sm p104) KOK.nil)))))
noncomputable def C63_a : Cx := CxL Tryz.Θ kn63_a (lOf [])
theorem CxOK63_a : CxOK Tryz.prog C63_a := ⟨Tryz.tabOK, knOK63_a, by kernel_rfl, POK.none⟩
theorem LOK63_a : LOK Tryz.prog C63_a 0 (bodyF Tryz.f63) := (Lall.LOK rfl (by kernel_rfl) trivial)
noncomputable def E63_a : (KDn6 × Int × Unit) → Option (KDn28 × (Int × Unit)) := fun x => S63_a (fun x => G46 x && decide (F46 x = 5)) F90 G90 F102 G102 F103 G103 F104 G104  x.1 x.2.1
noncomputable def u63_a : (KDn6 × Int × Unit) → ((KDn6 × KDn27) × Unit) := fun x => ((x.1, ([], ([(21, (x.2.1, (0, (1, (0, ()))))), (149, (0, (0, (0, (0, ()))))), (149, (0, (0, (0, (0, ())))))], (0, ())))), ())
noncomputable def y63_a : ((KDn6 × KDn27) × Unit) → (KDn6 × Int × Unit) := fun x => (x.1.1, (x.1.2.2.1.getD 0 (0, (0, (0, (0, (0, ())))))).2.1, ())
theorem p63_a : ∀ x : (KDn6 × Int × Unit), (E63_a x).isSome = true → PureOK Tryz.prog 63 (mkA [(.pair KTn21 KTn23)] (u63_a x)) ⟨(.tup KTn24 KTn29), (E63_a x).getD (dflt (.tup KTn24 KTn29))⟩ :=
  fun x => PureOK.of1 CxOK63_a Tryz.func63 (LOK.fn LOK63_a) (t63_a (fun x => G46 x && decide (F46 x = 5)) F90 G90 F102 G102 F103 G103 F104 G104  x.1 x.2.1)
noncomputable def kn63_b : Kn := kOf [(46, sm [KTn11] (.int .i64) (fun _ => 5) (fun x => G46 x && decide (F46 x = 5))), (90, sm [(.pair KTn21 KTn23)] KTn15 F90 G90), (102, sm [(.pair KTn21 KTn23), KTn15, KTn15] KTn24 F102 G102), (103, sm [KTn21, (.int .i64), .bool] KTn21 F103 G103), (104, sm [(.pair KTn21 KTn23), KTn15, KTn15] KTn25 F104 G104)]
theorem knOK63_b : KOK Tryz.prog kn63_b := (KOK.cons Tryz.call46 (SmOK.sm (constP (ts := [KTn11]) (T := (.int .i64)) (F := F46) (G := G46) (c := 5) p46)) (KOK.cons Tryz.call90 (SmOK.sm p90) (KOK.cons Tryz.call102 (SmOK.sm p102) (KOK.cons Tryz.call103 (SmOK.sm p103) (KOK.cons Tryz.call104 (SmOK.sm p104) KOK.nil)))))
noncomputable def C63_b : Cx := CxL Tryz.Θ kn63_b (lOf [])
theorem CxOK63_b : CxOK Tryz.prog C63_b := ⟨Tryz.tabOK, knOK63_b, by kernel_rfl, POK.none⟩
theorem LOK63_b : LOK Tryz.prog C63_b 0 (bodyF Tryz.f63) := (Lall.LOK rfl (by kernel_rfl) trivial)
noncomputable def E63_b : (KDn6 × Int × Unit) → Option (KDn28 × (Int × Unit)) := fun x => S63_b (fun x => G46 x && decide (F46 x = 5)) F90 G90 F102 G102 F103 G103 F104 G104  x.1 x.2.1
noncomputable def u63_b : (KDn6 × Int × Unit) → ((KDn6 × KDn27) × Unit) := fun x => ((x.1, ([], ([(85, (x.2.1, (0, (1, (0, ()))))), (149, (0, (0, (0, (0, ()))))), (149, (0, (0, (0, (0, ())))))], (0, ())))), ())
noncomputable def y63_b : ((KDn6 × KDn27) × Unit) → (KDn6 × Int × Unit) := fun x => (x.1.1, (x.1.2.2.1.getD 0 (0, (0, (0, (0, (0, ())))))).2.1, ())
theorem p63_b : ∀ x : (KDn6 × Int × Unit), (E63_b x).isSome = true → PureOK Tryz.prog 63 (mkA [(.pair KTn21 KTn23)] (u63_b x)) ⟨(.tup KTn24 KTn29), (E63_b x).getD (dflt (.tup KTn24 KTn29))⟩ :=
  fun x => PureOK.of1 CxOK63_b Tryz.func63 (LOK.fn LOK63_b) (t63_b (fun x => G46 x && decide (F46 x = 5)) F90 G90 F102 G102 F103 G103 F104 G104  x.1 x.2.1)
noncomputable def E63 : ((KDn6 × KDn27) × Unit) → Option (KDn28 × (Int × Unit)) := (patE u63_a y63_a E63_a (patE u63_b y63_b E63_b (fun _ => none)))
noncomputable def F63 : ((KDn6 × KDn27) × Unit) → (KDn28 × (Int × Unit)) := fun x => (E63 x).getD (dflt (.tup KTn24 KTn29))
noncomputable def G63 : ((KDn6 × KDn27) × Unit) → Bool := fun x => (E63 x).isSome
theorem p63 : ∀ x, G63 x = true → PureOK Tryz.prog 63 (mkA [(.pair KTn21 KTn23)] x) ⟨(.tup KTn24 KTn29), F63 x⟩ := (pat_ok (P := Tryz.prog) (i := 63) (T := (.tup KTn24 KTn29)) (mk := mkA [(.pair KTn21 KTn23)]) (full := u63_a) (ext := y63_a) (E1 := E63_a) (E2 := (patE u63_b y63_b E63_b (fun _ => none))) p63_a (pat_ok (P := Tryz.prog) (i := 63) (T := (.tup KTn24 KTn29)) (mk := mkA [(.pair KTn21 KTn23)]) (full := u63_b) (ext := y63_b) (E1 := E63_b) (E2 := (fun _ => none)) p63_b (pat_none (P := Tryz.prog) (i := 63) (α := ((KDn6 × KDn27) × Unit)) (T := (.tup KTn24 KTn29)) (mk := mkA [(.pair KTn21 KTn23)]))))
noncomputable def kn26_a : Kn := kOf [(46, sm [KTn11] (.int .i64) (fun _ => 5) (fun x => G46 x && decide (F46 x = 5))), (54, sm [KTn11] .bool (fun _ => false) (fun x => G54 x && decide (F54 x = false))), (63, sm [(.pair KTn21 KTn23)] (.tup KTn24 KTn29) F63 G63)]
theorem knOK26_a : KOK Tryz.prog kn26_a := (KOK.cons Tryz.call46 (SmOK.sm (constP (ts := [KTn11]) (T := (.int .i64)) (F := F46) (G := G46) (c := 5) p46)) (KOK.cons Tryz.call54 (SmOK.sm (constP (ts := [KTn11]) (T := .bool) (F := F54) (G := G54) (c := false) p54)) (KOK.cons Tryz.call63 (SmOK.sm p63) KOK.nil)))
noncomputable def C26_a : Cx := CxL Tryz.Θ kn26_a (lOf [])
theorem CxOK26_a : CxOK Tryz.prog C26_a := ⟨Tryz.tabOK, knOK26_a, by kernel_rfl, POK.none⟩
theorem LOK26_a : LOK Tryz.prog C26_a 0 (bodyF Tryz.f26) := (Lall.LOK rfl (by kernel_rfl) trivial)
noncomputable def E26_a : (KDn6 × Int × Unit) → Option (KDn28 × (Int × Unit)) := fun x => S26_a (fun x => G46 x && decide (F46 x = 5)) (fun x => G54 x && decide (F54 x = false)) F63 G63  x.1 x.2.1
noncomputable def u26_a : (KDn6 × Int × Unit) → ((KDn6 × KDn27) × Unit) := fun x => ((x.1, ([], ([(21, (x.2.1, (0, (1, (0, ()))))), (149, (0, (0, (0, (0, ()))))), (149, (0, (0, (0, (0, ())))))], (0, ())))), ())
noncomputable def y26_a : ((KDn6 × KDn27) × Unit) → (KDn6 × Int × Unit) := fun x => (x.1.1, (x.1.2.2.1.getD 0 (0, (0, (0, (0, (0, ())))))).2.1, ())
theorem p26_a : ∀ x : (KDn6 × Int × Unit), (E26_a x).isSome = true → PureOK Tryz.prog 26 (mkA [(.pair KTn21 KTn23)] (u26_a x)) ⟨(.tup KTn24 KTn29), (E26_a x).getD (dflt (.tup KTn24 KTn29))⟩ :=
  fun x => PureOK.of1 CxOK26_a Tryz.func26 (LOK.fn LOK26_a) (t26_a (fun x => G46 x && decide (F46 x = 5)) (fun x => G54 x && decide (F54 x = false)) F63 G63  x.1 x.2.1)
noncomputable def kn26_b : Kn := kOf [(46, sm [KTn11] (.int .i64) (fun _ => 5) (fun x => G46 x && decide (F46 x = 5))), (54, sm [KTn11] .bool (fun _ => false) (fun x => G54 x && decide (F54 x = false))), (63, sm [(.pair KTn21 KTn23)] (.tup KTn24 KTn29) F63 G63)]
theorem knOK26_b : KOK Tryz.prog kn26_b := (KOK.cons Tryz.call46 (SmOK.sm (constP (ts := [KTn11]) (T := (.int .i64)) (F := F46) (G := G46) (c := 5) p46)) (KOK.cons Tryz.call54 (SmOK.sm (constP (ts := [KTn11]) (T := .bool) (F := F54) (G := G54) (c := false) p54)) (KOK.cons Tryz.call63 (SmOK.sm p63) KOK.nil)))
noncomputable def C26_b : Cx := CxL Tryz.Θ kn26_b (lOf [])
theorem CxOK26_b : CxOK Tryz.prog C26_b := ⟨Tryz.tabOK, knOK26_b, by kernel_rfl, POK.none⟩
theorem LOK26_b : LOK Tryz.prog C26_b 0 (bodyF Tryz.f26) := (Lall.LOK rfl (by kernel_rfl) trivial)
noncomputable def E26_b : (KDn6 × Int × Unit) → Option (KDn28 × (Int × Unit)) := fun x => S26_b (fun x => G46 x && decide (F46 x = 5)) (fun x => G54 x && decide (F54 x = false)) F63 G63  x.1 x.2.1
noncomputable def u26_b : (KDn6 × Int × Unit) → ((KDn6 × KDn27) × Unit) := fun x => ((x.1, ([], ([(85, (x.2.1, (0, (1, (0, ()))))), (149, (0, (0, (0, (0, ()))))), (149, (0, (0, (0, (0, ())))))], (0, ())))), ())
noncomputable def y26_b : ((KDn6 × KDn27) × Unit) → (KDn6 × Int × Unit) := fun x => (x.1.1, (x.1.2.2.1.getD 0 (0, (0, (0, (0, (0, ())))))).2.1, ())
theorem p26_b : ∀ x : (KDn6 × Int × Unit), (E26_b x).isSome = true → PureOK Tryz.prog 26 (mkA [(.pair KTn21 KTn23)] (u26_b x)) ⟨(.tup KTn24 KTn29), (E26_b x).getD (dflt (.tup KTn24 KTn29))⟩ :=
  fun x => PureOK.of1 CxOK26_b Tryz.func26 (LOK.fn LOK26_b) (t26_b (fun x => G46 x && decide (F46 x = 5)) (fun x => G54 x && decide (F54 x = false)) F63 G63  x.1 x.2.1)
noncomputable def E26 : ((KDn6 × KDn27) × Unit) → Option (KDn28 × (Int × Unit)) := (patE u26_a y26_a E26_a (patE u26_b y26_b E26_b (fun _ => none)))
noncomputable def F26 : ((KDn6 × KDn27) × Unit) → (KDn28 × (Int × Unit)) := fun x => (E26 x).getD (dflt (.tup KTn24 KTn29))
noncomputable def G26 : ((KDn6 × KDn27) × Unit) → Bool := fun x => (E26 x).isSome
theorem p26 : ∀ x, G26 x = true → PureOK Tryz.prog 26 (mkA [(.pair KTn21 KTn23)] x) ⟨(.tup KTn24 KTn29), F26 x⟩ := (pat_ok (P := Tryz.prog) (i := 26) (T := (.tup KTn24 KTn29)) (mk := mkA [(.pair KTn21 KTn23)]) (full := u26_a) (ext := y26_a) (E1 := E26_a) (E2 := (patE u26_b y26_b E26_b (fun _ => none))) p26_a (pat_ok (P := Tryz.prog) (i := 26) (T := (.tup KTn24 KTn29)) (mk := mkA [(.pair KTn21 KTn23)]) (full := u26_b) (ext := y26_b) (E1 := E26_b) (E2 := (fun _ => none)) p26_b (pat_none (P := Tryz.prog) (i := 26) (α := ((KDn6 × KDn27) × Unit)) (T := (.tup KTn24 KTn29)) (mk := mkA [(.pair KTn21 KTn23)]))))
noncomputable def kn13 : Kn := kOf [(16, sm [(.vsl KTn11)] KTn30 F16 G16), (26, sm [(.pair KTn21 KTn23)] (.tup KTn24 KTn29) F26 G26), (34, sm [(.vsl KTn11)] (.vsl .bool) F34 G34), (35, sm [KTn21] KTn21 F35 G35)]
theorem knOK13 : KOK Tryz.prog kn13 := (KOK.cons Tryz.call16 (SmOK.sm p16) (KOK.cons Tryz.call26 (SmOK.sm p26) (KOK.cons Tryz.call34 (SmOK.sm p34) (KOK.cons Tryz.call35 (SmOK.sm p35) KOK.nil))))
noncomputable def V13_0 : ((List KDn6) × (List Int) × KDn28 × Int × Int × Unit) → Option (((List KDn6) × (List Int) × KDn28 × Int × Int × Unit) ⊕ ((List KDn6) × (List Int) × Unit)) := fun x => R13_0 F16 G16 F26 G26 F34 G34 F35 G35 (fun _ => ([], [], ())) (fun _ => false) x.1 x.2.1 x.2.2.1 x.2.2.2.1 x.2.2.2.2.1
noncomputable def W13_0 : ((List KDn6) × (List Int) × KDn28 × Int × Int × Unit) → ((List KDn6) × (List Int) × Unit) := whV (hd := hd13_0) (ys := ys13_0) V13_0
noncomputable def Q13_0 : ((List KDn6) × (List Int) × KDn28 × Int × Int × Unit) → Bool := whK (hd := hd13_0) (ys := ys13_0) V13_0
noncomputable def C13 : Cx := CxL Tryz.Θ kn13 (lOf [(0, orc 76 25 0 hd13_0 ys13_0 W13_0 Q13_0)])
theorem CxOK13 : CxOK Tryz.prog C13 := ⟨Tryz.tabOK, knOK13, by kernel_rfl, POK.none⟩
theorem l13_0 : Lone Tryz.prog C13 0 (.loop (loopB 0 (bodyF Tryz.f13))) (orc 76 25 0 hd13_0 ys13_0 W13_0 Q13_0) :=
  Lone.of CxOK13 (Lall.LOK rfl (by kernel_rfl) (Lall.skip (by kernel_rfl) trivial)) (by kernel_rfl) (fun x => (r13_0 F16 G16 F26 G26 F34 G34 F35 G35 W13_0 Q13_0 x.1 x.2.1 x.2.2.1 x.2.2.2.1 x.2.2.2.2.1).trans (by first | (delta V13_0 R13_0; with_reducible rfl) | rfl))
theorem LOK13 : LOK Tryz.prog C13 0 (bodyF Tryz.f13) := (Lall.LOK rfl (by kernel_rfl) (Lall.cons (by kernel_rfl) l13_0 trivial))
noncomputable def E13 : (KDn6 × (List (Int × KDn1)) × KDn26 × Int × Unit) → Option ((List KDn6) × KDn31) := fun x => S13 F16 G16 F26 G26 F34 G34 F35 G35 W13_0 Q13_0 x.1 x.2.1 x.2.2.1 x.2.2.2.1
noncomputable def F13 : (KDn6 × (List (Int × KDn1)) × KDn26 × Int × Unit) → ((List KDn6) × KDn31) := fun x => (E13 x).getD (dflt KTn33)
noncomputable def G13 : (KDn6 × (List (Int × KDn1)) × KDn26 × Int × Unit) → Bool := fun x => (E13 x).isSome
theorem p13 : ∀ x, G13 x = true → PureOK Tryz.prog 13 (mkA [KTn21, (.vsl KTn10), (.vsl KTn11), (.int .i64)] x) ⟨KTn33, F13 x⟩ :=
  PureOK.ofS (ts := [KTn21, (.vsl KTn10), (.vsl KTn11), (.int .i64)]) (T := KTn33) (S := E13) CxOK13 Tryz.func13 (LOK.fn LOK13) (fun x => t13 F16 G16 F26 G26 F34 G34 F35 G35 W13_0 Q13_0 x.1 x.2.1 x.2.2.1 x.2.2.2.1)
noncomputable def kn14 : Kn := kOf []
theorem knOK14 : KOK Tryz.prog kn14 := KOK.nil
noncomputable def C14 : Cx := CxL Tryz.Θ kn14 (lOf [])
theorem CxOK14 : CxOK Tryz.prog C14 := ⟨Tryz.tabOK, knOK14, by kernel_rfl, POK.none⟩
theorem LOK14 : LOK Tryz.prog C14 0 (bodyF Tryz.f14) := (Lall.LOK rfl (by kernel_rfl) trivial)
noncomputable def E14 : (Int × Unit) → Option KDn0 := fun x => S14   x.1
noncomputable def F14 : (Int × Unit) → KDn0 := fun x => (E14 x).getD (dflt (.pair KTn13 KTn13))
noncomputable def G14 : (Int × Unit) → Bool := fun x => (E14 x).isSome
theorem p14 : ∀ x, G14 x = true → PureOK Tryz.prog 14 (mkA [(.int .u64)] x) ⟨(.pair KTn13 KTn13), F14 x⟩ :=
  PureOK.ofS (ts := [(.int .u64)]) (T := (.pair KTn13 KTn13)) (S := E14) CxOK14 Tryz.func14 (LOK.fn LOK14) (fun x => t14   x.1)
noncomputable def kn7 : Kn := kOf [(9, sm [] .bool F9 G9), (12, sm [KTn21] .bool F12 G12), (13, sm [KTn21, (.vsl KTn10), (.vsl KTn11), (.int .i64)] KTn33 F13 G13), (14, sm [(.int .u64)] (.pair KTn13 KTn13) F14 G14)]
theorem knOK7 : KOK Tryz.prog kn7 := (KOK.cons Tryz.call9 (SmOK.sm p9) (KOK.cons Tryz.call12 (SmOK.sm p12) (KOK.cons Tryz.call13 (SmOK.sm p13) (KOK.cons Tryz.call14 (SmOK.sm p14) KOK.nil))))
noncomputable def C7 : Cx := CxL Tryz.Θ kn7 (lOf [])
theorem CxOK7 : CxOK Tryz.prog C7 := ⟨Tryz.tabOK, knOK7, by kernel_rfl, POK.none⟩
theorem LOK7 : LOK Tryz.prog C7 0 (bodyF Tryz.f7) := (Lall.LOK rfl (by kernel_rfl) trivial)
noncomputable def E7 : (KDn6 × Int × Bool × Unit) → Option Bool := fun x => S7 F9 G9 F12 G12 F13 G13 F14 G14  x.1 x.2.1 x.2.2.1
noncomputable def F7 : (KDn6 × Int × Bool × Unit) → Bool := fun x => (E7 x).getD (dflt .bool)
noncomputable def G7 : (KDn6 × Int × Bool × Unit) → Bool := fun x => (E7 x).isSome
theorem p7 : ∀ x, G7 x = true → PureOK Tryz.prog 7 (mkA [KTn21, (.int .i64), .bool] x) ⟨.bool, F7 x⟩ :=
  PureOK.ofS (ts := [KTn21, (.int .i64), .bool]) (T := .bool) (S := E7) CxOK7 Tryz.func7 (LOK.fn LOK7) (fun x => t7 F9 G9 F12 G12 F13 G13 F14 G14  x.1 x.2.1 x.2.2.1)
end Go.Proofs.Nu
