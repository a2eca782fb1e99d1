import Derived.Test.YtlakcjlgjmeefaaGreatBX
import Derived.Test.YtlakcjlgjmeefaaGreatGd
namespace Go.Proofs
open Go.GX
set_option linter.unusedVariables false
set_option maxRecDepth 100000
noncomputable def kn179 : Kn := kOf []
theorem knOK179 : KOK Tryz.prog kn179 := KOK.nil
noncomputable def C179 : Cx := CxL Tryz.Θ kn179 (lOf [])
theorem CxOK179 : CxOK Tryz.prog C179 := ⟨Tryz.tabOK, knOK179, by kernel_rfl, POK.none⟩
theorem LOK179 : LOK Tryz.prog C179 0 (bodyF Tryz.f179) := (Lall.LOK rfl (by kernel_rfl) trivial)
noncomputable def E179 : ((Int × (Int × Unit)) × Unit) → Option Bool := fun x => S179   x.1
noncomputable def F179 : ((Int × (Int × Unit)) × Unit) → Bool := fun x => (E179 x).getD (dflt .bool)
noncomputable def G179 : ((Int × (Int × Unit)) × Unit) → Bool := fun x => (E179 x).isSome
theorem p179 : ∀ x, G179 x = true → PureOK Tryz.prog 179 (mkA [KTx8] x) ⟨.bool, F179 x⟩ :=
  PureOK.ofS (ts := [KTx8]) (T := .bool) (S := E179) CxOK179 Tryz.func179 (LOK.fn LOK179) (fun x => t179   x.1)
noncomputable def kn181 : Kn := kOf []
theorem knOK181 : KOK Tryz.prog kn181 := KOK.nil
noncomputable def V181_0 : (Int × Unit × Int × Int × (Int × (Int × Unit)) × Unit) → Option ((Int × Unit × Int × Int × (Int × (Int × Unit)) × Unit) ⊕ (Int × Unit × Int × (Int × (Int × Unit)) × Unit)) := fun x => R181_0  (fun _ => (0, (), 0, (0, (0, ())), ())) (fun _ => false) x.1 x.2.1 x.2.2.1 x.2.2.2.1 x.2.2.2.2.1
noncomputable def W181_0 : (Int × Unit × Int × Int × (Int × (Int × Unit)) × Unit) → (Int × Unit × Int × (Int × (Int × Unit)) × Unit) := whV (hd := hd181_0) (ys := ys181_0) V181_0
noncomputable def Q181_0 : (Int × Unit × Int × Int × (Int × (Int × Unit)) × Unit) → Bool := whK (hd := hd181_0) (ys := ys181_0) V181_0
noncomputable def C181 : Cx := CxL Tryz.Θ kn181 (lOf [(0, orc 22 25 0 hd181_0 ys181_0 W181_0 Q181_0)])
theorem CxOK181 : CxOK Tryz.prog C181 := ⟨Tryz.tabOK, knOK181, by kernel_rfl, POK.none⟩
theorem l181_0 : Lone Tryz.prog C181 0 (.loop (loopB 0 (bodyF Tryz.f181))) (orc 22 25 0 hd181_0 ys181_0 W181_0 Q181_0) :=
  Lone.of CxOK181 (Lall.LOK rfl (by kernel_rfl) (Lall.skip (by kernel_rfl) trivial)) (by kernel_rfl) (fun x => (r181_0  W181_0 Q181_0 x.1 x.2.1 x.2.2.1 x.2.2.2.1 x.2.2.2.2.1).trans (by first | (delta V181_0 R181_0; with_reducible rfl) | rfl))
theorem LOK181 : LOK Tryz.prog C181 0 (bodyF Tryz.f181) := (Lall.LOK rfl (by kernel_rfl) (Lall.cons (by kernel_rfl) l181_0 trivial))
noncomputable def E181 : (Int × Int × Unit) → Option (Int × (Int × Unit)) := fun x => S181  W181_0 Q181_0 x.1 x.2.1
noncomputable def F181 : (Int × Int × Unit) → (Int × (Int × Unit)) := fun x => (E181 x).getD (dflt KTx8)
noncomputable def G181 : (Int × Int × Unit) → Bool := fun x => (E181 x).isSome
theorem p181 : ∀ x, G181 x = true → PureOK Tryz.prog 181 (mkA [(.int .u64), (.int .u64)] x) ⟨KTx8, F181 x⟩ :=
  PureOK.ofS (ts := [(.int .u64), (.int .u64)]) (T := KTx8) (S := E181) CxOK181 Tryz.func181 (LOK.fn LOK181) (fun x => t181  W181_0 Q181_0 x.1 x.2.1)
noncomputable def kn180 : Kn := kOf []
theorem knOK180 : KOK Tryz.prog kn180 := KOK.nil
noncomputable def C180 : Cx := CxL Tryz.Θ kn180 (lOf [])
theorem CxOK180 : CxOK Tryz.prog C180 := ⟨Tryz.tabOK, knOK180, by kernel_rfl, POK.none⟩
theorem LOK180 : LOK Tryz.prog C180 0 (bodyF Tryz.f180) := (Lall.LOK rfl (by kernel_rfl) trivial)
noncomputable def E180 : ((Int × (Int × Unit)) × (Int × (Int × Unit)) × Unit) → Option KDx9 := fun x => S180   x.1 x.2.1
noncomputable def F180 : ((Int × (Int × Unit)) × (Int × (Int × Unit)) × Unit) → KDx9 := fun x => (E180 x).getD (dflt KTx10)
noncomputable def G180 : ((Int × (Int × Unit)) × (Int × (Int × Unit)) × Unit) → Bool := fun x => (E180 x).isSome
theorem p180 : ∀ x, G180 x = true → PureOK Tryz.prog 180 (mkA [KTx8, KTx8] x) ⟨KTx10, F180 x⟩ :=
  PureOK.ofS (ts := [KTx8, KTx8]) (T := KTx10) (S := E180) CxOK180 Tryz.func180 (LOK.fn LOK180) (fun x => t180   x.1 x.2.1)
noncomputable def kn118 : Kn := kOf [(179, sm [KTx8] .bool F179 G179), (180, sm [KTx8, KTx8] KTx10 F180 G180), (181, sm [(.int .u64), (.int .u64)] KTx8 F181 G181)]
theorem knOK118 : KOK Tryz.prog kn118 := (KOK.cons Tryz.call179 (SmOK.sm p179) (KOK.cons Tryz.call180 (SmOK.sm p180) (KOK.cons Tryz.call181 (SmOK.sm p181) KOK.nil)))
noncomputable def V118_0 : (Unit × Unit × Int × KDx0 × KDx0 × Unit) → Option ((Unit × Unit × Int × KDx0 × KDx0 × Unit) ⊕ ((Unit × Unit × KDx0 × KDx0 × Unit) ⊕ (Unit × Bool × KDx0 × Unit))) := fun x => R118_0 F179 G179 F180 G180 F181 G181 (fun _ => (Sum.inl ((), (), ((0, (0, ())), (0, (0, ()))), ((0, (0, ())), (0, (0, ()))), ()))) (fun _ => false) x.1 x.2.1 x.2.2.1 x.2.2.2.1 x.2.2.2.2.1
noncomputable def W118_0 : (Unit × Unit × Int × KDx0 × KDx0 × Unit) → ((Unit × Unit × KDx0 × KDx0 × Unit) ⊕ (Unit × Bool × KDx0 × Unit)) := whV (hd := hd118_0) (ys := ys118_0) V118_0
noncomputable def Q118_0 : (Unit × Unit × Int × KDx0 × KDx0 × Unit) → Bool := whK (hd := hd118_0) (ys := ys118_0) V118_0
noncomputable def C118 : Cx := CxL Tryz.Θ kn118 (lOf [(0, orc 57 26 0 hd118_0 ys118_0 W118_0 Q118_0)])
theorem CxOK118 : CxOK Tryz.prog C118 := ⟨Tryz.tabOK, knOK118, by kernel_rfl, POK.none⟩
theorem l118_0 : Lone Tryz.prog C118 0 (.loop (loopB 0 (bodyF Tryz.f118))) (orc 57 26 0 hd118_0 ys118_0 W118_0 Q118_0) :=
  Lone.of CxOK118 (Lall.LOK rfl (by kernel_rfl) (Lall.skip (by kernel_rfl) trivial)) (by kernel_rfl) (fun x => (r118_0 F179 G179 F180 G180 F181 G181 W118_0 Q118_0 x.1 x.2.1 x.2.2.1 x.2.2.2.1 x.2.2.2.2.1).trans (by first | (delta V118_0 R118_0; with_reducible rfl) | rfl))
theorem LOK118 : LOK Tryz.prog C118 0 (bodyF Tryz.f118) := (Lall.LOK rfl (by kernel_rfl) (Lall.cons (by kernel_rfl) l118_0 trivial))
noncomputable def E118 : (KDx0 × Unit) → Option (KDx0 × (Bool × Unit)) := fun x => S118 F179 G179 F180 G180 F181 G181 W118_0 Q118_0 x.1
noncomputable def F118 : (KDx0 × Unit) → (KDx0 × (Bool × Unit)) := fun x => (E118 x).getD (dflt KTx11)
noncomputable def G118 : (KDx0 × Unit) → Bool := fun x => (E118 x).isSome
theorem p118 : ∀ x, G118 x = true → PureOK Tryz.prog 118 (mkA [(.pair KTx8 KTx8)] x) ⟨KTx11, F118 x⟩ :=
  PureOK.ofS (ts := [(.pair KTx8 KTx8)]) (T := KTx11) (S := E118) CxOK118 Tryz.func118 (LOK.fn LOK118) (fun x => t118 F179 G179 F180 G180 F181 G181 W118_0 Q118_0 x.1)
noncomputable def kn68 : Kn := kOf [(118, sm [(.pair KTx8 KTx8)] KTx11 F118 G118)]
theorem knOK68 : KOK Tryz.prog kn68 := (KOK.cons Tryz.call118 (SmOK.sm p118) KOK.nil)
noncomputable def C68 : Cx := CxL Tryz.Θ kn68 (lOf [])
theorem CxOK68 : CxOK Tryz.prog C68 := ⟨Tryz.tabOK, knOK68, by kernel_rfl, POK.none⟩
theorem LOK68 : LOK Tryz.prog C68 0 (bodyF Tryz.f68) := (Lall.LOK rfl (by kernel_rfl) trivial)
noncomputable def E68 : (KDx0 × Unit) → Option Bool := fun x => S68 F118 G118  x.1
noncomputable def F68 : (KDx0 × Unit) → Bool := fun x => (E68 x).getD (dflt .bool)
noncomputable def G68 : (KDx0 × Unit) → Bool := fun x => (E68 x).isSome
theorem p68 : ∀ x, G68 x = true → PureOK Tryz.prog 68 (mkA [(.pair KTx8 KTx8)] x) ⟨.bool, F68 x⟩ :=
  PureOK.ofS (ts := [(.pair KTx8 KTx8)]) (T := .bool) (S := E68) CxOK68 Tryz.func68 (LOK.fn LOK68) (fun x => t68 F118 G118  x.1)
noncomputable def kn33 : Kn := kOf [(68, sm [(.pair KTx8 KTx8)] .bool F68 G68)]
theorem knOK33 : KOK Tryz.prog kn33 := (KOK.cons Tryz.call68 (SmOK.sm p68) KOK.nil)
noncomputable def C33 : Cx := CxL Tryz.Θ kn33 (lOf [])
theorem CxOK33 : CxOK Tryz.prog C33 := ⟨Tryz.tabOK, knOK33, by kernel_rfl, POK.none⟩
theorem LOK33 : LOK Tryz.prog C33 0 (bodyF Tryz.f33) := (Lall.LOK rfl (by kernel_rfl) trivial)
noncomputable def E33 : ((Int × (KDx0 × KDx1)) × Unit) → Option Bool := fun x => S33 F68 G68  x.1
noncomputable def F33 : ((Int × (KDx0 × KDx1)) × Unit) → Bool := fun x => (E33 x).getD (dflt .bool)
noncomputable def G33 : ((Int × (KDx0 × KDx1)) × Unit) → Bool := fun x => (E33 x).isSome
theorem p33 : ∀ x, G33 x = true → PureOK Tryz.prog 33 (mkA [KTx16] x) ⟨.bool, F33 x⟩ :=
  PureOK.ofS (ts := [KTx16]) (T := .bool) (S := E33) CxOK33 Tryz.func33 (LOK.fn LOK33) (fun x => t33 F68 G68  x.1)
noncomputable def kn12 : Kn := kOf [(33, sm [KTx16] .bool F33 G33)]
theorem knOK12 : KOK Tryz.prog kn12 := (KOK.cons Tryz.call33 (SmOK.sm p33) KOK.nil)
noncomputable def V12_0 : (Unit × Int × KDx6 × Unit) → Option ((Unit × Int × KDx6 × Unit) ⊕ ((Unit × KDx6 × Unit) ⊕ (Bool × Unit))) := fun x => R12_0 F33 G33 (fun _ => (Sum.inl ((), ([], ([], (0, ([], (0, ()))))), ()))) (fun _ => false) (fun _ => (Sum.inl ((), ([], ([], (0, ([], (0, ()))))), ()))) (fun _ => false) (fun _ => (Sum.inl ((), 0, ([], ([], (0, ([], (0, ()))))), ()))) (fun _ => false) (fun _ => (Sum.inl ((), ([], ([], (0, ([], (0, ()))))), ()))) (fun _ => false) x.1 x.2.1 x.2.2.1
noncomputable def W12_0 : (Unit × Int × KDx6 × Unit) → ((Unit × KDx6 × Unit) ⊕ (Bool × Unit)) := whV (hd := hd12_0) (ys := ys12_0) V12_0
noncomputable def Q12_0 : (Unit × Int × KDx6 × Unit) → Bool := whK (hd := hd12_0) (ys := ys12_0) V12_0
noncomputable def V12_2 : (Unit × Int × KDx6 × Unit) → Option ((Unit × Int × KDx6 × Unit) ⊕ ((Unit × KDx6 × Unit) ⊕ (Bool × Unit))) := fun x => R12_2 F33 G33 W12_0 Q12_0 (fun _ => (Sum.inl ((), ([], ([], (0, ([], (0, ()))))), ()))) (fun _ => false) (fun _ => (Sum.inl ((), 0, ([], ([], (0, ([], (0, ()))))), ()))) (fun _ => false) (fun _ => (Sum.inl ((), ([], ([], (0, ([], (0, ()))))), ()))) (fun _ => false) x.1 x.2.1 x.2.2.1
noncomputable def W12_2 : (Unit × Int × KDx6 × Unit) → ((Unit × KDx6 × Unit) ⊕ (Bool × Unit)) := whV (hd := hd12_2) (ys := ys12_2) V12_2
noncomputable def Q12_2 : (Unit × Int × KDx6 × Unit) → Bool := whK (hd := hd12_2) (ys := ys12_2) V12_2
noncomputable def V12_6 : (Unit × Int × Int × KDx6 × Unit) → Option ((Unit × Int × Int × KDx6 × Unit) ⊕ ((Unit × Int × KDx6 × Unit) ⊕ (Bool × Unit))) := fun x => R12_6 F33 G33 W12_0 Q12_0 W12_2 Q12_2 (fun _ => (Sum.inl ((), 0, ([], ([], (0, ([], (0, ()))))), ()))) (fun _ => false) (fun _ => (Sum.inl ((), ([], ([], (0, ([], (0, ()))))), ()))) (fun _ => false) x.1 x.2.1 x.2.2.1 x.2.2.2.1
noncomputable def W12_6 : (Unit × Int × Int × KDx6 × Unit) → ((Unit × Int × KDx6 × Unit) ⊕ (Bool × Unit)) := whV (hd := hd12_6) (ys := ys12_6) V12_6
noncomputable def Q12_6 : (Unit × Int × Int × KDx6 × Unit) → Bool := whK (hd := hd12_6) (ys := ys12_6) V12_6
noncomputable def V12_4 : (Unit × Int × KDx6 × Unit) → Option ((Unit × Int × KDx6 × Unit) ⊕ ((Unit × KDx6 × Unit) ⊕ (Bool × Unit))) := fun x => R12_4 F33 G33 W12_0 Q12_0 W12_2 Q12_2 W12_6 Q12_6 (fun _ => (Sum.inl ((), ([], ([], (0, ([], (0, ()))))), ()))) (fun _ => false) x.1 x.2.1 x.2.2.1
noncomputable def W12_4 : (Unit × Int × KDx6 × Unit) → ((Unit × KDx6 × Unit) ⊕ (Bool × Unit)) := whV (hd := hd12_4) (ys := ys12_4) V12_4
noncomputable def Q12_4 : (Unit × Int × KDx6 × Unit) → Bool := whK (hd := hd12_4) (ys := ys12_4) V12_4
noncomputable def C12 : Cx := CxL Tryz.Θ kn12 (lOf [(0, orc 142 25 0 hd12_0 ys12_0 W12_0 Q12_0), (2, orc 142 49 2 hd12_2 ys12_2 W12_2 Q12_2), (6, orc 142 97 6 hd12_6 ys12_6 W12_6 Q12_6), (4, orc 142 73 4 hd12_4 ys12_4 W12_4 Q12_4)])
theorem CxOK12 : CxOK Tryz.prog C12 := ⟨Tryz.tabOK, knOK12, by kernel_rfl, POK.none⟩
theorem l12_0 : Lone Tryz.prog C12 0 (.loop (loopB 0 (bodyF Tryz.f12))) (orc 142 25 0 hd12_0 ys12_0 W12_0 Q12_0) :=
  Lone.of CxOK12 (Lall.LOK rfl (by kernel_rfl) (Lall.skip (by kernel_rfl) (Lall.skip (by kernel_rfl) (Lall.skip (by kernel_rfl) (Lall.skip (by kernel_rfl) trivial))))) (by kernel_rfl) (fun x => (r12_0 F33 G33 W12_0 Q12_0 W12_2 Q12_2 W12_6 Q12_6 W12_4 Q12_4 x.1 x.2.1 x.2.2.1).trans (by first | (delta V12_0 R12_0; with_reducible rfl) | rfl))
theorem l12_2 : Lone Tryz.prog C12 2 (.loop (loopB 2 (bodyF Tryz.f12))) (orc 142 49 2 hd12_2 ys12_2 W12_2 Q12_2) :=
  Lone.of CxOK12 (Lall.LOK rfl (by kernel_rfl) (Lall.skip (by kernel_rfl) (Lall.skip (by kernel_rfl) (Lall.skip (by kernel_rfl) (Lall.skip (by kernel_rfl) trivial))))) (by kernel_rfl) (fun x => (r12_2 F33 G33 W12_0 Q12_0 W12_2 Q12_2 W12_6 Q12_6 W12_4 Q12_4 x.1 x.2.1 x.2.2.1).trans (by first | (delta V12_2 R12_2; with_reducible rfl) | rfl))
theorem l12_6 : Lone Tryz.prog C12 6 (.loop (loopB 6 (bodyF Tryz.f12))) (orc 142 97 6 hd12_6 ys12_6 W12_6 Q12_6) :=
  Lone.of CxOK12 (Lall.LOK rfl (by kernel_rfl) (Lall.skip (by kernel_rfl) (Lall.skip (by kernel_rfl) (Lall.skip (by kernel_rfl) (Lall.skip (by kernel_rfl) trivial))))) (by kernel_rfl) (fun x => (r12_6 F33 G33 W12_0 Q12_0 W12_2 Q12_2 W12_6 Q12_6 W12_4 Q12_4 x.1 x.2.1 x.2.2.1 x.2.2.2.1).trans (by first | (delta V12_6 R12_6; with_reducible rfl) | rfl))
theorem l12_4 : Lone Tryz.prog C12 4 (.loop (loopB 4 (bodyF Tryz.f12))) (orc 142 73 4 hd12_4 ys12_4 W12_4 Q12_4) :=
  Lone.of CxOK12 (Lall.LOK rfl (by kernel_rfl) (Lall.skip (by kernel_rfl) (Lall.skip (by kernel_rfl) (Lall.cons (by kernel_rfl) l12_6 (Lall.skip (by kernel_rfl) trivial))))) (by kernel_rfl) (fun x => (r12_4 F33 G33 W12_0 Q12_0 W12_2 Q12_2 W12_6 Q12_6 W12_4 Q12_4 x.1 x.2.1 x.2.2.1).trans (by first | (delta V12_4 R12_4; with_reducible rfl) | rfl))
theorem LOK12 : LOK Tryz.prog C12 0 (bodyF Tryz.f12) := (Lall.LOK rfl (by kernel_rfl) (Lall.cons (by kernel_rfl) l12_0 (Lall.cons (by kernel_rfl) l12_2 (Lall.cons (by kernel_rfl) l12_6 (Lall.cons (by kernel_rfl) l12_4 trivial)))))
noncomputable def E12 : (KDx6 × Unit) → Option Bool := fun x => S12 F33 G33 W12_0 Q12_0 W12_2 Q12_2 W12_6 Q12_6 W12_4 Q12_4 x.1
noncomputable def F12 : (KDx6 × Unit) → Bool := fun x => (E12 x).getD (dflt .bool)
noncomputable def G12 : (KDx6 × Unit) → Bool := fun x => (E12 x).isSome
theorem p12 : ∀ x, G12 x = true → PureOK Tryz.prog 12 (mkA [KTx22] x) ⟨.bool, F12 x⟩ :=
  PureOK.ofS (ts := [KTx22]) (T := .bool) (S := E12) CxOK12 Tryz.func12 (LOK.fn LOK12) (fun x => t12 F33 G33 W12_0 Q12_0 W12_2 Q12_2 W12_6 Q12_6 W12_4 Q12_4 x.1)
noncomputable def kn13 : Kn := kOf [(16, sm [(.vsl KTx25)] KTx27 F16 G16), (26, sm [(.pair KTx22 KTx29)] (.tup KTx23 KTx26) F26 G26), (34, sm [(.vsl KTx25)] (.vsl .bool) F34 G34), (35, sm [KTx22] KTx22 F35 G35)]
theorem knOK13 : KOK Tryz.prog kn13 := (KOK.cons Tryz.call16 (SmOK.sm p16) (KOK.cons Tryz.call26 (SmOK.sm p26) (KOK.cons Tryz.call34 (SmOK.sm p34) (KOK.cons Tryz.call35 (SmOK.sm p35) KOK.nil))))
noncomputable def V13_0 : ((List KDx6) × (List Int) × KDx32 × Int × Int × Unit) → Option (((List KDx6) × (List Int) × KDx32 × Int × Int × Unit) ⊕ ((List KDx6) × (List Int) × Unit)) := fun x => R13_0 F16 G16 F26 G26 F34 G34 F35 G35 (fun _ => ([], [], ())) (fun _ => false) x.1 x.2.1 x.2.2.1 x.2.2.2.1 x.2.2.2.2.1
noncomputable def W13_0 : ((List KDx6) × (List Int) × KDx32 × Int × Int × Unit) → ((List KDx6) × (List Int) × Unit) := whV (hd := hd13_0) (ys := ys13_0) V13_0
noncomputable def Q13_0 : ((List KDx6) × (List Int) × KDx32 × Int × Int × Unit) → Bool := whK (hd := hd13_0) (ys := ys13_0) V13_0
noncomputable def C13 : Cx := CxL Tryz.Θ kn13 (lOf [(0, orc 76 25 0 hd13_0 ys13_0 W13_0 Q13_0)])
theorem CxOK13 : CxOK Tryz.prog C13 := ⟨Tryz.tabOK, knOK13, by kernel_rfl, POK.none⟩
theorem l13_0 : Lone Tryz.prog C13 0 (.loop (loopB 0 (bodyF Tryz.f13))) (orc 76 25 0 hd13_0 ys13_0 W13_0 Q13_0) :=
  Lone.of CxOK13 (Lall.LOK rfl (by kernel_rfl) (Lall.skip (by kernel_rfl) trivial)) (by kernel_rfl) (fun x => (r13_0 F16 G16 F26 G26 F34 G34 F35 G35 W13_0 Q13_0 x.1 x.2.1 x.2.2.1 x.2.2.2.1 x.2.2.2.2.1).trans (by first | (delta V13_0 R13_0; with_reducible rfl) | rfl))
theorem LOK13 : LOK Tryz.prog C13 0 (bodyF Tryz.f13) := (Lall.LOK rfl (by kernel_rfl) (Lall.cons (by kernel_rfl) l13_0 trivial))
noncomputable def E13 : (KDx6 × (List (Int × KDx1)) × KDx30 × Int × Unit) → Option ((List KDx6) × KDx33) := fun x => S13 F16 G16 F26 G26 F34 G34 F35 G35 W13_0 Q13_0 x.1 x.2.1 x.2.2.1 x.2.2.2.1
noncomputable def F13 : (KDx6 × (List (Int × KDx1)) × KDx30 × Int × Unit) → ((List KDx6) × KDx33) := fun x => (E13 x).getD (dflt KTx35)
noncomputable def G13 : (KDx6 × (List (Int × KDx1)) × KDx30 × Int × Unit) → Bool := fun x => (E13 x).isSome
theorem p13 : ∀ x, G13 x = true → PureOK Tryz.prog 13 (mkA [KTx22, (.vsl KTx24), (.vsl KTx25), (.int .i64)] x) ⟨KTx35, F13 x⟩ :=
  PureOK.ofS (ts := [KTx22, (.vsl KTx24), (.vsl KTx25), (.int .i64)]) (T := KTx35) (S := E13) CxOK13 Tryz.func13 (LOK.fn LOK13) (fun x => t13 F16 G16 F26 G26 F34 G34 F35 G35 W13_0 Q13_0 x.1 x.2.1 x.2.2.1 x.2.2.2.1)
end Go.Proofs
