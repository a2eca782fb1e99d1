import Derived.Test.YtibiflonpfehiaaBN
import Derived.Test.YtibiflonpfehiaaGc
namespace Go.Proofs
open Go.GX
set_option linter.unusedVariables false
set_option maxRecDepth 100000

noncomputable def kn40 : Kn := kOf []
theorem knOK40 : KOK Try.prog kn40 := KOK.nil
noncomputable def V40_0 : (Int × (List UInt8) × Unit) → Option ((Int × (List UInt8) × Unit) ⊕ ((List UInt8) × Unit)) := fun x => R40_0  (fun _ => ([], ())) (fun _ => false) x.1 x.2.1
noncomputable def W40_0 : (Int × (List UInt8) × Unit) → ((List UInt8) × Unit) := whV (hd := hd40_0) (ys := ys40_0) V40_0
noncomputable def Q40_0 : (Int × (List UInt8) × Unit) → Bool := whK (hd := hd40_0) (ys := ys40_0) V40_0
noncomputable def C40 : Cx := CxL Try.Θ kn40 (lOf [(0, orc 25 25 0 hd40_0 ys40_0 W40_0 Q40_0)])
theorem CxOK40 : CxOK Try.prog C40 := ⟨Try.tabOK, knOK40, by kernel_rfl⟩
theorem l40_0 : Lone Try.prog C40 0 (.loop (loopB 0 (bodyF Try.f40))) (orc 25 25 0 hd40_0 ys40_0 W40_0 Q40_0) :=
  Lone.of CxOK40 (Lall.LOK rfl (by kernel_rfl) (Lall.skip (by kernel_rfl) trivial)) (by kernel_rfl) (fun x => (r40_0  W40_0 Q40_0 x.1 x.2.1).trans (by rfl))
theorem LOK40 : LOK Try.prog C40 0 (bodyF Try.f40) := (Lall.LOK rfl (by kernel_rfl) (Lall.cons (by kernel_rfl) l40_0 trivial))
noncomputable def E40 : (Int × Unit) → Option (List UInt8) := fun x => S40  W40_0 Q40_0 x.1
noncomputable def F40 : (Int × Unit) → (List UInt8) := fun x => (E40 x).getD (dflt .str)
noncomputable def G40 : (Int × Unit) → Bool := fun x => (E40 x).isSome
theorem p40 : ∀ x, G40 x = true → PureOK Try.prog 40 (mkA [(.int .u64)] x) ⟨.str, F40 x⟩ :=
  PureOK.ofS (ts := [(.int .u64)]) (T := .str) (S := E40) CxOK40 Try.func40 (LOK.fn LOK40) (fun x => t40  W40_0 Q40_0 x.1)
noncomputable def kn42 : Kn := kOf [(40, sm [(.int .u64)] .str F40 G40)]
theorem knOK42 : KOK Try.prog kn42 := (KOK.cons Try.call40 (SmOK.sm p40) KOK.nil)
noncomputable def C42 : Cx := CxL Try.Θ kn42 (lOf [])
theorem CxOK42 : CxOK Try.prog C42 := ⟨Try.tabOK, knOK42, by kernel_rfl⟩
theorem LOK42 : LOK Try.prog C42 0 (bodyF Try.f42) := (Lall.LOK rfl (by kernel_rfl) trivial)
noncomputable def E42 : (Int × Unit) → Option (List UInt8) := fun x => S42 F40 G40  x.1
noncomputable def F42 : (Int × Unit) → (List UInt8) := fun x => (E42 x).getD (dflt .str)
noncomputable def G42 : (Int × Unit) → Bool := fun x => (E42 x).isSome
theorem p42 : ∀ x, G42 x = true → PureOK Try.prog 42 (mkA [(.int .i64)] x) ⟨.str, F42 x⟩ :=
  PureOK.ofS (ts := [(.int .i64)]) (T := .str) (S := E42) CxOK42 Try.func42 (LOK.fn LOK42) (fun x => t42 F40 G40  x.1)
noncomputable def kn38 : Kn := kOf [(42, sm [(.int .i64)] .str F42 G42)]
theorem knOK38 : KOK Try.prog kn38 := (KOK.cons Try.call42 (SmOK.sm p42) KOK.nil)
noncomputable def C38 : Cx := CxL Try.Θ kn38 (lOf [])
theorem CxOK38 : CxOK Try.prog C38 := ⟨Try.tabOK, knOK38, by kernel_rfl⟩
theorem LOK38 : LOK Try.prog C38 0 (bodyF Try.f38) := (Lall.LOK rfl (by kernel_rfl) trivial)
noncomputable def E38 : ((List UInt8) × Int × Unit) → Option (List UInt8) := fun x => S38 F42 G42  x.1 x.2.1
noncomputable def F38 : ((List UInt8) × Int × Unit) → (List UInt8) := fun x => (E38 x).getD (dflt .str)
noncomputable def G38 : ((List UInt8) × Int × Unit) → Bool := fun x => (E38 x).isSome
theorem p38 : ∀ x, G38 x = true → PureOK Try.prog 38 (mkA [.str, (.int .i64)] x) ⟨.str, F38 x⟩ :=
  PureOK.ofS (ts := [.str, (.int .i64)]) (T := .str) (S := E38) CxOK38 Try.func38 (LOK.fn LOK38) (fun x => t38 F42 G42  x.1 x.2.1)
noncomputable def kn46 : Kn := kOf [(38, sm [.str, (.int .i64)] .str F38 G38), (42, sm [(.int .i64)] .str F42 G42)]
theorem knOK46 : KOK Try.prog kn46 := (KOK.cons Try.call38 (SmOK.sm p38) (KOK.cons Try.call42 (SmOK.sm p42) KOK.nil))
noncomputable def V46_1000012 : (Unit × (List UInt8) × (Int × (Int × KDn0)) × Unit) → Option ((List UInt8) × Unit) := fun x => R46_1000012 F38 G38 F42 G42 (fun _ => ([], ())) (fun _ => false) (fun _ => ([], ())) (fun _ => false) x.1 x.2.1 x.2.2.1
noncomputable def W46_1000012 : (Unit × (List UInt8) × (Int × (Int × KDn0)) × Unit) → ((List UInt8) × Unit) := jnV (hd := hd46_1000012) (ys := ys46_1000012) V46_1000012
noncomputable def Q46_1000012 : (Unit × (List UInt8) × (Int × (Int × KDn0)) × Unit) → Bool := jnK (hd := hd46_1000012) (ys := ys46_1000012) V46_1000012
noncomputable def V46_1000010 : (Unit × (List UInt8) × (Int × (Int × KDn0)) × Unit) → Option ((List UInt8) × Unit) := fun x => R46_1000010 F38 G38 F42 G42 W46_1000012 Q46_1000012 (fun _ => ([], ())) (fun _ => false) x.1 x.2.1 x.2.2.1
noncomputable def W46_1000010 : (Unit × (List UInt8) × (Int × (Int × KDn0)) × Unit) → ((List UInt8) × Unit) := jnV (hd := hd46_1000010) (ys := ys46_1000010) V46_1000010
noncomputable def Q46_1000010 : (Unit × (List UInt8) × (Int × (Int × KDn0)) × Unit) → Bool := jnK (hd := hd46_1000010) (ys := ys46_1000010) V46_1000010
noncomputable def C46 : Cx := CxL Try.Θ kn46 (lOf [(1000012, orj 54 49 hd46_1000012 ys46_1000012 W46_1000012 Q46_1000012), (1000010, orj 54 25 hd46_1000010 ys46_1000010 W46_1000010 Q46_1000010)])
theorem CxOK46 : CxOK Try.prog C46 := ⟨Try.tabOK, knOK46, by kernel_rfl⟩
theorem l46_1000012 : Lone Try.prog C46 1000012 (joinB 1000012 (bodyF Try.f46)) (orj 54 49 hd46_1000012 ys46_1000012 W46_1000012 Q46_1000012) :=
  Lone.join CxOK46 (by kernel_rfl) (Lall.LOK rfl (by kernel_rfl) (Lall.skip (by kernel_rfl) (Lall.skip (by kernel_rfl) trivial))) (by kernel_rfl) (fun x => (r46_1000012 F38 G38 F42 G42 W46_1000012 Q46_1000012 W46_1000010 Q46_1000010 x.1 x.2.1 x.2.2.1).trans (by rfl))
theorem l46_1000010 : Lone Try.prog C46 1000010 (joinB 1000010 (bodyF Try.f46)) (orj 54 25 hd46_1000010 ys46_1000010 W46_1000010 Q46_1000010) :=
  Lone.join CxOK46 (by kernel_rfl) (Lall.LOK rfl (by kernel_rfl) (Lall.cons (by kernel_rfl) l46_1000012 (Lall.skip (by kernel_rfl) trivial))) (by kernel_rfl) (fun x => (r46_1000010 F38 G38 F42 G42 W46_1000012 Q46_1000012 W46_1000010 Q46_1000010 x.1 x.2.1 x.2.2.1).trans (by rfl))
theorem LOK46 : LOK Try.prog C46 0 (bodyF Try.f46) := (Lall.LOK rfl (by kernel_rfl) (Lall.cons (by kernel_rfl) l46_1000012 (Lall.cons (by kernel_rfl) l46_1000010 trivial)))
noncomputable def E46 : ((Int × (Int × KDn0)) × Unit) → Option (List UInt8) := fun x => S46 F38 G38 F42 G42 W46_1000012 Q46_1000012 W46_1000010 Q46_1000010 x.1
noncomputable def F46 : ((Int × (Int × KDn0)) × Unit) → (List UInt8) := fun x => (E46 x).getD (dflt .str)
noncomputable def G46 : ((Int × (Int × KDn0)) × Unit) → Bool := fun x => (E46 x).isSome
theorem p46 : ∀ x, G46 x = true → PureOK Try.prog 46 (mkA [KTn6] x) ⟨.str, F46 x⟩ :=
  PureOK.ofS (ts := [KTn6]) (T := .str) (S := E46) CxOK46 Try.func46 (LOK.fn LOK46) (fun x => t46 F38 G38 F42 G42 W46_1000012 Q46_1000012 W46_1000010 Q46_1000010 x.1)
noncomputable def kn39 : Kn := kOf []
theorem knOK39 : KOK Try.prog kn39 := KOK.nil
noncomputable def C39 : Cx := CxL Try.Θ kn39 (lOf [])
theorem CxOK39 : CxOK Try.prog C39 := ⟨Try.tabOK, knOK39, by kernel_rfl⟩
theorem LOK39 : LOK Try.prog C39 0 (bodyF Try.f39) := (Lall.LOK rfl (by kernel_rfl) trivial)
noncomputable def E39 : (Int × Unit) → Option Bool := fun x => S39   x.1
noncomputable def F39 : (Int × Unit) → Bool := fun x => (E39 x).getD (dflt .bool)
noncomputable def G39 : (Int × Unit) → Bool := fun x => (E39 x).isSome
theorem p39 : ∀ x, G39 x = true → PureOK Try.prog 39 (mkA [(.int .i64)] x) ⟨.bool, F39 x⟩ :=
  PureOK.ofS (ts := [(.int .i64)]) (T := .bool) (S := E39) CxOK39 Try.func39 (LOK.fn LOK39) (fun x => t39   x.1)
noncomputable def kn43 : Kn := kOf [(38, sm [.str, (.int .i64)] .str F38 G38), (39, sm [(.int .i64)] .bool F39 G39), (42, sm [(.int .i64)] .str F42 G42), (46, sm [KTn6] .str F46 G46)]
theorem knOK43 : KOK Try.prog kn43 := (KOK.cons Try.call38 (SmOK.sm p38) (KOK.cons Try.call39 (SmOK.sm p39) (KOK.cons Try.call42 (SmOK.sm p42) (KOK.cons Try.call46 (SmOK.sm p46) KOK.nil))))
noncomputable def V43_1000020 : (Unit × (List UInt8) × (List UInt8) × (List UInt8) × Int × Bool × (List UInt8) × (Int × (Int × KDn0)) × Unit) → Option ((List UInt8) × Unit) := fun x => R43_1000020 F38 G38 F39 G39 F42 G42 F46 G46 (fun _ => ([], ())) (fun _ => false) (fun _ => ([], ())) (fun _ => false) (fun _ => ([], ())) (fun _ => false) (fun _ => ([], ())) (fun _ => false) x.1 x.2.1 x.2.2.1 x.2.2.2.1 x.2.2.2.2.1 x.2.2.2.2.2.1 x.2.2.2.2.2.2.1 x.2.2.2.2.2.2.2.1
noncomputable def W43_1000020 : (Unit × (List UInt8) × (List UInt8) × (List UInt8) × Int × Bool × (List UInt8) × (Int × (Int × KDn0)) × Unit) → ((List UInt8) × Unit) := jnV (hd := hd43_1000020) (ys := ys43_1000020) V43_1000020
noncomputable def Q43_1000020 : (Unit × (List UInt8) × (List UInt8) × (List UInt8) × Int × Bool × (List UInt8) × (Int × (Int × KDn0)) × Unit) → Bool := jnK (hd := hd43_1000020) (ys := ys43_1000020) V43_1000020
noncomputable def V43_1000017 : (Unit × (List UInt8) × (List UInt8) × (List UInt8) × Int × Bool × (Int × (Int × KDn0)) × Unit) → Option ((List UInt8) × Unit) := fun x => R43_1000017 F38 G38 F39 G39 F42 G42 F46 G46 W43_1000020 Q43_1000020 (fun _ => ([], ())) (fun _ => false) (fun _ => ([], ())) (fun _ => false) (fun _ => ([], ())) (fun _ => false) x.1 x.2.1 x.2.2.1 x.2.2.2.1 x.2.2.2.2.1 x.2.2.2.2.2.1 x.2.2.2.2.2.2.1
noncomputable def W43_1000017 : (Unit × (List UInt8) × (List UInt8) × (List UInt8) × Int × Bool × (Int × (Int × KDn0)) × Unit) → ((List UInt8) × Unit) := jnV (hd := hd43_1000017) (ys := ys43_1000017) V43_1000017
noncomputable def Q43_1000017 : (Unit × (List UInt8) × (List UInt8) × (List UInt8) × Int × Bool × (Int × (Int × KDn0)) × Unit) → Bool := jnK (hd := hd43_1000017) (ys := ys43_1000017) V43_1000017
noncomputable def V43_1000009 : (Unit × (List UInt8) × (List UInt8) × (List UInt8) × Int × Bool × (Int × (Int × KDn0)) × Unit) → Option ((List UInt8) × Unit) := fun x => R43_1000009 F38 G38 F39 G39 F42 G42 F46 G46 W43_1000020 Q43_1000020 W43_1000017 Q43_1000017 (fun _ => ([], ())) (fun _ => false) (fun _ => ([], ())) (fun _ => false) x.1 x.2.1 x.2.2.1 x.2.2.2.1 x.2.2.2.2.1 x.2.2.2.2.2.1 x.2.2.2.2.2.2.1
noncomputable def W43_1000009 : (Unit × (List UInt8) × (List UInt8) × (List UInt8) × Int × Bool × (Int × (Int × KDn0)) × Unit) → ((List UInt8) × Unit) := jnV (hd := hd43_1000009) (ys := ys43_1000009) V43_1000009
noncomputable def Q43_1000009 : (Unit × (List UInt8) × (List UInt8) × (List UInt8) × Int × Bool × (Int × (Int × KDn0)) × Unit) → Bool := jnK (hd := hd43_1000009) (ys := ys43_1000009) V43_1000009
noncomputable def V43_1000005 : (Unit × (List UInt8) × (Int × (Int × KDn0)) × Unit) → Option ((List UInt8) × Unit) := fun x => R43_1000005 F38 G38 F39 G39 F42 G42 F46 G46 W43_1000020 Q43_1000020 W43_1000017 Q43_1000017 W43_1000009 Q43_1000009 (fun _ => ([], ())) (fun _ => false) x.1 x.2.1 x.2.2.1
noncomputable def W43_1000005 : (Unit × (List UInt8) × (Int × (Int × KDn0)) × Unit) → ((List UInt8) × Unit) := jnV (hd := hd43_1000005) (ys := ys43_1000005) V43_1000005
noncomputable def Q43_1000005 : (Unit × (List UInt8) × (Int × (Int × KDn0)) × Unit) → Bool := jnK (hd := hd43_1000005) (ys := ys43_1000005) V43_1000005
noncomputable def C43 : Cx := CxL Try.Θ kn43 (lOf [(1000020, orj 153 107 hd43_1000020 ys43_1000020 W43_1000020 Q43_1000020), (1000017, orj 153 83 hd43_1000017 ys43_1000017 W43_1000017 Q43_1000017), (1000009, orj 153 59 hd43_1000009 ys43_1000009 W43_1000009 Q43_1000009), (1000005, orj 153 25 hd43_1000005 ys43_1000005 W43_1000005 Q43_1000005)])
theorem CxOK43 : CxOK Try.prog C43 := ⟨Try.tabOK, knOK43, by kernel_rfl⟩
theorem l43_1000020 : Lone Try.prog C43 1000020 (joinB 1000020 (bodyF Try.f43)) (orj 153 107 hd43_1000020 ys43_1000020 W43_1000020 Q43_1000020) :=
  Lone.join CxOK43 (by kernel_rfl) (Lall.LOK rfl (by kernel_rfl) (Lall.skip (by kernel_rfl) (Lall.skip (by kernel_rfl) (Lall.skip (by kernel_rfl) (Lall.skip (by kernel_rfl) trivial))))) (by kernel_rfl) (fun x => (r43_1000020 F38 G38 F39 G39 F42 G42 F46 G46 W43_1000020 Q43_1000020 W43_1000017 Q43_1000017 W43_1000009 Q43_1000009 W43_1000005 Q43_1000005 x.1 x.2.1 x.2.2.1 x.2.2.2.1 x.2.2.2.2.1 x.2.2.2.2.2.1 x.2.2.2.2.2.2.1 x.2.2.2.2.2.2.2.1).trans (by rfl))
theorem l43_1000017 : Lone Try.prog C43 1000017 (joinB 1000017 (bodyF Try.f43)) (orj 153 83 hd43_1000017 ys43_1000017 W43_1000017 Q43_1000017) :=
  Lone.join CxOK43 (by kernel_rfl) (Lall.LOK rfl (by kernel_rfl) (Lall.cons (by kernel_rfl) l43_1000020 (Lall.skip (by kernel_rfl) (Lall.skip (by kernel_rfl) (Lall.skip (by kernel_rfl) trivial))))) (by kernel_rfl) (fun x => (r43_1000017 F38 G38 F39 G39 F42 G42 F46 G46 W43_1000020 Q43_1000020 W43_1000017 Q43_1000017 W43_1000009 Q43_1000009 W43_1000005 Q43_1000005 x.1 x.2.1 x.2.2.1 x.2.2.2.1 x.2.2.2.2.1 x.2.2.2.2.2.1 x.2.2.2.2.2.2.1).trans (by rfl))
theorem l43_1000009 : Lone Try.prog C43 1000009 (joinB 1000009 (bodyF Try.f43)) (orj 153 59 hd43_1000009 ys43_1000009 W43_1000009 Q43_1000009) :=
  Lone.join CxOK43 (by kernel_rfl) (Lall.LOK rfl (by kernel_rfl) (Lall.cons (by kernel_rfl) l43_1000020 (Lall.cons (by kernel_rfl) l43_1000017 (Lall.skip (by kernel_rfl) (Lall.skip (by kernel_rfl) trivial))))) (by kernel_rfl) (fun x => (r43_1000009 F38 G38 F39 G39 F42 G42 F46 G46 W43_1000020 Q43_1000020 W43_1000017 Q43_1000017 W43_1000009 Q43_1000009 W43_1000005 Q43_1000005 x.1 x.2.1 x.2.2.1 x.2.2.2.1 x.2.2.2.2.1 x.2.2.2.2.2.1 x.2.2.2.2.2.2.1).trans (by rfl))
theorem l43_1000005 : Lone Try.prog C43 1000005 (joinB 1000005 (bodyF Try.f43)) (orj 153 25 hd43_1000005 ys43_1000005 W43_1000005 Q43_1000005) :=
  Lone.join CxOK43 (by kernel_rfl) (Lall.LOK rfl (by kernel_rfl) (Lall.cons (by kernel_rfl) l43_1000020 (Lall.cons (by kernel_rfl) l43_1000017 (Lall.cons (by kernel_rfl) l43_1000009 (Lall.skip (by kernel_rfl) trivial))))) (by kernel_rfl) (fun x => (r43_1000005 F38 G38 F39 G39 F42 G42 F46 G46 W43_1000020 Q43_1000020 W43_1000017 Q43_1000017 W43_1000009 Q43_1000009 W43_1000005 Q43_1000005 x.1 x.2.1 x.2.2.1).trans (by rfl))
theorem LOK43 : LOK Try.prog C43 0 (bodyF Try.f43) := (Lall.LOK rfl (by kernel_rfl) (Lall.cons (by kernel_rfl) l43_1000020 (Lall.cons (by kernel_rfl) l43_1000017 (Lall.cons (by kernel_rfl) l43_1000009 (Lall.cons (by kernel_rfl) l43_1000005 trivial)))))
noncomputable def E43 : ((Int × (Int × KDn0)) × Unit) → Option (List UInt8) := fun x => S43 F38 G38 F39 G39 F42 G42 F46 G46 W43_1000020 Q43_1000020 W43_1000017 Q43_1000017 W43_1000009 Q43_1000009 W43_1000005 Q43_1000005 x.1
noncomputable def F43 : ((Int × (Int × KDn0)) × Unit) → (List UInt8) := fun x => (E43 x).getD (dflt .str)
noncomputable def G43 : ((Int × (Int × KDn0)) × Unit) → Bool := fun x => (E43 x).isSome
theorem p43 : ∀ x, G43 x = true → PureOK Try.prog 43 (mkA [KTn6] x) ⟨.str, F43 x⟩ :=
  PureOK.ofS (ts := [KTn6]) (T := .str) (S := E43) CxOK43 Try.func43 (LOK.fn LOK43) (fun x => t43 F38 G38 F39 G39 F42 G42 F46 G46 W43_1000020 Q43_1000020 W43_1000017 Q43_1000017 W43_1000009 Q43_1000009 W43_1000005 Q43_1000005 x.1)
noncomputable def kn47 : Kn := kOf []
theorem knOK47 : KOK Try.prog kn47 := KOK.nil
noncomputable def C47 : Cx := CxL Try.Θ kn47 (lOf [])
theorem CxOK47 : CxOK Try.prog C47 := ⟨Try.tabOK, knOK47, by kernel_rfl⟩
theorem LOK47 : LOK Try.prog C47 0 (bodyF Try.f47) := (Lall.LOK rfl (by kernel_rfl) trivial)
noncomputable def E47 : (Int × Unit) → Option Bool := fun x => S47   x.1
noncomputable def F47 : (Int × Unit) → Bool := fun x => (E47 x).getD (dflt .bool)
noncomputable def G47 : (Int × Unit) → Bool := fun x => (E47 x).isSome
theorem p47 : ∀ x, G47 x = true → PureOK Try.prog 47 (mkA [(.int .i64)] x) ⟨.bool, F47 x⟩ :=
  PureOK.ofS (ts := [(.int .i64)]) (T := .bool) (S := E47) CxOK47 Try.func47 (LOK.fn LOK47) (fun x => t47   x.1)
noncomputable def kn52 : Kn := kOf []
theorem knOK52 : KOK Try.prog kn52 := KOK.nil
noncomputable def C52 : Cx := CxL Try.Θ kn52 (lOf [])
theorem CxOK52 : CxOK Try.prog C52 := ⟨Try.tabOK, knOK52, by kernel_rfl⟩
theorem LOK52 : LOK Try.prog C52 0 (bodyF Try.f52) := (Lall.LOK rfl (by kernel_rfl) trivial)
noncomputable def E52 : ((Int × (Int × KDn0)) × Unit) → Option Int := fun x => S52   x.1
noncomputable def F52 : ((Int × (Int × KDn0)) × Unit) → Int := fun x => (E52 x).getD (dflt (.int .i64))
noncomputable def G52 : ((Int × (Int × KDn0)) × Unit) → Bool := fun x => (E52 x).isSome
theorem p52 : ∀ x, G52 x = true → PureOK Try.prog 52 (mkA [KTn6] x) ⟨(.int .i64), F52 x⟩ :=
  PureOK.ofS (ts := [KTn6]) (T := (.int .i64)) (S := E52) CxOK52 Try.func52 (LOK.fn LOK52) (fun x => t52   x.1)
noncomputable def kn51 : Kn := kOf [(52, sm [KTn6] (.int .i64) F52 G52)]
theorem knOK51 : KOK Try.prog kn51 := (KOK.cons Try.call52 (SmOK.sm p52) KOK.nil)
noncomputable def C51 : Cx := CxL Try.Θ kn51 (lOf [])
theorem CxOK51 : CxOK Try.prog C51 := ⟨Try.tabOK, knOK51, by kernel_rfl⟩
theorem LOK51 : LOK Try.prog C51 0 (bodyF Try.f51) := (Lall.LOK rfl (by kernel_rfl) trivial)
noncomputable def E51 : ((Int × (Int × KDn0)) × Unit) → Option Int := fun x => S51 F52 G52  x.1
noncomputable def F51 : ((Int × (Int × KDn0)) × Unit) → Int := fun x => (E51 x).getD (dflt (.int .i64))
noncomputable def G51 : ((Int × (Int × KDn0)) × Unit) → Bool := fun x => (E51 x).isSome
theorem p51 : ∀ x, G51 x = true → PureOK Try.prog 51 (mkA [KTn6] x) ⟨(.int .i64), F51 x⟩ :=
  PureOK.ofS (ts := [KTn6]) (T := (.int .i64)) (S := E51) CxOK51 Try.func51 (LOK.fn LOK51) (fun x => t51 F52 G52  x.1)
noncomputable def kn48 : Kn := kOf [(42, sm [(.int .i64)] .str F42 G42), (51, sm [KTn6] (.int .i64) F51 G51)]
theorem knOK48 : KOK Try.prog kn48 := (KOK.cons Try.call42 (SmOK.sm p42) (KOK.cons Try.call51 (SmOK.sm p51) KOK.nil))
noncomputable def C48 : Cx := CxL Try.Θ kn48 (lOf [])
theorem CxOK48 : CxOK Try.prog C48 := ⟨Try.tabOK, knOK48, by kernel_rfl⟩
theorem LOK48 : LOK Try.prog C48 0 (bodyF Try.f48) := (Lall.LOK rfl (by kernel_rfl) trivial)
noncomputable def E48 : ((Int × (Int × KDn0)) × Unit) → Option (List UInt8) := fun x => S48 F42 G42 F51 G51  x.1
noncomputable def F48 : ((Int × (Int × KDn0)) × Unit) → (List UInt8) := fun x => (E48 x).getD (dflt .str)
noncomputable def G48 : ((Int × (Int × KDn0)) × Unit) → Bool := fun x => (E48 x).isSome
theorem p48 : ∀ x, G48 x = true → PureOK Try.prog 48 (mkA [KTn6] x) ⟨.str, F48 x⟩ :=
  PureOK.ofS (ts := [KTn6]) (T := .str) (S := E48) CxOK48 Try.func48 (LOK.fn LOK48) (fun x => t48 F42 G42 F51 G51  x.1)
noncomputable def kn49 : Kn := kOf [(38, sm [.str, (.int .i64)] .str F38 G38), (40, sm [(.int .u64)] .str F40 G40), (42, sm [(.int .i64)] .str F42 G42)]
theorem knOK49 : KOK Try.prog kn49 := (KOK.cons Try.call38 (SmOK.sm p38) (KOK.cons Try.call40 (SmOK.sm p40) (KOK.cons Try.call42 (SmOK.sm p42) KOK.nil)))
noncomputable def C49 : Cx := CxL Try.Θ kn49 (lOf [])
theorem CxOK49 : CxOK Try.prog C49 := ⟨Try.tabOK, knOK49, by kernel_rfl⟩
theorem LOK49 : LOK Try.prog C49 0 (bodyF Try.f49) := (Lall.LOK rfl (by kernel_rfl) trivial)
noncomputable def E49 : (Int × Int × Unit) → Option (List UInt8) := fun x => S49 F38 G38 F40 G40 F42 G42  x.1 x.2.1
noncomputable def F49 : (Int × Int × Unit) → (List UInt8) := fun x => (E49 x).getD (dflt .str)
noncomputable def G49 : (Int × Int × Unit) → Bool := fun x => (E49 x).isSome
theorem p49 : ∀ x, G49 x = true → PureOK Try.prog 49 (mkA [(.int .i64), (.int .i64)] x) ⟨.str, F49 x⟩ :=
  PureOK.ofS (ts := [(.int .i64), (.int .i64)]) (T := .str) (S := E49) CxOK49 Try.func49 (LOK.fn LOK49) (fun x => t49 F38 G38 F40 G40 F42 G42  x.1 x.2.1)
noncomputable def kn44 : Kn := kOf [(38, sm [.str, (.int .i64)] .str F38 G38), (39, sm [(.int .i64)] .bool F39 G39), (42, sm [(.int .i64)] .str F42 G42), (47, sm [(.int .i64)] .bool F47 G47), (48, sm [KTn6] .str F48 G48), (49, sm [(.int .i64), (.int .i64)] .str F49 G49)]
theorem knOK44 : KOK Try.prog kn44 := (KOK.cons Try.call38 (SmOK.sm p38) (KOK.cons Try.call39 (SmOK.sm p39) (KOK.cons Try.call42 (SmOK.sm p42) (KOK.cons Try.call47 (SmOK.sm p47) (KOK.cons Try.call48 (SmOK.sm p48) (KOK.cons Try.call49 (SmOK.sm p49) KOK.nil))))))
noncomputable def V44_1000013 : (Unit × (List UInt8) × (List UInt8) × (Int × (Int × KDn0)) × Unit) → Option ((List UInt8) × Unit) := fun x => R44_1000013 F38 G38 F39 G39 F42 G42 F47 G47 F48 G48 F49 G49 (fun _ => ([], ())) (fun _ => false) (fun _ => ([], ())) (fun _ => false) (fun _ => ([], ())) (fun _ => false) (fun _ => ([], ())) (fun _ => false) (fun _ => ([], ())) (fun _ => false) (fun _ => ([], ())) (fun _ => false) (fun _ => ([], ())) (fun _ => false) x.1 x.2.1 x.2.2.1 x.2.2.2.1
noncomputable def W44_1000013 : (Unit × (List UInt8) × (List UInt8) × (Int × (Int × KDn0)) × Unit) → ((List UInt8) × Unit) := jnV (hd := hd44_1000013) (ys := ys44_1000013) V44_1000013
noncomputable def Q44_1000013 : (Unit × (List UInt8) × (List UInt8) × (Int × (Int × KDn0)) × Unit) → Bool := jnK (hd := hd44_1000013) (ys := ys44_1000013) V44_1000013
noncomputable def V44_1000019 : (Unit × (Int × (Int × KDn0)) × Unit) → Option ((List UInt8) × Unit) := fun x => R44_1000019 F38 G38 F39 G39 F42 G42 F47 G47 F48 G48 F49 G49 W44_1000013 Q44_1000013 (fun _ => ([], ())) (fun _ => false) (fun _ => ([], ())) (fun _ => false) (fun _ => ([], ())) (fun _ => false) (fun _ => ([], ())) (fun _ => false) (fun _ => ([], ())) (fun _ => false) (fun _ => ([], ())) (fun _ => false) x.1 x.2.1
noncomputable def W44_1000019 : (Unit × (Int × (Int × KDn0)) × Unit) → ((List UInt8) × Unit) := jnV (hd := hd44_1000019) (ys := ys44_1000019) V44_1000019
noncomputable def Q44_1000019 : (Unit × (Int × (Int × KDn0)) × Unit) → Bool := jnK (hd := hd44_1000019) (ys := ys44_1000019) V44_1000019
noncomputable def V44_1000045 : (Unit × (List UInt8) × (Int × (Int × KDn0)) × Unit) → Option ((List UInt8) × Unit) := fun x => R44_1000045 F38 G38 F39 G39 F42 G42 F47 G47 F48 G48 F49 G49 W44_1000013 Q44_1000013 W44_1000019 Q44_1000019 (fun _ => ([], ())) (fun _ => false) (fun _ => ([], ())) (fun _ => false) (fun _ => ([], ())) (fun _ => false) (fun _ => ([], ())) (fun _ => false) (fun _ => ([], ())) (fun _ => false) x.1 x.2.1 x.2.2.1
noncomputable def W44_1000045 : (Unit × (List UInt8) × (Int × (Int × KDn0)) × Unit) → ((List UInt8) × Unit) := jnV (hd := hd44_1000045) (ys := ys44_1000045) V44_1000045
noncomputable def Q44_1000045 : (Unit × (List UInt8) × (Int × (Int × KDn0)) × Unit) → Bool := jnK (hd := hd44_1000045) (ys := ys44_1000045) V44_1000045
noncomputable def V44_1000043 : (Unit × (List UInt8) × (Int × (Int × KDn0)) × Unit) → Option ((List UInt8) × Unit) := fun x => R44_1000043 F38 G38 F39 G39 F42 G42 F47 G47 F48 G48 F49 G49 W44_1000013 Q44_1000013 W44_1000019 Q44_1000019 W44_1000045 Q44_1000045 (fun _ => ([], ())) (fun _ => false) (fun _ => ([], ())) (fun _ => false) (fun _ => ([], ())) (fun _ => false) (fun _ => ([], ())) (fun _ => false) x.1 x.2.1 x.2.2.1
noncomputable def W44_1000043 : (Unit × (List UInt8) × (Int × (Int × KDn0)) × Unit) → ((List UInt8) × Unit) := jnV (hd := hd44_1000043) (ys := ys44_1000043) V44_1000043
noncomputable def Q44_1000043 : (Unit × (List UInt8) × (Int × (Int × KDn0)) × Unit) → Bool := jnK (hd := hd44_1000043) (ys := ys44_1000043) V44_1000043
noncomputable def V44_1000024 : (Unit × (List UInt8) × (Int × (Int × KDn0)) × Unit) → Option ((List UInt8) × Unit) := fun x => R44_1000024 F38 G38 F39 G39 F42 G42 F47 G47 F48 G48 F49 G49 W44_1000013 Q44_1000013 W44_1000019 Q44_1000019 W44_1000045 Q44_1000045 W44_1000043 Q44_1000043 (fun _ => ([], ())) (fun _ => false) (fun _ => ([], ())) (fun _ => false) (fun _ => ([], ())) (fun _ => false) x.1 x.2.1 x.2.2.1
noncomputable def W44_1000024 : (Unit × (List UInt8) × (Int × (Int × KDn0)) × Unit) → ((List UInt8) × Unit) := jnV (hd := hd44_1000024) (ys := ys44_1000024) V44_1000024
noncomputable def Q44_1000024 : (Unit × (List UInt8) × (Int × (Int × KDn0)) × Unit) → Bool := jnK (hd := hd44_1000024) (ys := ys44_1000024) V44_1000024
noncomputable def V44_1000022 : (Unit × (List UInt8) × (Int × (Int × KDn0)) × Unit) → Option ((List UInt8) × Unit) := fun x => R44_1000022 F38 G38 F39 G39 F42 G42 F47 G47 F48 G48 F49 G49 W44_1000013 Q44_1000013 W44_1000019 Q44_1000019 W44_1000045 Q44_1000045 W44_1000043 Q44_1000043 W44_1000024 Q44_1000024 (fun _ => ([], ())) (fun _ => false) (fun _ => ([], ())) (fun _ => false) x.1 x.2.1 x.2.2.1
noncomputable def W44_1000022 : (Unit × (List UInt8) × (Int × (Int × KDn0)) × Unit) → ((List UInt8) × Unit) := jnV (hd := hd44_1000022) (ys := ys44_1000022) V44_1000022
noncomputable def Q44_1000022 : (Unit × (List UInt8) × (Int × (Int × KDn0)) × Unit) → Bool := jnK (hd := hd44_1000022) (ys := ys44_1000022) V44_1000022
noncomputable def V44_1000005 : (Unit × (List UInt8) × (List UInt8) × (Int × (Int × KDn0)) × Unit) → Option ((List UInt8) × Unit) := fun x => R44_1000005 F38 G38 F39 G39 F42 G42 F47 G47 F48 G48 F49 G49 W44_1000013 Q44_1000013 W44_1000019 Q44_1000019 W44_1000045 Q44_1000045 W44_1000043 Q44_1000043 W44_1000024 Q44_1000024 W44_1000022 Q44_1000022 (fun _ => ([], ())) (fun _ => false) x.1 x.2.1 x.2.2.1 x.2.2.2.1
noncomputable def W44_1000005 : (Unit × (List UInt8) × (List UInt8) × (Int × (Int × KDn0)) × Unit) → ((List UInt8) × Unit) := jnV (hd := hd44_1000005) (ys := ys44_1000005) V44_1000005
noncomputable def Q44_1000005 : (Unit × (List UInt8) × (List UInt8) × (Int × (Int × KDn0)) × Unit) → Bool := jnK (hd := hd44_1000005) (ys := ys44_1000005) V44_1000005
noncomputable def C44 : Cx := CxL Try.Θ kn44 (lOf [(1000013, orj 172 57 hd44_1000013 ys44_1000013 W44_1000013 Q44_1000013), (1000019, orj 172 57 hd44_1000019 ys44_1000019 W44_1000019 Q44_1000019), (1000045, orj 172 129 hd44_1000045 ys44_1000045 W44_1000045 Q44_1000045), (1000043, orj 172 105 hd44_1000043 ys44_1000043 W44_1000043 Q44_1000043), (1000024, orj 172 81 hd44_1000024 ys44_1000024 W44_1000024 Q44_1000024), (1000022, orj 172 57 hd44_1000022 ys44_1000022 W44_1000022 Q44_1000022), (1000005, orj 172 33 hd44_1000005 ys44_1000005 W44_1000005 Q44_1000005)])
theorem CxOK44 : CxOK Try.prog C44 := ⟨Try.tabOK, knOK44, by kernel_rfl⟩
theorem l44_1000013 : Lone Try.prog C44 1000013 (joinB 1000013 (bodyF Try.f44)) (orj 172 57 hd44_1000013 ys44_1000013 W44_1000013 Q44_1000013) :=
  Lone.join CxOK44 (by kernel_rfl) (Lall.LOK rfl (by kernel_rfl) (Lall.skip (by kernel_rfl) (Lall.skip (by kernel_rfl) (Lall.skip (by kernel_rfl) (Lall.skip (by kernel_rfl) (Lall.skip (by kernel_rfl) (Lall.skip (by kernel_rfl) (Lall.skip (by kernel_rfl) trivial)))))))) (by kernel_rfl) (fun x => (r44_1000013 F38 G38 F39 G39 F42 G42 F47 G47 F48 G48 F49 G49 W44_1000013 Q44_1000013 W44_1000019 Q44_1000019 W44_1000045 Q44_1000045 W44_1000043 Q44_1000043 W44_1000024 Q44_1000024 W44_1000022 Q44_1000022 W44_1000005 Q44_1000005 x.1 x.2.1 x.2.2.1 x.2.2.2.1).trans (by rfl))
theorem l44_1000019 : Lone Try.prog C44 1000019 (joinB 1000019 (bodyF Try.f44)) (orj 172 57 hd44_1000019 ys44_1000019 W44_1000019 Q44_1000019) :=
  Lone.join CxOK44 (by kernel_rfl) (Lall.LOK rfl (by kernel_rfl) (Lall.skip (by kernel_rfl) (Lall.skip (by kernel_rfl) (Lall.skip (by kernel_rfl) (Lall.skip (by kernel_rfl) (Lall.skip (by kernel_rfl) (Lall.skip (by kernel_rfl) (Lall.skip (by kernel_rfl) trivial)))))))) (by kernel_rfl) (fun x => (r44_1000019 F38 G38 F39 G39 F42 G42 F47 G47 F48 G48 F49 G49 W44_1000013 Q44_1000013 W44_1000019 Q44_1000019 W44_1000045 Q44_1000045 W44_1000043 Q44_1000043 W44_1000024 Q44_1000024 W44_1000022 Q44_1000022 W44_1000005 Q44_1000005 x.1 x.2.1).trans (by rfl))
theorem l44_1000045 : Lone Try.prog C44 1000045 (joinB 1000045 (bodyF Try.f44)) (orj 172 129 hd44_1000045 ys44_1000045 W44_1000045 Q44_1000045) :=
  Lone.join CxOK44 (by kernel_rfl) (Lall.LOK rfl (by kernel_rfl) (Lall.skip (by kernel_rfl) (Lall.skip (by kernel_rfl) (Lall.skip (by kernel_rfl) (Lall.skip (by kernel_rfl) (Lall.skip (by kernel_rfl) (Lall.skip (by kernel_rfl) (Lall.skip (by kernel_rfl) trivial)))))))) (by kernel_rfl) (fun x => (r44_1000045 F38 G38 F39 G39 F42 G42 F47 G47 F48 G48 F49 G49 W44_1000013 Q44_1000013 W44_1000019 Q44_1000019 W44_1000045 Q44_1000045 W44_1000043 Q44_1000043 W44_1000024 Q44_1000024 W44_1000022 Q44_1000022 W44_1000005 Q44_1000005 x.1 x.2.1 x.2.2.1).trans (by rfl))
theorem l44_1000043 : Lone Try.prog C44 1000043 (joinB 1000043 (bodyF Try.f44)) (orj 172 105 hd44_1000043 ys44_1000043 W44_1000043 Q44_1000043) :=
  Lone.join CxOK44 (by kernel_rfl) (Lall.LOK rfl (by kernel_rfl) (Lall.skip (by kernel_rfl) (Lall.skip (by kernel_rfl) (Lall.cons (by kernel_rfl) l44_1000045 (Lall.skip (by kernel_rfl) (Lall.skip (by kernel_rfl) (Lall.skip (by kernel_rfl) (Lall.skip (by kernel_rfl) trivial)))))))) (by kernel_rfl) (fun x => (r44_1000043 F38 G38 F39 G39 F42 G42 F47 G47 F48 G48 F49 G49 W44_1000013 Q44_1000013 W44_1000019 Q44_1000019 W44_1000045 Q44_1000045 W44_1000043 Q44_1000043 W44_1000024 Q44_1000024 W44_1000022 Q44_1000022 W44_1000005 Q44_1000005 x.1 x.2.1 x.2.2.1).trans (by rfl))
theorem l44_1000024 : Lone Try.prog C44 1000024 (joinB 1000024 (bodyF Try.f44)) (orj 172 81 hd44_1000024 ys44_1000024 W44_1000024 Q44_1000024) :=
  Lone.join CxOK44 (by kernel_rfl) (Lall.LOK rfl (by kernel_rfl) (Lall.skip (by kernel_rfl) (Lall.skip (by kernel_rfl) (Lall.cons (by kernel_rfl) l44_1000045 (Lall.cons (by kernel_rfl) l44_1000043 (Lall.skip (by kernel_rfl) (Lall.skip (by kernel_rfl) (Lall.skip (by kernel_rfl) trivial)))))))) (by kernel_rfl) (fun x => (r44_1000024 F38 G38 F39 G39 F42 G42 F47 G47 F48 G48 F49 G49 W44_1000013 Q44_1000013 W44_1000019 Q44_1000019 W44_1000045 Q44_1000045 W44_1000043 Q44_1000043 W44_1000024 Q44_1000024 W44_1000022 Q44_1000022 W44_1000005 Q44_1000005 x.1 x.2.1 x.2.2.1).trans (by rfl))
theorem l44_1000022 : Lone Try.prog C44 1000022 (joinB 1000022 (bodyF Try.f44)) (orj 172 57 hd44_1000022 ys44_1000022 W44_1000022 Q44_1000022) :=
  Lone.join CxOK44 (by kernel_rfl) (Lall.LOK rfl (by kernel_rfl) (Lall.skip (by kernel_rfl) (Lall.skip (by kernel_rfl) (Lall.cons (by kernel_rfl) l44_1000045 (Lall.cons (by kernel_rfl) l44_1000043 (Lall.cons (by kernel_rfl) l44_1000024 (Lall.skip (by kernel_rfl) (Lall.skip (by kernel_rfl) trivial)))))))) (by kernel_rfl) (fun x => (r44_1000022 F38 G38 F39 G39 F42 G42 F47 G47 F48 G48 F49 G49 W44_1000013 Q44_1000013 W44_1000019 Q44_1000019 W44_1000045 Q44_1000045 W44_1000043 Q44_1000043 W44_1000024 Q44_1000024 W44_1000022 Q44_1000022 W44_1000005 Q44_1000005 x.1 x.2.1 x.2.2.1).trans (by rfl))
theorem l44_1000005 : Lone Try.prog C44 1000005 (joinB 1000005 (bodyF Try.f44)) (orj 172 33 hd44_1000005 ys44_1000005 W44_1000005 Q44_1000005) :=
  Lone.join CxOK44 (by kernel_rfl) (Lall.LOK rfl (by kernel_rfl) (Lall.cons (by kernel_rfl) l44_1000013 (Lall.cons (by kernel_rfl) l44_1000019 (Lall.cons (by kernel_rfl) l44_1000045 (Lall.cons (by kernel_rfl) l44_1000043 (Lall.cons (by kernel_rfl) l44_1000024 (Lall.cons (by kernel_rfl) l44_1000022 (Lall.skip (by kernel_rfl) trivial)))))))) (by kernel_rfl) (fun x => (r44_1000005 F38 G38 F39 G39 F42 G42 F47 G47 F48 G48 F49 G49 W44_1000013 Q44_1000013 W44_1000019 Q44_1000019 W44_1000045 Q44_1000045 W44_1000043 Q44_1000043 W44_1000024 Q44_1000024 W44_1000022 Q44_1000022 W44_1000005 Q44_1000005 x.1 x.2.1 x.2.2.1 x.2.2.2.1).trans (by rfl))
theorem LOK44 : LOK Try.prog C44 0 (bodyF Try.f44) := (Lall.LOK rfl (by kernel_rfl) (Lall.cons (by kernel_rfl) l44_1000013 (Lall.cons (by kernel_rfl) l44_1000019 (Lall.cons (by kernel_rfl) l44_1000045 (Lall.cons (by kernel_rfl) l44_1000043 (Lall.cons (by kernel_rfl) l44_1000024 (Lall.cons (by kernel_rfl) l44_1000022 (Lall.cons (by kernel_rfl) l44_1000005 trivial))))))))
noncomputable def E44 : ((Int × (Int × KDn0)) × Unit) → Option (List UInt8) := fun x => S44 F38 G38 F39 G39 F42 G42 F47 G47 F48 G48 F49 G49 W44_1000013 Q44_1000013 W44_1000019 Q44_1000019 W44_1000045 Q44_1000045 W44_1000043 Q44_1000043 W44_1000024 Q44_1000024 W44_1000022 Q44_1000022 W44_1000005 Q44_1000005 x.1
noncomputable def F44 : ((Int × (Int × KDn0)) × Unit) → (List UInt8) := fun x => (E44 x).getD (dflt .str)
noncomputable def G44 : ((Int × (Int × KDn0)) × Unit) → Bool := fun x => (E44 x).isSome
theorem p44 : ∀ x, G44 x = true → PureOK Try.prog 44 (mkA [KTn6] x) ⟨.str, F44 x⟩ :=
  PureOK.ofS (ts := [KTn6]) (T := .str) (S := E44) CxOK44 Try.func44 (LOK.fn LOK44) (fun x => t44 F38 G38 F39 G39 F42 G42 F47 G47 F48 G48 F49 G49 W44_1000013 Q44_1000013 W44_1000019 Q44_1000019 W44_1000045 Q44_1000045 W44_1000043 Q44_1000043 W44_1000024 Q44_1000024 W44_1000022 Q44_1000022 W44_1000005 Q44_1000005 x.1)
noncomputable def kn50 : Kn := kOf [(42, sm [(.int .i64)] .str F42 G42)]
theorem knOK50 : KOK Try.prog kn50 := (KOK.cons Try.call42 (SmOK.sm p42) KOK.nil)
noncomputable def C50 : Cx := CxL Try.Θ kn50 (lOf [])
theorem CxOK50 : CxOK Try.prog C50 := ⟨Try.tabOK, knOK50, by kernel_rfl⟩
theorem LOK50 : LOK Try.prog C50 0 (bodyF Try.f50) := (Lall.LOK rfl (by kernel_rfl) trivial)
noncomputable def E50 : (Int × Unit) → Option (List UInt8) := fun x => S50 F42 G42  x.1
noncomputable def F50 : (Int × Unit) → (List UInt8) := fun x => (E50 x).getD (dflt .str)
noncomputable def G50 : (Int × Unit) → Bool := fun x => (E50 x).isSome
theorem p50 : ∀ x, G50 x = true → PureOK Try.prog 50 (mkA [(.int .i64)] x) ⟨.str, F50 x⟩ :=
  PureOK.ofS (ts := [(.int .i64)]) (T := .str) (S := E50) CxOK50 Try.func50 (LOK.fn LOK50) (fun x => t50 F42 G42  x.1)
noncomputable def kn45 : Kn := kOf [(38, sm [.str, (.int .i64)] .str F38 G38), (39, sm [(.int .i64)] .bool F39 G39), (42, sm [(.int .i64)] .str F42 G42), (47, sm [(.int .i64)] .bool F47 G47), (50, sm [(.int .i64)] .str F50 G50)]
theorem knOK45 : KOK Try.prog kn45 := (KOK.cons Try.call38 (SmOK.sm p38) (KOK.cons Try.call39 (SmOK.sm p39) (KOK.cons Try.call42 (SmOK.sm p42) (KOK.cons Try.call47 (SmOK.sm p47) (KOK.cons Try.call50 (SmOK.sm p50) KOK.nil)))))
noncomputable def V45_1000025 : (Unit × (List (List UInt8)) × Int × Bool × (List UInt8) × (List UInt8) × (Int × (Int × KDn0)) × Unit) → Option ((List UInt8) × Unit) := fun x => R45_1000025 F38 G38 F39 G39 F42 G42 F47 G47 F50 G50 (fun _ => ([], ())) (fun _ => false) (fun _ => ([], ())) (fun _ => false) (fun _ => ([], ())) (fun _ => false) x.1 x.2.1 x.2.2.1 x.2.2.2.1 x.2.2.2.2.1 x.2.2.2.2.2.1 x.2.2.2.2.2.2.1
noncomputable def W45_1000025 : (Unit × (List (List UInt8)) × Int × Bool × (List UInt8) × (List UInt8) × (Int × (Int × KDn0)) × Unit) → ((List UInt8) × Unit) := jnV (hd := hd45_1000025) (ys := ys45_1000025) V45_1000025
noncomputable def Q45_1000025 : (Unit × (List (List UInt8)) × Int × Bool × (List UInt8) × (List UInt8) × (Int × (Int × KDn0)) × Unit) → Bool := jnK (hd := hd45_1000025) (ys := ys45_1000025) V45_1000025
noncomputable def V45_1000007 : (Unit × (List UInt8) × (Int × (Int × KDn0)) × Unit) → Option ((List UInt8) × Unit) := fun x => R45_1000007 F38 G38 F39 G39 F42 G42 F47 G47 F50 G50 W45_1000025 Q45_1000025 (fun _ => ([], ())) (fun _ => false) (fun _ => ([], ())) (fun _ => false) x.1 x.2.1 x.2.2.1
noncomputable def W45_1000007 : (Unit × (List UInt8) × (Int × (Int × KDn0)) × Unit) → ((List UInt8) × Unit) := jnV (hd := hd45_1000007) (ys := ys45_1000007) V45_1000007
noncomputable def Q45_1000007 : (Unit × (List UInt8) × (Int × (Int × KDn0)) × Unit) → Bool := jnK (hd := hd45_1000007) (ys := ys45_1000007) V45_1000007
noncomputable def V45_1000005 : (Unit × (List UInt8) × (Int × (Int × KDn0)) × Unit) → Option ((List UInt8) × Unit) := fun x => R45_1000005 F38 G38 F39 G39 F42 G42 F47 G47 F50 G50 W45_1000025 Q45_1000025 W45_1000007 Q45_1000007 (fun _ => ([], ())) (fun _ => false) x.1 x.2.1 x.2.2.1
noncomputable def W45_1000005 : (Unit × (List UInt8) × (Int × (Int × KDn0)) × Unit) → ((List UInt8) × Unit) := jnV (hd := hd45_1000005) (ys := ys45_1000005) V45_1000005
noncomputable def Q45_1000005 : (Unit × (List UInt8) × (Int × (Int × KDn0)) × Unit) → Bool := jnK (hd := hd45_1000005) (ys := ys45_1000005) V45_1000005
noncomputable def C45 : Cx := CxL Try.Θ kn45 (lOf [(1000025, orj 156 84 hd45_1000025 ys45_1000025 W45_1000025 Q45_1000025), (1000007, orj 156 49 hd45_1000007 ys45_1000007 W45_1000007 Q45_1000007), (1000005, orj 156 25 hd45_1000005 ys45_1000005 W45_1000005 Q45_1000005)])
theorem CxOK45 : CxOK Try.prog C45 := ⟨Try.tabOK, knOK45, by kernel_rfl⟩
theorem l45_1000025 : Lone Try.prog C45 1000025 (joinB 1000025 (bodyF Try.f45)) (orj 156 84 hd45_1000025 ys45_1000025 W45_1000025 Q45_1000025) :=
  Lone.join CxOK45 (by kernel_rfl) (Lall.LOK rfl (by kernel_rfl) (Lall.skip (by kernel_rfl) (Lall.skip (by kernel_rfl) (Lall.skip (by kernel_rfl) trivial)))) (by kernel_rfl) (fun x => (r45_1000025 F38 G38 F39 G39 F42 G42 F47 G47 F50 G50 W45_1000025 Q45_1000025 W45_1000007 Q45_1000007 W45_1000005 Q45_1000005 x.1 x.2.1 x.2.2.1 x.2.2.2.1 x.2.2.2.2.1 x.2.2.2.2.2.1 x.2.2.2.2.2.2.1).trans (by rfl))
theorem l45_1000007 : Lone Try.prog C45 1000007 (joinB 1000007 (bodyF Try.f45)) (orj 156 49 hd45_1000007 ys45_1000007 W45_1000007 Q45_1000007) :=
  Lone.join CxOK45 (by kernel_rfl) (Lall.LOK rfl (by kernel_rfl) (Lall.cons (by kernel_rfl) l45_1000025 (Lall.skip (by kernel_rfl) (Lall.skip (by kernel_rfl) trivial)))) (by kernel_rfl) (fun x => (r45_1000007 F38 G38 F39 G39 F42 G42 F47 G47 F50 G50 W45_1000025 Q45_1000025 W45_1000007 Q45_1000007 W45_1000005 Q45_1000005 x.1 x.2.1 x.2.2.1).trans (by rfl))
theorem l45_1000005 : Lone Try.prog C45 1000005 (joinB 1000005 (bodyF Try.f45)) (orj 156 25 hd45_1000005 ys45_1000005 W45_1000005 Q45_1000005) :=
  Lone.join CxOK45 (by kernel_rfl) (Lall.LOK rfl (by kernel_rfl) (Lall.cons (by kernel_rfl) l45_1000025 (Lall.cons (by kernel_rfl) l45_1000007 (Lall.skip (by kernel_rfl) trivial)))) (by kernel_rfl) (fun x => (r45_1000005 F38 G38 F39 G39 F42 G42 F47 G47 F50 G50 W45_1000025 Q45_1000025 W45_1000007 Q45_1000007 W45_1000005 Q45_1000005 x.1 x.2.1 x.2.2.1).trans (by rfl))
theorem LOK45 : LOK Try.prog C45 0 (bodyF Try.f45) := (Lall.LOK rfl (by kernel_rfl) (Lall.cons (by kernel_rfl) l45_1000025 (Lall.cons (by kernel_rfl) l45_1000007 (Lall.cons (by kernel_rfl) l45_1000005 trivial))))
noncomputable def E45 : ((Int × (Int × KDn0)) × Unit) → Option (List UInt8) := fun x => S45 F38 G38 F39 G39 F42 G42 F47 G47 F50 G50 W45_1000025 Q45_1000025 W45_1000007 Q45_1000007 W45_1000005 Q45_1000005 x.1
noncomputable def F45 : ((Int × (Int × KDn0)) × Unit) → (List UInt8) := fun x => (E45 x).getD (dflt .str)
noncomputable def G45 : ((Int × (Int × KDn0)) × Unit) → Bool := fun x => (E45 x).isSome
theorem p45 : ∀ x, G45 x = true → PureOK Try.prog 45 (mkA [KTn6] x) ⟨.str, F45 x⟩ :=
  PureOK.ofS (ts := [KTn6]) (T := .str) (S := E45) CxOK45 Try.func45 (LOK.fn LOK45) (fun x => t45 F38 G38 F39 G39 F42 G42 F47 G47 F50 G50 W45_1000025 Q45_1000025 W45_1000007 Q45_1000007 W45_1000005 Q45_1000005 x.1)
noncomputable def kn36 : Kn := kOf [(43, sm [KTn6] .str F43 G43), (44, sm [KTn6] .str F44 G44), (45, sm [KTn6] .str F45 G45)]
theorem knOK36 : KOK Try.prog kn36 := (KOK.cons Try.call43 (SmOK.sm p43) (KOK.cons Try.call44 (SmOK.sm p44) (KOK.cons Try.call45 (SmOK.sm p45) KOK.nil)))
noncomputable def C36 : Cx := CxL Try.Θ kn36 (lOf [])
theorem CxOK36 : CxOK Try.prog C36 := ⟨Try.tabOK, knOK36, by kernel_rfl⟩
theorem LOK36 : LOK Try.prog C36 0 (bodyF Try.f36) := (Lall.LOK rfl (by kernel_rfl) trivial)
noncomputable def E36 : ((Int × (Int × KDn0)) × Unit) → Option (List UInt8) := fun x => S36 F43 G43 F44 G44 F45 G45  x.1
noncomputable def F36 : ((Int × (Int × KDn0)) × Unit) → (List UInt8) := fun x => (E36 x).getD (dflt .str)
noncomputable def G36 : ((Int × (Int × KDn0)) × Unit) → Bool := fun x => (E36 x).isSome
theorem p36 : ∀ x, G36 x = true → PureOK Try.prog 36 (mkA [KTn6] x) ⟨.str, F36 x⟩ :=
  PureOK.ofS (ts := [KTn6]) (T := .str) (S := E36) CxOK36 Try.func36 (LOK.fn LOK36) (fun x => t36 F43 G43 F44 G44 F45 G45  x.1)
noncomputable def kn37 : Kn := kOf []
theorem knOK37 : KOK Try.prog kn37 := KOK.nil
noncomputable def C37 : Cx := CxL Try.Θ kn37 (lOf [])
theorem CxOK37 : CxOK Try.prog C37 := ⟨Try.tabOK, knOK37, by kernel_rfl⟩
theorem LOK37 : LOK Try.prog C37 0 (bodyF Try.f37) := (Lall.LOK rfl (by kernel_rfl) trivial)
noncomputable def E37 : ((Int × (Int × KDn0)) × Unit) → Option Int := fun x => S37   x.1
noncomputable def F37 : ((Int × (Int × KDn0)) × Unit) → Int := fun x => (E37 x).getD (dflt (.int .i64))
noncomputable def G37 : ((Int × (Int × KDn0)) × Unit) → Bool := fun x => (E37 x).isSome
theorem p37 : ∀ x, G37 x = true → PureOK Try.prog 37 (mkA [KTn6] x) ⟨(.int .i64), F37 x⟩ :=
  PureOK.ofS (ts := [KTn6]) (T := (.int .i64)) (S := E37) CxOK37 Try.func37 (LOK.fn LOK37) (fun x => t37   x.1)
noncomputable def kn33 : Kn := kOf [(36, sm [KTn6] .str F36 G36), (37, sm [KTn6] (.int .i64) F37 G37)]
theorem knOK33 : KOK Try.prog kn33 := (KOK.cons Try.call36 (SmOK.sm p36) (KOK.cons Try.call37 (SmOK.sm p37) KOK.nil))
noncomputable def V33_1000015 : (Unit × Int × (Int × (Int × KDn0)) × Unit) → Option (Bool × Unit) := fun x => R33_1000015 F36 G36 F37 G37 (fun _ => (false, ())) (fun _ => false) (fun _ => (false, ())) (fun _ => false) x.1 x.2.1 x.2.2.1
noncomputable def W33_1000015 : (Unit × Int × (Int × (Int × KDn0)) × Unit) → (Bool × Unit) := jnV (hd := hd33_1000015) (ys := ys33_1000015) V33_1000015
noncomputable def Q33_1000015 : (Unit × Int × (Int × (Int × KDn0)) × Unit) → Bool := jnK (hd := hd33_1000015) (ys := ys33_1000015) V33_1000015
noncomputable def V33_1000006 : (Unit × (Int × (Int × KDn0)) × Unit) → Option (Bool × Unit) := fun x => R33_1000006 F36 G36 F37 G37 W33_1000015 Q33_1000015 (fun _ => (false, ())) (fun _ => false) x.1 x.2.1
noncomputable def W33_1000006 : (Unit × (Int × (Int × KDn0)) × Unit) → (Bool × Unit) := jnV (hd := hd33_1000006) (ys := ys33_1000006) V33_1000006
noncomputable def Q33_1000006 : (Unit × (Int × (Int × KDn0)) × Unit) → Bool := jnK (hd := hd33_1000006) (ys := ys33_1000006) V33_1000006
noncomputable def C33 : Cx := CxL Try.Θ kn33 (lOf [(1000015, orj 93 49 hd33_1000015 ys33_1000015 W33_1000015 Q33_1000015), (1000006, orj 93 25 hd33_1000006 ys33_1000006 W33_1000006 Q33_1000006)])
theorem CxOK33 : CxOK Try.prog C33 := ⟨Try.tabOK, knOK33, by kernel_rfl⟩
theorem l33_1000015 : Lone Try.prog C33 1000015 (joinB 1000015 (bodyF Try.f33)) (orj 93 49 hd33_1000015 ys33_1000015 W33_1000015 Q33_1000015) :=
  Lone.join CxOK33 (by kernel_rfl) (Lall.LOK rfl (by kernel_rfl) (Lall.skip (by kernel_rfl) (Lall.skip (by kernel_rfl) trivial))) (by kernel_rfl) (fun x => (r33_1000015 F36 G36 F37 G37 W33_1000015 Q33_1000015 W33_1000006 Q33_1000006 x.1 x.2.1 x.2.2.1).trans (by rfl))
theorem l33_1000006 : Lone Try.prog C33 1000006 (joinB 1000006 (bodyF Try.f33)) (orj 93 25 hd33_1000006 ys33_1000006 W33_1000006 Q33_1000006) :=
  Lone.join CxOK33 (by kernel_rfl) (Lall.LOK rfl (by kernel_rfl) (Lall.cons (by kernel_rfl) l33_1000015 (Lall.skip (by kernel_rfl) trivial))) (by kernel_rfl) (fun x => (r33_1000006 F36 G36 F37 G37 W33_1000015 Q33_1000015 W33_1000006 Q33_1000006 x.1 x.2.1).trans (by rfl))
theorem LOK33 : LOK Try.prog C33 0 (bodyF Try.f33) := (Lall.LOK rfl (by kernel_rfl) (Lall.cons (by kernel_rfl) l33_1000015 (Lall.cons (by kernel_rfl) l33_1000006 trivial)))
noncomputable def E33 : ((Int × (Int × KDn0)) × Unit) → Option Bool := fun x => S33 F36 G36 F37 G37 W33_1000015 Q33_1000015 W33_1000006 Q33_1000006 x.1
noncomputable def F33 : ((Int × (Int × KDn0)) × Unit) → Bool := fun x => (E33 x).getD (dflt .bool)
noncomputable def G33 : ((Int × (Int × KDn0)) × Unit) → Bool := fun x => (E33 x).isSome
theorem p33 : ∀ x, G33 x = true → PureOK Try.prog 33 (mkA [KTn6] x) ⟨.bool, F33 x⟩ :=
  PureOK.ofS (ts := [KTn6]) (T := .bool) (S := E33) CxOK33 Try.func33 (LOK.fn LOK33) (fun x => t33 F36 G36 F37 G37 W33_1000015 Q33_1000015 W33_1000006 Q33_1000006 x.1)
noncomputable def kn41 : Kn := kOf []
theorem knOK41 : KOK Try.prog kn41 := KOK.nil
noncomputable def C41 : Cx := CxL Try.Θ kn41 (lOf [])
theorem CxOK41 : CxOK Try.prog C41 := ⟨Try.tabOK, knOK41, by kernel_rfl⟩
theorem LOK41 : LOK Try.prog C41 0 (bodyF Try.f41) := (Lall.LOK rfl (by kernel_rfl) trivial)
noncomputable def E41 : ((Int × (Int × KDn0)) × (Int × (Int × KDn0)) × Unit) → Option Int := fun x => S41   x.1 x.2.1
noncomputable def F41 : ((Int × (Int × KDn0)) × (Int × (Int × KDn0)) × Unit) → Int := fun x => (E41 x).getD (dflt (.int .u64))
noncomputable def G41 : ((Int × (Int × KDn0)) × (Int × (Int × KDn0)) × Unit) → Bool := fun x => (E41 x).isSome
theorem p41 : ∀ x, G41 x = true → PureOK Try.prog 41 (mkA [KTn6, KTn6] x) ⟨(.int .u64), F41 x⟩ :=
  PureOK.ofS (ts := [KTn6, KTn6]) (T := (.int .u64)) (S := E41) CxOK41 Try.func41 (LOK.fn LOK41) (fun x => t41   x.1 x.2.1)
noncomputable def kn34 : Kn := kOf [(36, sm [KTn6] .str F36 G36), (38, sm [.str, (.int .i64)] .str F38 G38), (39, sm [(.int .i64)] .bool F39 G39), (40, sm [(.int .u64)] .str F40 G40), (41, sm [KTn6, KTn6] (.int .u64) F41 G41), (42, sm [(.int .i64)] .str F42 G42)]
theorem knOK34 : KOK Try.prog kn34 := (KOK.cons Try.call36 (SmOK.sm p36) (KOK.cons Try.call38 (SmOK.sm p38) (KOK.cons Try.call39 (SmOK.sm p39) (KOK.cons Try.call40 (SmOK.sm p40) (KOK.cons Try.call41 (SmOK.sm p41) (KOK.cons Try.call42 (SmOK.sm p42) KOK.nil))))))
noncomputable def V34_1000012 : (KDn1 × Int × Unit × (Int × (Int × KDn0)) × Unit) → Option ((List UInt8) × Int × Int × Unit) := fun x => R34_1000012 F36 G36 F38 G38 F39 G39 F40 G40 F41 G41 F42 G42 (fun _ => ([], 0, 0, ())) (fun _ => false) (fun _ => ([], 0, 0, ())) (fun _ => false) x.1 x.2.1 x.2.2.1 x.2.2.2.1
noncomputable def W34_1000012 : (KDn1 × Int × Unit × (Int × (Int × KDn0)) × Unit) → ((List UInt8) × Int × Int × Unit) := jnV (hd := hd34_1000012) (ys := ys34_1000012) V34_1000012
noncomputable def Q34_1000012 : (KDn1 × Int × Unit × (Int × (Int × KDn0)) × Unit) → Bool := jnK (hd := hd34_1000012) (ys := ys34_1000012) V34_1000012
noncomputable def V34_1000004 : (KDn1 × Int × Unit) → Option ((List UInt8) × Int × Int × Unit) := fun x => R34_1000004 F36 G36 F38 G38 F39 G39 F40 G40 F41 G41 F42 G42 W34_1000012 Q34_1000012 (fun _ => ([], 0, 0, ())) (fun _ => false) x.1 x.2.1
noncomputable def W34_1000004 : (KDn1 × Int × Unit) → ((List UInt8) × Int × Int × Unit) := jnV (hd := hd34_1000004) (ys := ys34_1000004) V34_1000004
noncomputable def Q34_1000004 : (KDn1 × Int × Unit) → Bool := jnK (hd := hd34_1000004) (ys := ys34_1000004) V34_1000004
noncomputable def C34 : Cx := CxL Try.Θ kn34 (lOf [(1000012, orj 113 49 hd34_1000012 ys34_1000012 W34_1000012 Q34_1000012), (1000004, orj 113 24 hd34_1000004 ys34_1000004 W34_1000004 Q34_1000004)])
theorem CxOK34 : CxOK Try.prog C34 := ⟨Try.tabOK, knOK34, by kernel_rfl⟩
theorem l34_1000012 : Lone Try.prog C34 1000012 (joinB 1000012 (bodyF Try.f34)) (orj 113 49 hd34_1000012 ys34_1000012 W34_1000012 Q34_1000012) :=
  Lone.join CxOK34 (by kernel_rfl) (Lall.LOK rfl (by kernel_rfl) (Lall.skip (by kernel_rfl) (Lall.skip (by kernel_rfl) trivial))) (by kernel_rfl) (fun x => (r34_1000012 F36 G36 F38 G38 F39 G39 F40 G40 F41 G41 F42 G42 W34_1000012 Q34_1000012 W34_1000004 Q34_1000004 x.1 x.2.1 x.2.2.1 x.2.2.2.1).trans (by rfl))
theorem l34_1000004 : Lone Try.prog C34 1000004 (joinB 1000004 (bodyF Try.f34)) (orj 113 24 hd34_1000004 ys34_1000004 W34_1000004 Q34_1000004) :=
  Lone.join CxOK34 (by kernel_rfl) (Lall.LOK rfl (by kernel_rfl) (Lall.cons (by kernel_rfl) l34_1000012 (Lall.skip (by kernel_rfl) trivial))) (by kernel_rfl) (fun x => (r34_1000004 F36 G36 F38 G38 F39 G39 F40 G40 F41 G41 F42 G42 W34_1000012 Q34_1000012 W34_1000004 Q34_1000004 x.1 x.2.1).trans (by rfl))
theorem LOK34 : LOK Try.prog C34 0 (bodyF Try.f34) := (Lall.LOK rfl (by kernel_rfl) (Lall.cons (by kernel_rfl) l34_1000012 (Lall.cons (by kernel_rfl) l34_1000004 trivial)))
noncomputable def E34 : (KDn1 × Int × Unit) → Option KDn7 := fun x => S34 F36 G36 F38 G38 F39 G39 F40 G40 F41 G41 F42 G42 W34_1000012 Q34_1000012 W34_1000004 Q34_1000004 x.1 x.2.1
noncomputable def F34 : (KDn1 × Int × Unit) → KDn7 := fun x => (E34 x).getD (dflt KTn9)
noncomputable def G34 : (KDn1 × Int × Unit) → Bool := fun x => (E34 x).isSome
theorem p34 : ∀ x, G34 x = true → PureOK Try.prog 34 (mkA [(.vsl KTn6), (.int .i64)] x) ⟨KTn9, F34 x⟩ :=
  PureOK.ofS (ts := [(.vsl KTn6), (.int .i64)]) (T := KTn9) (S := E34) CxOK34 Try.func34 (LOK.fn LOK34) (fun x => t34 F36 G36 F38 G38 F39 G39 F40 G40 F41 G41 F42 G42 W34_1000012 Q34_1000012 W34_1000004 Q34_1000004 x.1 x.2.1)
noncomputable def kn20 : Kn := kOf [(33, sm [KTn6] .bool F33 G33), (34, sm [(.vsl KTn6), (.int .i64)] KTn9 F34 G34)]
theorem knOK20 : KOK Try.prog kn20 := (KOK.cons Try.call33 (SmOK.sm p33) (KOK.cons Try.call34 (SmOK.sm p34) KOK.nil))
noncomputable def V20_0 : (KDn1 × (List Bool) × Int × Unit) → Option ((KDn1 × (List Bool) × Int × Unit) ⊕ (((List Bool) × Unit) ⊕ ((List Bool) × Int × Unit))) := fun x => R20_0 F33 G33 F34 G34 (fun _ => (Sum.inl ([], ()))) (fun _ => false) x.1 x.2.1 x.2.2.1
noncomputable def W20_0 : (KDn1 × (List Bool) × Int × Unit) → (((List Bool) × Unit) ⊕ ((List Bool) × Int × Unit)) := whV (hd := hd20_0) (ys := ys20_0) V20_0
noncomputable def Q20_0 : (KDn1 × (List Bool) × Int × Unit) → Bool := whK (hd := hd20_0) (ys := ys20_0) V20_0
noncomputable def C20 : Cx := CxL Try.Θ kn20 (lOf [(0, orc 47 25 0 hd20_0 ys20_0 W20_0 Q20_0)])
theorem CxOK20 : CxOK Try.prog C20 := ⟨Try.tabOK, knOK20, by kernel_rfl⟩
theorem l20_0 : Lone Try.prog C20 0 (.loop (loopB 0 (bodyF Try.f20))) (orc 47 25 0 hd20_0 ys20_0 W20_0 Q20_0) :=
  Lone.of CxOK20 (Lall.LOK rfl (by kernel_rfl) (Lall.skip (by kernel_rfl) trivial)) (by kernel_rfl) (fun x => (r20_0 F33 G33 F34 G34 W20_0 Q20_0 x.1 x.2.1 x.2.2.1).trans (by rfl))
theorem LOK20 : LOK Try.prog C20 0 (bodyF Try.f20) := (Lall.LOK rfl (by kernel_rfl) (Lall.cons (by kernel_rfl) l20_0 trivial))
noncomputable def E20 : (KDn1 × Unit) → Option KDn10 := fun x => S20 F33 G33 F34 G34 W20_0 Q20_0 x.1
noncomputable def F20 : (KDn1 × Unit) → KDn10 := fun x => (E20 x).getD (dflt KTn11)
noncomputable def G20 : (KDn1 × Unit) → Bool := fun x => (E20 x).isSome
theorem p20 : ∀ x, G20 x = true → PureOK Try.prog 20 (mkA [(.vsl KTn6)] x) ⟨KTn11, F20 x⟩ :=
  PureOK.ofS (ts := [(.vsl KTn6)]) (T := KTn11) (S := E20) CxOK20 Try.func20 (LOK.fn LOK20) (fun x => t20 F33 G33 F34 G34 W20_0 Q20_0 x.1)
noncomputable def kn21 : Kn := kOf []
theorem knOK21 : KOK Try.prog kn21 := KOK.nil
noncomputable def C21 : Cx := CxL Try.Θ kn21 (lOf [])
theorem CxOK21 : CxOK Try.prog C21 := ⟨Try.tabOK, knOK21, by kernel_rfl⟩
theorem LOK21 : LOK Try.prog C21 0 (bodyF Try.f21) := (Lall.LOK rfl (by kernel_rfl) trivial)
noncomputable def E21 : ((Int × (Int × KDn0)) × Unit) → Option Bool := fun x => S21   x.1
noncomputable def F21 : ((Int × (Int × KDn0)) × Unit) → Bool := fun x => (E21 x).getD (dflt .bool)
noncomputable def G21 : ((Int × (Int × KDn0)) × Unit) → Bool := fun x => (E21 x).isSome
theorem p21 : ∀ x, G21 x = true → PureOK Try.prog 21 (mkA [KTn6] x) ⟨.bool, F21 x⟩ :=
  PureOK.ofS (ts := [KTn6]) (T := .bool) (S := E21) CxOK21 Try.func21 (LOK.fn LOK21) (fun x => t21   x.1)
noncomputable def kn8 : Kn := kOf [(20, sm [(.vsl KTn6)] KTn11 F20 G20), (21, sm [KTn6] .bool F21 G21)]
theorem knOK8 : KOK Try.prog kn8 := (KOK.cons Try.call20 (SmOK.sm p20) (KOK.cons Try.call21 (SmOK.sm p21) KOK.nil))
noncomputable def V8_0 : (KDn1 × (List Bool) × Int × Int × Unit) → Option ((KDn1 × (List Bool) × Int × Int × Unit) ⊕ ((KDn1 × Int × Unit) ⊕ (Int × Int × Unit))) := fun x => R8_0 F20 G20 F21 G21 (fun _ => (Sum.inl ([], 0, ()))) (fun _ => false) (fun _ => (0, 0, ())) (fun _ => false) x.1 x.2.1 x.2.2.1 x.2.2.2.1
noncomputable def W8_0 : (KDn1 × (List Bool) × Int × Int × Unit) → ((KDn1 × Int × Unit) ⊕ (Int × Int × Unit)) := whV (hd := hd8_0) (ys := ys8_0) V8_0
noncomputable def Q8_0 : (KDn1 × (List Bool) × Int × Int × Unit) → Bool := whK (hd := hd8_0) (ys := ys8_0) V8_0
noncomputable def V8_1000004 : (KDn1 × Unit) → Option (Int × Int × Unit) := fun x => R8_1000004 F20 G20 F21 G21 W8_0 Q8_0 (fun _ => (0, 0, ())) (fun _ => false) x.1
noncomputable def W8_1000004 : (KDn1 × Unit) → (Int × Int × Unit) := jnV (hd := hd8_1000004) (ys := ys8_1000004) V8_1000004
noncomputable def Q8_1000004 : (KDn1 × Unit) → Bool := jnK (hd := hd8_1000004) (ys := ys8_1000004) V8_1000004
noncomputable def C8 : Cx := CxL Try.Θ kn8 (lOf [(0, orc 81 48 0 hd8_0 ys8_0 W8_0 Q8_0), (1000004, orj 81 24 hd8_1000004 ys8_1000004 W8_1000004 Q8_1000004)])
theorem CxOK8 : CxOK Try.prog C8 := ⟨Try.tabOK, knOK8, by kernel_rfl⟩
theorem l8_0 : Lone Try.prog C8 0 (.loop (loopB 0 (bodyF Try.f8))) (orc 81 48 0 hd8_0 ys8_0 W8_0 Q8_0) :=
  Lone.of CxOK8 (Lall.LOK rfl (by kernel_rfl) (Lall.skip (by kernel_rfl) (Lall.skip (by kernel_rfl) trivial))) (by kernel_rfl) (fun x => (r8_0 F20 G20 F21 G21 W8_0 Q8_0 W8_1000004 Q8_1000004 x.1 x.2.1 x.2.2.1 x.2.2.2.1).trans (by rfl))
theorem l8_1000004 : Lone Try.prog C8 1000004 (joinB 1000004 (bodyF Try.f8)) (orj 81 24 hd8_1000004 ys8_1000004 W8_1000004 Q8_1000004) :=
  Lone.join CxOK8 (by kernel_rfl) (Lall.LOK rfl (by kernel_rfl) (Lall.cons (by kernel_rfl) l8_0 (Lall.skip (by kernel_rfl) trivial))) (by kernel_rfl) (fun x => (r8_1000004 F20 G20 F21 G21 W8_0 Q8_0 W8_1000004 Q8_1000004 x.1).trans (by rfl))
theorem LOK8 : LOK Try.prog C8 0 (bodyF Try.f8) := (Lall.LOK rfl (by kernel_rfl) (Lall.cons (by kernel_rfl) l8_0 (Lall.cons (by kernel_rfl) l8_1000004 trivial)))
noncomputable def E8 : (KDn1 × Unit) → Option (Int × (Int × Unit)) := fun x => S8 F20 G20 F21 G21 W8_0 Q8_0 W8_1000004 Q8_1000004 x.1
noncomputable def F8 : (KDn1 × Unit) → (Int × (Int × Unit)) := fun x => (E8 x).getD (dflt (.tup (.int .i64) KTn8))
noncomputable def G8 : (KDn1 × Unit) → Bool := fun x => (E8 x).isSome
theorem p8 : ∀ x, G8 x = true → PureOK Try.prog 8 (mkA [(.vsl KTn6)] x) ⟨(.tup (.int .i64) KTn8), F8 x⟩ :=
  PureOK.ofS (ts := [(.vsl KTn6)]) (T := (.tup (.int .i64) KTn8)) (S := E8) CxOK8 Try.func8 (LOK.fn LOK8) (fun x => t8 F20 G20 F21 G21 W8_0 Q8_0 W8_1000004 Q8_1000004 x.1)
noncomputable def kn26 : Kn := kOf [(21, sm [KTn6] .bool F21 G21)]
theorem knOK26 : KOK Try.prog kn26 := (KOK.cons Try.call21 (SmOK.sm p21) KOK.nil)
noncomputable def C26 : Cx := CxL Try.Θ kn26 (lOf [])
theorem CxOK26 : CxOK Try.prog C26 := ⟨Try.tabOK, knOK26, by kernel_rfl⟩
theorem LOK26 : LOK Try.prog C26 0 (bodyF Try.f26) := (Lall.LOK rfl (by kernel_rfl) trivial)
noncomputable def E26 : (KDn1 × Int × Unit) → Option (List Int) := fun x => S26 F21 G21  x.1 x.2.1
noncomputable def F26 : (KDn1 × Int × Unit) → (List Int) := fun x => (E26 x).getD (dflt (.vsl (.int .i64)))
noncomputable def G26 : (KDn1 × Int × Unit) → Bool := fun x => (E26 x).isSome
theorem p26 : ∀ x, G26 x = true → PureOK Try.prog 26 (mkA [(.vsl KTn6), (.int .i64)] x) ⟨(.vsl (.int .i64)), F26 x⟩ :=
  PureOK.ofS (ts := [(.vsl KTn6), (.int .i64)]) (T := (.vsl (.int .i64))) (S := E26) CxOK26 Try.func26 (LOK.fn LOK26) (fun x => t26 F21 G21  x.1 x.2.1)
noncomputable def kn14 : Kn := kOf [(8, sm [(.vsl KTn6)] (.tup (.int .i64) KTn8) F8 G8), (26, sm [(.vsl KTn6), (.int .i64)] (.vsl (.int .i64)) F26 G26)]
theorem knOK14 : KOK Try.prog kn14 := (KOK.cons Try.call8 (SmOK.sm p8) (KOK.cons Try.call26 (SmOK.sm p26) KOK.nil))
noncomputable def V14_0 : (KDn1 × (List Bool) × (List Int) × Unit) → Option ((KDn1 × (List Bool) × (List Int) × Unit) ⊕ ((List Bool) × Unit)) := fun x => R14_0 F8 G8 F26 G26 (fun _ => ([], ())) (fun _ => false) x.1 x.2.1 x.2.2.1
noncomputable def W14_0 : (KDn1 × (List Bool) × (List Int) × Unit) → ((List Bool) × Unit) := whV (hd := hd14_0) (ys := ys14_0) V14_0
noncomputable def Q14_0 : (KDn1 × (List Bool) × (List Int) × Unit) → Bool := whK (hd := hd14_0) (ys := ys14_0) V14_0
noncomputable def C14 : Cx := CxL Try.Θ kn14 (lOf [(0, orc 57 26 0 hd14_0 ys14_0 W14_0 Q14_0)])
theorem CxOK14 : CxOK Try.prog C14 := ⟨Try.tabOK, knOK14, by kernel_rfl⟩
theorem l14_0 : Lone Try.prog C14 0 (.loop (loopB 0 (bodyF Try.f14))) (orc 57 26 0 hd14_0 ys14_0 W14_0 Q14_0) :=
  Lone.of CxOK14 (Lall.LOK rfl (by kernel_rfl) (Lall.skip (by kernel_rfl) trivial)) (by kernel_rfl) (fun x => (r14_0 F8 G8 F26 G26 W14_0 Q14_0 x.1 x.2.1 x.2.2.1).trans (by rfl))
theorem LOK14 : LOK Try.prog C14 0 (bodyF Try.f14) := (Lall.LOK rfl (by kernel_rfl) (Lall.cons (by kernel_rfl) l14_0 trivial))
noncomputable def E14 : (KDn1 × Unit) → Option (List Bool) := fun x => S14 F8 G8 F26 G26 W14_0 Q14_0 x.1
noncomputable def F14 : (KDn1 × Unit) → (List Bool) := fun x => (E14 x).getD (dflt (.vsl .bool))
noncomputable def G14 : (KDn1 × Unit) → Bool := fun x => (E14 x).isSome
theorem p14 : ∀ x, G14 x = true → PureOK Try.prog 14 (mkA [(.vsl KTn6)] x) ⟨(.vsl .bool), F14 x⟩ :=
  PureOK.ofS (ts := [(.vsl KTn6)]) (T := (.vsl .bool)) (S := E14) CxOK14 Try.func14 (LOK.fn LOK14) (fun x => t14 F8 G8 F26 G26 W14_0 Q14_0 x.1)
noncomputable def kn16 : Kn := kOf [(8, sm [(.vsl KTn6)] (.tup (.int .i64) KTn8) F8 G8), (20, sm [(.vsl KTn6)] KTn11 F20 G20), (26, sm [(.vsl KTn6), (.int .i64)] (.vsl (.int .i64)) F26 G26)]
theorem knOK16 : KOK Try.prog kn16 := (KOK.cons Try.call8 (SmOK.sm p8) (KOK.cons Try.call20 (SmOK.sm p20) (KOK.cons Try.call26 (SmOK.sm p26) KOK.nil)))
noncomputable def C16 : Cx := CxL Try.Θ kn16 (lOf [])
theorem CxOK16 : CxOK Try.prog C16 := ⟨Try.tabOK, knOK16, by kernel_rfl⟩
theorem LOK16 : LOK Try.prog C16 0 (bodyF Try.f16) := (Lall.LOK rfl (by kernel_rfl) trivial)
noncomputable def E16 : (KDn1 × Int × Unit) → Option (List Int) := fun x => S16 F8 G8 F20 G20 F26 G26  x.1 x.2.1
noncomputable def F16 : (KDn1 × Int × Unit) → (List Int) := fun x => (E16 x).getD (dflt (.vsl (.int .i64)))
noncomputable def G16 : (KDn1 × Int × Unit) → Bool := fun x => (E16 x).isSome
theorem p16 : ∀ x, G16 x = true → PureOK Try.prog 16 (mkA [(.vsl KTn6), (.int .i64)] x) ⟨(.vsl (.int .i64)), F16 x⟩ :=
  PureOK.ofS (ts := [(.vsl KTn6), (.int .i64)]) (T := (.vsl (.int .i64))) (S := E16) CxOK16 Try.func16 (LOK.fn LOK16) (fun x => t16 F8 G8 F20 G20 F26 G26  x.1 x.2.1)
noncomputable def kn9 : Kn := kOf []
theorem knOK9 : KOK Try.prog kn9 := KOK.nil
noncomputable def V9_0 : ((List Int) × (List Int) × Int × Unit) → Option (((List Int) × (List Int) × Int × Unit) ⊕ ((Unit) ⊕ (Bool × Unit))) := fun x => R9_0  (fun _ => (Sum.inl (()))) (fun _ => false) x.1 x.2.1 x.2.2.1
noncomputable def W9_0 : ((List Int) × (List Int) × Int × Unit) → ((Unit) ⊕ (Bool × Unit)) := whV (hd := hd9_0) (ys := ys9_0) V9_0
noncomputable def Q9_0 : ((List Int) × (List Int) × Int × Unit) → Bool := whK (hd := hd9_0) (ys := ys9_0) V9_0
noncomputable def C9 : Cx := CxL Try.Θ kn9 (lOf [(0, orc 26 24 0 hd9_0 ys9_0 W9_0 Q9_0)])
theorem CxOK9 : CxOK Try.prog C9 := ⟨Try.tabOK, knOK9, by kernel_rfl⟩
theorem l9_0 : Lone Try.prog C9 0 (.loop (loopB 0 (bodyF Try.f9))) (orc 26 24 0 hd9_0 ys9_0 W9_0 Q9_0) :=
  Lone.of CxOK9 (Lall.LOK rfl (by kernel_rfl) (Lall.skip (by kernel_rfl) trivial)) (by kernel_rfl) (fun x => (r9_0  W9_0 Q9_0 x.1 x.2.1 x.2.2.1).trans (by rfl))
theorem LOK9 : LOK Try.prog C9 0 (bodyF Try.f9) := (Lall.LOK rfl (by kernel_rfl) (Lall.cons (by kernel_rfl) l9_0 trivial))
noncomputable def E9 : ((List Int) × (List Int) × Unit) → Option Bool := fun x => S9  W9_0 Q9_0 x.1 x.2.1
noncomputable def F9 : ((List Int) × (List Int) × Unit) → Bool := fun x => (E9 x).getD (dflt .bool)
noncomputable def G9 : ((List Int) × (List Int) × Unit) → Bool := fun x => (E9 x).isSome
theorem p9 : ∀ x, G9 x = true → PureOK Try.prog 9 (mkA [(.vsl (.int .i64)), (.vsl (.int .i64))] x) ⟨.bool, F9 x⟩ :=
  PureOK.ofS (ts := [(.vsl (.int .i64)), (.vsl (.int .i64))]) (T := .bool) (S := E9) CxOK9 Try.func9 (LOK.fn LOK9) (fun x => t9  W9_0 Q9_0 x.1 x.2.1)
noncomputable def kn4 : Kn := kOf [(9, sm [(.vsl (.int .i64)), (.vsl (.int .i64))] .bool F9 G9), (12, sm [] .bool F12 G12), (13, sm [(.vsl KTn6)] (.vsl .bool) F13 G13), (14, sm [(.vsl KTn6)] (.vsl .bool) F14 G14), (15, sm [(.vsl KTn6), (.int .i64)] (.vsl (.int .i64)) F15 G15), (16, sm [(.vsl KTn6), (.int .i64)] (.vsl (.int .i64)) F16 G16)]
theorem knOK4 : KOK Try.prog kn4 := (KOK.cons Try.call9 (SmOK.sm p9) (KOK.cons Try.call12 (SmOK.sm p12) (KOK.cons Try.call13 (SmOK.sm p13) (KOK.cons Try.call14 (SmOK.sm p14) (KOK.cons Try.call15 (SmOK.sm p15) (KOK.cons Try.call16 (SmOK.sm p16) KOK.nil))))))
noncomputable def V4_0 : (KDn1 × (List Bool) × (List Bool) × Int × Unit) → Option ((KDn1 × (List Bool) × (List Bool) × Int × Unit) ⊕ ((Unit) ⊕ (Bool × Unit))) := fun x => R4_0 F9 G9 F12 G12 F13 G13 F14 G14 F15 G15 F16 G16 (fun _ => (Sum.inl (()))) (fun _ => false) x.1 x.2.1 x.2.2.1 x.2.2.2.1
noncomputable def W4_0 : (KDn1 × (List Bool) × (List Bool) × Int × Unit) → ((Unit) ⊕ (Bool × Unit)) := whV (hd := hd4_0) (ys := ys4_0) V4_0
noncomputable def Q4_0 : (KDn1 × (List Bool) × (List Bool) × Int × Unit) → Bool := whK (hd := hd4_0) (ys := ys4_0) V4_0
noncomputable def C4 : Cx := CxL Try.Θ kn4 (lOf [(0, orc 57 24 0 hd4_0 ys4_0 W4_0 Q4_0)])
theorem CxOK4 : CxOK Try.prog C4 := ⟨Try.tabOK, knOK4, by kernel_rfl⟩
theorem l4_0 : Lone Try.prog C4 0 (.loop (loopB 0 (bodyF Try.f4))) (orc 57 24 0 hd4_0 ys4_0 W4_0 Q4_0) :=
  Lone.of CxOK4 (Lall.LOK rfl (by kernel_rfl) (Lall.skip (by kernel_rfl) trivial)) (by kernel_rfl) (fun x => (r4_0 F9 G9 F12 G12 F13 G13 F14 G14 F15 G15 F16 G16 W4_0 Q4_0 x.1 x.2.1 x.2.2.1 x.2.2.2.1).trans (by rfl))
theorem LOK4 : LOK Try.prog C4 0 (bodyF Try.f4) := (Lall.LOK rfl (by kernel_rfl) (Lall.cons (by kernel_rfl) l4_0 trivial))
noncomputable def E4 : (KDn1 × Int × Unit) → Option Bool := fun x => S4 F9 G9 F12 G12 F13 G13 F14 G14 F15 G15 F16 G16 W4_0 Q4_0 x.1 x.2.1
noncomputable def F4 : (KDn1 × Int × Unit) → Bool := fun x => (E4 x).getD (dflt .bool)
noncomputable def G4 : (KDn1 × Int × Unit) → Bool := fun x => (E4 x).isSome
theorem p4 : ∀ x, G4 x = true → PureOK Try.prog 4 (mkA [(.vsl KTn6), (.int .i64)] x) ⟨.bool, F4 x⟩ :=
  PureOK.ofS (ts := [(.vsl KTn6), (.int .i64)]) (T := .bool) (S := E4) CxOK4 Try.func4 (LOK.fn LOK4) (fun x => t4 F9 G9 F12 G12 F13 G13 F14 G14 F15 G15 F16 G16 W4_0 Q4_0 x.1 x.2.1)
end Go.Proofs
