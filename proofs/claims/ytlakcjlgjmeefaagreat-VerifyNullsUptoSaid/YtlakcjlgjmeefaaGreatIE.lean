import Derived.Test.YtlakcjlgjmeefaaGreatBE
import Derived.Test.YtlakcjlgjmeefaaGreatGd
namespace Go.Proofs
open Go.GX
set_option linter.unusedVariables false
set_option maxRecDepth 100000
noncomputable def kn46 : Kn := kOf []
theorem knOK46 : KOK Tryz.prog kn46 := KOK.nil
noncomputable def C46 : Cx := CxL Tryz.Θ kn46 (lOf [])
theorem CxOK46 : CxOK Tryz.prog C46 := ⟨Tryz.tabOK, knOK46, by kernel_rfl, POK.none⟩
theorem LOK46 : LOK Tryz.prog C46 0 (bodyF Tryz.f46) := (Lall.LOK rfl (by kernel_rfl) trivial)
noncomputable def E46 : ((Int × (Int × KDe0)) × Unit) → Option Int := fun x => S46   x.1
noncomputable def F46 : ((Int × (Int × KDe0)) × Unit) → Int := fun x => (E46 x).getD (dflt (.int .i64))
noncomputable def G46 : ((Int × (Int × KDe0)) × Unit) → Bool := fun x => (E46 x).isSome
theorem p46 : ∀ x, G46 x = true → PureOK Tryz.prog 46 (mkA [KTe5] x) ⟨(.int .i64), F46 x⟩ :=
  PureOK.ofS (ts := [KTe5]) (T := (.int .i64)) (S := E46) CxOK46 Tryz.func46 (LOK.fn LOK46) (fun x => t46   x.1)
noncomputable def kn54 : Kn := kOf []
theorem knOK54 : KOK Tryz.prog kn54 := KOK.nil
noncomputable def C54 : Cx := CxL Tryz.Θ kn54 (lOf [])
theorem CxOK54 : CxOK Tryz.prog C54 := ⟨Tryz.tabOK, knOK54, by kernel_rfl, POK.none⟩
theorem LOK54 : LOK Tryz.prog C54 0 (bodyF Tryz.f54) := (Lall.LOK rfl (by kernel_rfl) trivial)
noncomputable def E54 : ((Int × (Int × KDe0)) × Unit) → Option Bool := fun x => S54   x.1
noncomputable def F54 : ((Int × (Int × KDe0)) × Unit) → Bool := fun x => (E54 x).getD (dflt .bool)
noncomputable def G54 : ((Int × (Int × KDe0)) × Unit) → Bool := fun x => (E54 x).isSome
theorem p54 : ∀ x, G54 x = true → PureOK Tryz.prog 54 (mkA [KTe5] x) ⟨.bool, F54 x⟩ :=
  PureOK.ofS (ts := [KTe5]) (T := .bool) (S := E54) CxOK54 Tryz.func54 (LOK.fn LOK54) (fun x => t54   x.1)
noncomputable def kn123 : Kn := kOf []
theorem knOK123 : KOK Tryz.prog kn123 := KOK.nil
noncomputable def C123 : Cx := CxL Tryz.Θ kn123 (lOf [])
theorem CxOK123 : CxOK Tryz.prog C123 := ⟨Tryz.tabOK, knOK123, by kernel_rfl, POK.none⟩
theorem LOK123 : LOK Tryz.prog C123 0 (bodyF Tryz.f123) := (Lall.LOK rfl (by kernel_rfl) trivial)
noncomputable def E123 : (Int × Int × Unit) → Option (Int × (Int × Unit)) := fun x => S123   x.1 x.2.1
noncomputable def F123 : (Int × Int × Unit) → (Int × (Int × Unit)) := fun x => (E123 x).getD (dflt KTe7)
noncomputable def G123 : (Int × Int × Unit) → Bool := fun x => (E123 x).isSome
theorem p123 : ∀ x, G123 x = true → PureOK Tryz.prog 123 (mkA [(.int .u64), (.int .u64)] x) ⟨KTe7, F123 x⟩ :=
  PureOK.ofS (ts := [(.int .u64), (.int .u64)]) (T := KTe7) (S := E123) CxOK123 Tryz.func123 (LOK.fn LOK123) (fun x => t123   x.1 x.2.1)
noncomputable def kn72 : Kn := kOf [(123, sm [(.int .u64), (.int .u64)] KTe7 F123 G123)]
theorem knOK72 : KOK Tryz.prog kn72 := (KOK.cons Tryz.call123 (SmOK.sm p123) KOK.nil)
noncomputable def C72 : Cx := CxL Tryz.Θ kn72 (lOf [])
theorem CxOK72 : CxOK Tryz.prog C72 := ⟨Tryz.tabOK, knOK72, by kernel_rfl, POK.none⟩
theorem LOK72 : LOK Tryz.prog C72 0 (bodyF Tryz.f72) := (Lall.LOK rfl (by kernel_rfl) trivial)
noncomputable def E72 : (Int × Unit) → Option (Int × (Int × Unit)) := fun x => S72 F123 G123  x.1
noncomputable def F72 : (Int × Unit) → (Int × (Int × Unit)) := fun x => (E72 x).getD (dflt KTe7)
noncomputable def G72 : (Int × Unit) → Bool := fun x => (E72 x).isSome
theorem p72 : ∀ x, G72 x = true → PureOK Tryz.prog 72 (mkA [(.int .u64)] x) ⟨KTe7, F72 x⟩ :=
  PureOK.ofS (ts := [(.int .u64)]) (T := KTe7) (S := E72) CxOK72 Tryz.func72 (LOK.fn LOK72) (fun x => t72 F123 G123  x.1)
noncomputable def kn47 : Kn := kOf [(72, sm [(.int .u64)] KTe7 F72 G72)]
theorem knOK47 : KOK Tryz.prog kn47 := (KOK.cons Tryz.call72 (SmOK.sm p72) KOK.nil)
noncomputable def C47 : Cx := CxL Tryz.Θ kn47 (lOf [])
theorem CxOK47 : CxOK Tryz.prog C47 := ⟨Tryz.tabOK, knOK47, by kernel_rfl, POK.none⟩
theorem LOK47 : LOK Tryz.prog C47 0 (bodyF Tryz.f47) := (Lall.LOK rfl (by kernel_rfl) trivial)
noncomputable def E47 : (Int × Unit) → Option KDe8 := fun x => S47 F72 G72  x.1
noncomputable def F47 : (Int × Unit) → KDe8 := fun x => (E47 x).getD (dflt (.pair KTe7 KTe7))
noncomputable def G47 : (Int × Unit) → Bool := fun x => (E47 x).isSome
theorem p47 : ∀ x, G47 x = true → PureOK Tryz.prog 47 (mkA [(.int .u64)] x) ⟨(.pair KTe7 KTe7), F47 x⟩ :=
  PureOK.ofS (ts := [(.int .u64)]) (T := (.pair KTe7 KTe7)) (S := E47) CxOK47 Tryz.func47 (LOK.fn LOK47) (fun x => t47 F72 G72  x.1)
noncomputable def kn55 : Kn := kOf []
theorem knOK55 : KOK Tryz.prog kn55 := KOK.nil
noncomputable def C55 : Cx := CxL Tryz.Θ kn55 (lOf [])
theorem CxOK55 : CxOK Tryz.prog C55 := ⟨Tryz.tabOK, knOK55, by kernel_rfl, POK.none⟩
theorem LOK55 : LOK Tryz.prog C55 0 (bodyF Tryz.f55) := (Lall.LOK rfl (by kernel_rfl) trivial)
noncomputable def E55 : (KDe8 × Unit) → Option (Int × (KDe8 × KDe0)) := fun x => S55   x.1
noncomputable def F55 : (KDe8 × Unit) → (Int × (KDe8 × KDe0)) := fun x => (E55 x).getD (dflt KTe10)
noncomputable def G55 : (KDe8 × Unit) → Bool := fun x => (E55 x).isSome
theorem p55 : ∀ x, G55 x = true → PureOK Tryz.prog 55 (mkA [(.pair KTe7 KTe7)] x) ⟨KTe10, F55 x⟩ :=
  PureOK.ofS (ts := [(.pair KTe7 KTe7)]) (T := KTe10) (S := E55) CxOK55 Tryz.func55 (LOK.fn LOK55) (fun x => t55   x.1)
noncomputable def kn35 : Kn := kOf [(69, sm [(.vsl (.int .i64))] (.vsl (.int .i64)) F69 G69)]
theorem knOK35 : KOK Tryz.prog kn35 := (KOK.cons Tryz.call69 (SmOK.sm p69) KOK.nil)
noncomputable def C35 : Cx := CxL Tryz.Θ kn35 (lOf [])
theorem CxOK35 : CxOK Tryz.prog C35 := ⟨Tryz.tabOK, knOK35, by kernel_rfl, POK.none⟩
theorem LOK35 : LOK Tryz.prog C35 0 (bodyF Tryz.f35) := (Lall.LOK rfl (by kernel_rfl) trivial)
noncomputable def E35 : (KDe15 × Unit) → Option KDe15 := fun x => S35 F69 G69  x.1
noncomputable def F35 : (KDe15 × Unit) → KDe15 := fun x => (E35 x).getD (dflt KTe21)
noncomputable def G35 : (KDe15 × Unit) → Bool := fun x => (E35 x).isSome
theorem p35 : ∀ x, G35 x = true → PureOK Tryz.prog 35 (mkA [KTe21] x) ⟨KTe21, F35 x⟩ :=
  PureOK.ofS (ts := [KTe21]) (T := KTe21) (S := E35) CxOK35 Tryz.func35 (LOK.fn LOK35) (fun x => t35 F69 G69  x.1)
noncomputable def kn57 : Kn := kOf [(35, sm [KTe21] KTe21 F35 G35)]
theorem knOK57 : KOK Tryz.prog kn57 := (KOK.cons Tryz.call35 (SmOK.sm p35) KOK.nil)
noncomputable def C57 : Cx := CxL Tryz.Θ kn57 (lOf [])
theorem CxOK57 : CxOK Tryz.prog C57 := ⟨Tryz.tabOK, knOK57, by kernel_rfl, POK.none⟩
theorem LOK57 : LOK Tryz.prog C57 0 (bodyF Tryz.f57) := (Lall.LOK rfl (by kernel_rfl) trivial)
noncomputable def E57 : ((KDe15 × KDe23) × Int × (Int × (KDe8 × KDe0)) × Unit) → Option KDe15 := fun x => S57 F35 G35  x.1 x.2.1 x.2.2.1
noncomputable def F57 : ((KDe15 × KDe23) × Int × (Int × (KDe8 × KDe0)) × Unit) → KDe15 := fun x => (E57 x).getD (dflt KTe21)
noncomputable def G57 : ((KDe15 × KDe23) × Int × (Int × (KDe8 × KDe0)) × Unit) → Bool := fun x => (E57 x).isSome
theorem p57 : ∀ x, G57 x = true → PureOK Tryz.prog 57 (mkA [(.pair KTe21 KTe25), (.int .i64), KTe10] x) ⟨KTe21, F57 x⟩ :=
  PureOK.ofS (ts := [(.pair KTe21 KTe25), (.int .i64), KTe10]) (T := KTe21) (S := E57) CxOK57 Tryz.func57 (LOK.fn LOK57) (fun x => t57 F35 G35  x.1 x.2.1 x.2.2.1)
noncomputable def kn99 : Kn := kOf []
theorem knOK99 : KOK Tryz.prog kn99 := KOK.nil
noncomputable def C99 : Cx := CxL Tryz.Θ kn99 (lOf [])
theorem CxOK99 : CxOK Tryz.prog C99 := ⟨Tryz.tabOK, knOK99, by kernel_rfl, POK.none⟩
theorem LOK99 : LOK Tryz.prog C99 0 (bodyF Tryz.f99) := (Lall.LOK rfl (by kernel_rfl) trivial)
noncomputable def E99 : (KDe8 × Unit) → Option (Int × (Bool × Unit)) := fun x => S99   x.1
noncomputable def F99 : (KDe8 × Unit) → (Int × (Bool × Unit)) := fun x => (E99 x).getD (dflt KTe26)
noncomputable def G99 : (KDe8 × Unit) → Bool := fun x => (E99 x).isSome
theorem p99 : ∀ x, G99 x = true → PureOK Tryz.prog 99 (mkA [(.pair KTe7 KTe7)] x) ⟨KTe26, F99 x⟩ :=
  PureOK.ofS (ts := [(.pair KTe7 KTe7)]) (T := KTe26) (S := E99) CxOK99 Tryz.func99 (LOK.fn LOK99) (fun x => t99   x.1)
noncomputable def kn90 : Kn := kOf [(47, sm [(.int .u64)] (.pair KTe7 KTe7) F47 G47), (55, sm [(.pair KTe7 KTe7)] KTe10 F55 G55)]
theorem knOK90 : KOK Tryz.prog kn90 := (KOK.cons Tryz.call47 (SmOK.sm p47) (KOK.cons Tryz.call55 (SmOK.sm p55) KOK.nil))
noncomputable def C90 : Cx := CxL Tryz.Θ kn90 (lOf [])
theorem CxOK90 : CxOK Tryz.prog C90 := ⟨Tryz.tabOK, knOK90, by kernel_rfl, POK.none⟩
theorem LOK90 : LOK Tryz.prog C90 0 (bodyF Tryz.f90) := (Lall.LOK rfl (by kernel_rfl) trivial)
noncomputable def E90 : ((KDe15 × KDe23) × Unit) → Option (Int × (KDe8 × KDe0)) := fun x => S90 F47 G47 F55 G55  x.1
noncomputable def F90 : ((KDe15 × KDe23) × Unit) → (Int × (KDe8 × KDe0)) := fun x => (E90 x).getD (dflt KTe10)
noncomputable def G90 : ((KDe15 × KDe23) × Unit) → Bool := fun x => (E90 x).isSome
theorem p90 : ∀ x, G90 x = true → PureOK Tryz.prog 90 (mkA [(.pair KTe21 KTe25)] x) ⟨KTe10, F90 x⟩ :=
  PureOK.ofS (ts := [(.pair KTe21 KTe25)]) (T := KTe10) (S := E90) CxOK90 Tryz.func90 (LOK.fn LOK90) (fun x => t90 F47 G47 F55 G55  x.1)
noncomputable def kn91 : Kn := kOf [(46, sm [KTe5] (.int .i64) F46 G46), (47, sm [(.int .u64)] (.pair KTe7 KTe7) F47 G47), (55, sm [(.pair KTe7 KTe7)] KTe10 F55 G55), (86, sm [] (.pair KTe7 KTe7) F86 G86), (96, sm [(.pair KTe7 KTe7), (.int .i64)] (.pair KTe7 KTe7) F96 G96), (99, sm [(.pair KTe7 KTe7)] KTe26 F99 G99), (131, sm [(.int .u64), (.int .i64), .bool] KTe28 F131 G131)]
theorem knOK91 : KOK Tryz.prog kn91 := (KOK.cons Tryz.call46 (SmOK.sm p46) (KOK.cons Tryz.call47 (SmOK.sm p47) (KOK.cons Tryz.call55 (SmOK.sm p55) (KOK.cons Tryz.call86 (SmOK.sm p86) (KOK.cons Tryz.call96 (SmOK.sm p96) (KOK.cons Tryz.call99 (SmOK.sm p99) (KOK.cons Tryz.call131 (SmOK.sm p131) KOK.nil)))))))
noncomputable def C91 : Cx := CxL Tryz.Θ kn91 (lOf [])
theorem CxOK91 : CxOK Tryz.prog C91 := ⟨Tryz.tabOK, knOK91, by kernel_rfl, POK.none⟩
theorem LOK91 : LOK Tryz.prog C91 0 (bodyF Tryz.f91) := (Lall.LOK rfl (by kernel_rfl) trivial)
noncomputable def E91 : ((Int × (Int × KDe0)) × (Int × (KDe8 × KDe0)) × Unit) → Option KDe29 := fun x => S91 F46 G46 F47 G47 F55 G55 F86 G86 F96 G96 F99 G99 F131 G131  x.1 x.2.1
noncomputable def F91 : ((Int × (Int × KDe0)) × (Int × (KDe8 × KDe0)) × Unit) → KDe29 := fun x => (E91 x).getD (dflt (.tup KTe10 KTe27))
noncomputable def G91 : ((Int × (Int × KDe0)) × (Int × (KDe8 × KDe0)) × Unit) → Bool := fun x => (E91 x).isSome
theorem p91 : ∀ x, G91 x = true → PureOK Tryz.prog 91 (mkA [KTe5, KTe10] x) ⟨(.tup KTe10 KTe27), F91 x⟩ :=
  PureOK.ofS (ts := [KTe5, KTe10]) (T := (.tup KTe10 KTe27)) (S := E91) CxOK91 Tryz.func91 (LOK.fn LOK91) (fun x => t91 F46 G46 F47 G47 F55 G55 F86 G86 F96 G96 F99 G99 F131 G131  x.1 x.2.1)
noncomputable def kn60 : Kn := kOf [(46, sm [KTe5] (.int .i64) F46 G46), (55, sm [(.pair KTe7 KTe7)] KTe10 F55 G55), (89, sm [KTe5, (.pair KTe7 KTe7)] (.pair KTe7 KTe7) F89 G89), (90, sm [(.pair KTe21 KTe25)] KTe10 F90 G90), (91, sm [KTe5, KTe10] (.tup KTe10 KTe27) F91 G91), (92, sm [(.int .i64), .bool, .bool, (.pair KTe7 KTe7), (.pair KTe7 KTe7)] KTe30 F92 G92), (93, sm [KTe5, KTe10, KTe10] (.tup KTe10 KTe27) F93 G93)]
theorem knOK60 : KOK Tryz.prog kn60 := (KOK.cons Tryz.call46 (SmOK.sm p46) (KOK.cons Tryz.call55 (SmOK.sm p55) (KOK.cons Tryz.call89 (SmOK.sm p89) (KOK.cons Tryz.call90 (SmOK.sm p90) (KOK.cons Tryz.call91 (SmOK.sm p91) (KOK.cons Tryz.call92 (SmOK.sm p92) (KOK.cons Tryz.call93 (SmOK.sm p93) KOK.nil)))))))
noncomputable def C60 : Cx := CxL Tryz.Θ kn60 (lOf [])
theorem CxOK60 : CxOK Tryz.prog C60 := ⟨Tryz.tabOK, knOK60, by kernel_rfl, POK.none⟩
theorem LOK60 : LOK Tryz.prog C60 0 (bodyF Tryz.f60) := (Lall.LOK rfl (by kernel_rfl) trivial)
noncomputable def E60 : ((KDe15 × KDe23) × Unit) → Option KDe29 := fun x => S60 F46 G46 F55 G55 F89 G89 F90 G90 F91 G91 F92 G92 F93 G93  x.1
noncomputable def F60 : ((KDe15 × KDe23) × Unit) → KDe29 := fun x => (E60 x).getD (dflt (.tup KTe10 KTe27))
noncomputable def G60 : ((KDe15 × KDe23) × Unit) → Bool := fun x => (E60 x).isSome
theorem p60 : ∀ x, G60 x = true → PureOK Tryz.prog 60 (mkA [(.pair KTe21 KTe25)] x) ⟨(.tup KTe10 KTe27), F60 x⟩ :=
  PureOK.ofS (ts := [(.pair KTe21 KTe25)]) (T := (.tup KTe10 KTe27)) (S := E60) CxOK60 Tryz.func60 (LOK.fn LOK60) (fun x => t60 F46 G46 F55 G55 F89 G89 F90 G90 F91 G91 F92 G92 F93 G93  x.1)
noncomputable def kn62 : Kn := kOf []
theorem knOK62 : KOK Tryz.prog kn62 := KOK.nil
noncomputable def C62 : Cx := CxL Tryz.Θ kn62 (lOf [])
theorem CxOK62 : CxOK Tryz.prog C62 := ⟨Tryz.tabOK, knOK62, by kernel_rfl, POK.none⟩
theorem LOK62 : LOK Tryz.prog C62 0 (bodyF Tryz.f62) := (Lall.LOK rfl (by kernel_rfl) trivial)
noncomputable def E62 : ((KDe15 × KDe23) × Unit) → Option Int := fun x => S62   x.1
noncomputable def F62 : ((KDe15 × KDe23) × Unit) → Int := fun x => (E62 x).getD (dflt (.int .i64))
noncomputable def G62 : ((KDe15 × KDe23) × Unit) → Bool := fun x => (E62 x).isSome
theorem p62 : ∀ x, G62 x = true → PureOK Tryz.prog 62 (mkA [(.pair KTe21 KTe25)] x) ⟨(.int .i64), F62 x⟩ :=
  PureOK.ofS (ts := [(.pair KTe21 KTe25)]) (T := (.int .i64)) (S := E62) CxOK62 Tryz.func62 (LOK.fn LOK62) (fun x => t62   x.1)
noncomputable def kn102 : Kn := kOf [(46, sm [KTe5] (.int .i64) F46 G46), (55, sm [(.pair KTe7 KTe7)] KTe10 F55 G55), (57, sm [(.pair KTe21 KTe25), (.int .i64), KTe10] KTe21 F57 G57), (144, sm [(.int .i64)] (.int .i64) F144 G144), (145, sm [(.int .i64), .bool, (.pair KTe7 KTe7), (.pair KTe7 KTe7)] KTe32 F145 G145)]
theorem knOK102 : KOK Tryz.prog kn102 := (KOK.cons Tryz.call46 (SmOK.sm p46) (KOK.cons Tryz.call55 (SmOK.sm p55) (KOK.cons Tryz.call57 (SmOK.sm p57) (KOK.cons Tryz.call144 (SmOK.sm p144) (KOK.cons Tryz.call145 (SmOK.sm p145) KOK.nil)))))
noncomputable def C102 : Cx := CxL Tryz.Θ kn102 (lOf [])
theorem CxOK102 : CxOK Tryz.prog C102 := ⟨Tryz.tabOK, knOK102, by kernel_rfl, POK.none⟩
theorem LOK102 : LOK Tryz.prog C102 0 (bodyF Tryz.f102) := (Lall.LOK rfl (by kernel_rfl) trivial)
noncomputable def E102 : ((KDe15 × KDe23) × (Int × (KDe8 × KDe0)) × (Int × (KDe8 × KDe0)) × Unit) → Option KDe34 := fun x => S102 F46 G46 F55 G55 F57 G57 F144 G144 F145 G145  x.1 x.2.1 x.2.2.1
noncomputable def F102 : ((KDe15 × KDe23) × (Int × (KDe8 × KDe0)) × (Int × (KDe8 × KDe0)) × Unit) → KDe34 := fun x => (E102 x).getD (dflt KTe35)
noncomputable def G102 : ((KDe15 × KDe23) × (Int × (KDe8 × KDe0)) × (Int × (KDe8 × KDe0)) × Unit) → Bool := fun x => (E102 x).isSome
theorem p102 : ∀ x, G102 x = true → PureOK Tryz.prog 102 (mkA [(.pair KTe21 KTe25), KTe10, KTe10] x) ⟨KTe35, F102 x⟩ :=
  PureOK.ofS (ts := [(.pair KTe21 KTe25), KTe10, KTe10]) (T := KTe35) (S := E102) CxOK102 Tryz.func102 (LOK.fn LOK102) (fun x => t102 F46 G46 F55 G55 F57 G57 F144 G144 F145 G145  x.1 x.2.1 x.2.2.1)
noncomputable def kn63 : Kn := kOf [(46, sm [KTe5] (.int .i64) F46 G46), (90, sm [(.pair KTe21 KTe25)] KTe10 F90 G90), (102, sm [(.pair KTe21 KTe25), KTe10, KTe10] KTe35 F102 G102), (103, sm [KTe21, (.int .i64), .bool] KTe21 F103 G103), (104, sm [(.pair KTe21 KTe25), KTe10, KTe10] KTe36 F104 G104)]
theorem knOK63 : KOK Tryz.prog kn63 := (KOK.cons Tryz.call46 (SmOK.sm p46) (KOK.cons Tryz.call90 (SmOK.sm p90) (KOK.cons Tryz.call102 (SmOK.sm p102) (KOK.cons Tryz.call103 (SmOK.sm p103) (KOK.cons Tryz.call104 (SmOK.sm p104) KOK.nil)))))
noncomputable def C63 : Cx := CxL Tryz.Θ kn63 (lOf [])
theorem CxOK63 : CxOK Tryz.prog C63 := ⟨Tryz.tabOK, knOK63, by kernel_rfl, POK.none⟩
theorem LOK63 : LOK Tryz.prog C63 0 (bodyF Tryz.f63) := (Lall.LOK rfl (by kernel_rfl) trivial)
noncomputable def E63 : ((KDe15 × KDe23) × Unit) → Option (KDe34 × (Int × Unit)) := fun x => S63 F46 G46 F90 G90 F102 G102 F103 G103 F104 G104  x.1
noncomputable def F63 : ((KDe15 × KDe23) × Unit) → (KDe34 × (Int × Unit)) := fun x => (E63 x).getD (dflt (.tup KTe35 KTe27))
noncomputable def G63 : ((KDe15 × KDe23) × Unit) → Bool := fun x => (E63 x).isSome
theorem p63 : ∀ x, G63 x = true → PureOK Tryz.prog 63 (mkA [(.pair KTe21 KTe25)] x) ⟨(.tup KTe35 KTe27), F63 x⟩ :=
  PureOK.ofS (ts := [(.pair KTe21 KTe25)]) (T := (.tup KTe35 KTe27)) (S := E63) CxOK63 Tryz.func63 (LOK.fn LOK63) (fun x => t63 F46 G46 F90 G90 F102 G102 F103 G103 F104 G104  x.1)
noncomputable def kn26 : Kn := kOf [(46, sm [KTe5] (.int .i64) F46 G46), (47, sm [(.int .u64)] (.pair KTe7 KTe7) F47 G47), (54, sm [KTe5] .bool F54 G54), (55, sm [(.pair KTe7 KTe7)] KTe10 F55 G55), (56, sm [KTe5, KTe5] (.int .u64) F56 G56), (57, sm [(.pair KTe21 KTe25), (.int .i64), KTe10] KTe21 F57 G57), (58, sm [KTe21, (.vsl KTe4), KTe5] (.tup KTe21 KTe27) F58 G58), (59, sm [KTe21, (.vsl KTe4), KTe5] (.tup KTe21 KTe27) F59 G59), (60, sm [(.pair KTe21 KTe25)] (.tup KTe10 KTe27) F60 G60), (61, sm [KTe21, (.vsl KTe4), (.int .i64)] (.tup KTe21 KTe27) F61 G61), (62, sm [(.pair KTe21 KTe25)] (.int .i64) F62 G62), (63, sm [(.pair KTe21 KTe25)] (.tup KTe35 KTe27) F63 G63)]
theorem knOK26 : KOK Tryz.prog kn26 := (KOK.cons Tryz.call46 (SmOK.sm p46) (KOK.cons Tryz.call47 (SmOK.sm p47) (KOK.cons Tryz.call54 (SmOK.sm p54) (KOK.cons Tryz.call55 (SmOK.sm p55) (KOK.cons Tryz.call56 (SmOK.sm p56) (KOK.cons Tryz.call57 (SmOK.sm p57) (KOK.cons Tryz.call58 (SmOK.sm p58) (KOK.cons Tryz.call59 (SmOK.sm p59) (KOK.cons Tryz.call60 (SmOK.sm p60) (KOK.cons Tryz.call61 (SmOK.sm p61) (KOK.cons Tryz.call62 (SmOK.sm p62) (KOK.cons Tryz.call63 (SmOK.sm p63) KOK.nil))))))))))))
noncomputable def C26 : Cx := CxL Tryz.Θ kn26 (lOf [])
theorem CxOK26 : CxOK Tryz.prog C26 := ⟨Tryz.tabOK, knOK26, by kernel_rfl, POK.none⟩
theorem LOK26 : LOK Tryz.prog C26 0 (bodyF Tryz.f26) := (Lall.LOK rfl (by kernel_rfl) trivial)
noncomputable def E26 : ((KDe15 × KDe23) × Unit) → Option (KDe34 × (Int × Unit)) := fun x => S26 F46 G46 F47 G47 F54 G54 F55 G55 F56 G56 F57 G57 F58 G58 F59 G59 F60 G60 F61 G61 F62 G62 F63 G63  x.1
noncomputable def F26 : ((KDe15 × KDe23) × Unit) → (KDe34 × (Int × Unit)) := fun x => (E26 x).getD (dflt (.tup KTe35 KTe27))
noncomputable def G26 : ((KDe15 × KDe23) × Unit) → Bool := fun x => (E26 x).isSome
theorem p26 : ∀ x, G26 x = true → PureOK Tryz.prog 26 (mkA [(.pair KTe21 KTe25)] x) ⟨(.tup KTe35 KTe27), F26 x⟩ :=
  PureOK.ofS (ts := [(.pair KTe21 KTe25)]) (T := (.tup KTe35 KTe27)) (S := E26) CxOK26 Tryz.func26 (LOK.fn LOK26) (fun x => t26 F46 G46 F47 G47 F54 G54 F55 G55 F56 G56 F57 G57 F58 G58 F59 G59 F60 G60 F61 G61 F62 G62 F63 G63  x.1)
end Go.Proofs
