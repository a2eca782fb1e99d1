import Derived.Test.YtaajacejgkcehaaM
namespace Go.Proofs
open Go.GX
set_option linter.unusedVariables false
set_option linter.unusedSimpArgs false
/-! ## Opposites -/
theorem wh_bif {α β : Type} {f : α → Option (α ⊕ β)} {x x' : α} {c d : Bool} {y z : β} (h : f x = bif c then some (.inr y) else bif d then some (.inr z) else some (.inl x')) :
    wh f x = bif c then some y else bif d then some z else wh f x' := by
  cases c
  · cases d
    · exact wh_next h
    · exact wh_stop h
  · exact wh_stop h
def notF (op : Int) : Int :=
  if op = 16 then 80 else if op = 80 then 16 else if op = 32 then 176 else if op = 176 then 32 else if op = 48 then 160 else if op = 160 then 48
  else if op = 64 then 68 else if op = 68 then 64 else if op = 96 then 208 else if op = 208 then 96 else if op = 112 then 192 else if op = 192 then 112 else -1
abbrev L12 : List (List Int) := [[16, 80], [32, 176], [48, 160], [64, 68], [96, 208], [112, 192]]
theorem V12_s0 (op : Int) : V12_0 (op, L12, 6, 0, ()) = bif decide (op = 16) then some (.inr (.inr (80, ()))) else bif decide (op = 80) then some (.inr (.inr (16, ()))) else some (.inl (op, L12, 6, 1, ())) := by kernel_rfl
theorem V12_s1 (op : Int) : V12_0 (op, L12, 6, 1, ()) = bif decide (op = 32) then some (.inr (.inr (176, ()))) else bif decide (op = 176) then some (.inr (.inr (32, ()))) else some (.inl (op, L12, 6, 2, ())) := by kernel_rfl
theorem V12_s2 (op : Int) : V12_0 (op, L12, 6, 2, ()) = bif decide (op = 48) then some (.inr (.inr (160, ()))) else bif decide (op = 160) then some (.inr (.inr (48, ()))) else some (.inl (op, L12, 6, 3, ())) := by kernel_rfl
theorem V12_s3 (op : Int) : V12_0 (op, L12, 6, 3, ()) = bif decide (op = 64) then some (.inr (.inr (68, ()))) else bif decide (op = 68) then some (.inr (.inr (64, ()))) else some (.inl (op, L12, 6, 4, ())) := by kernel_rfl
theorem V12_s4 (op : Int) : V12_0 (op, L12, 6, 4, ()) = bif decide (op = 96) then some (.inr (.inr (208, ()))) else bif decide (op = 208) then some (.inr (.inr (96, ()))) else some (.inl (op, L12, 6, 5, ())) := by kernel_rfl
theorem V12_s5 (op : Int) : V12_0 (op, L12, 6, 5, ()) = bif decide (op = 112) then some (.inr (.inr (192, ()))) else bif decide (op = 192) then some (.inr (.inr (112, ()))) else some (.inl (op, L12, 6, 6, ())) := by kernel_rfl
theorem V12_s6 (op : Int) : V12_0 (op, L12, 6, 6, ()) = some (.inr (.inl ())) := by kernel_rfl
def outN (op : Int) : Unit ⊕ (Int × Unit) := if notF op < 0 then .inl () else .inr (notF op, ())
theorem W12_eq (op : Int) : wh V12_0 (op, L12, 6, 0, ()) = some (outN op) := by
  rw [wh_bif (V12_s0 op), wh_bif (V12_s1 op), wh_bif (V12_s2 op), wh_bif (V12_s3 op), wh_bif (V12_s4 op), wh_bif (V12_s5 op), wh_stop (V12_s6 op)]
  by_cases h16 : op = 16
  · subst h16; rfl
  by_cases h80 : op = 80
  · subst h80; rfl
  by_cases h32 : op = 32
  · subst h32; rfl
  by_cases h176 : op = 176
  · subst h176; rfl
  by_cases h48 : op = 48
  · subst h48; rfl
  by_cases h160 : op = 160
  · subst h160; rfl
  by_cases h64 : op = 64
  · subst h64; rfl
  by_cases h68 : op = 68
  · subst h68; rfl
  by_cases h96 : op = 96
  · subst h96; rfl
  by_cases h208 : op = 208
  · subst h208; rfl
  by_cases h112 : op = 112
  · subst h112; rfl
  by_cases h192 : op = 192
  · subst h192; rfl
  simp [outN, notF, h16, h80, h32, h176, h48, h160, h64, h68, h96, h208, h112, h192]
abbrev A13 : List Int := [16, 32, 48, 64, 96, 112]
abbrev B13 : List Int := [80, 176, 160, 68, 208, 192]
theorem V13_s0 (op : Int) : V13_0 (op, A13, B13, 0, ()) = bif decide (16 = op) then some (.inr (.inr (80, ()))) else bif decide (80 = op) then some (.inr (.inr (16, ()))) else some (.inl (op, A13, B13, 1, ())) := by kernel_rfl
theorem V13_s1 (op : Int) : V13_0 (op, A13, B13, 1, ()) = bif decide (32 = op) then some (.inr (.inr (176, ()))) else bif decide (176 = op) then some (.inr (.inr (32, ()))) else some (.inl (op, A13, B13, 2, ())) := by kernel_rfl
theorem V13_s2 (op : Int) : V13_0 (op, A13, B13, 2, ()) = bif decide (48 = op) then some (.inr (.inr (160, ()))) else bif decide (160 = op) then some (.inr (.inr (48, ()))) else some (.inl (op, A13, B13, 3, ())) := by kernel_rfl
theorem V13_s3 (op : Int) : V13_0 (op, A13, B13, 3, ()) = bif decide (64 = op) then some (.inr (.inr (68, ()))) else bif decide (68 = op) then some (.inr (.inr (64, ()))) else some (.inl (op, A13, B13, 4, ())) := by kernel_rfl
theorem V13_s4 (op : Int) : V13_0 (op, A13, B13, 4, ()) = bif decide (96 = op) then some (.inr (.inr (208, ()))) else bif decide (208 = op) then some (.inr (.inr (96, ()))) else some (.inl (op, A13, B13, 5, ())) := by kernel_rfl
theorem V13_s5 (op : Int) : V13_0 (op, A13, B13, 5, ()) = bif decide (112 = op) then some (.inr (.inr (192, ()))) else bif decide (192 = op) then some (.inr (.inr (112, ()))) else some (.inl (op, A13, B13, 6, ())) := by kernel_rfl
theorem V13_s6 (op : Int) : V13_0 (op, A13, B13, 6, ()) = some (.inr (.inl ())) := by kernel_rfl
theorem W13_eq (op : Int) : wh V13_0 (op, A13, B13, 0, ()) = some (outN op) := by
  rw [wh_bif (V13_s0 op), wh_bif (V13_s1 op), wh_bif (V13_s2 op), wh_bif (V13_s3 op), wh_bif (V13_s4 op), wh_bif (V13_s5 op), wh_stop (V13_s6 op)]
  by_cases h16 : op = 16
  · subst h16; rfl
  by_cases h80 : op = 80
  · subst h80; rfl
  by_cases h32 : op = 32
  · subst h32; rfl
  by_cases h176 : op = 176
  · subst h176; rfl
  by_cases h48 : op = 48
  · subst h48; rfl
  by_cases h160 : op = 160
  · subst h160; rfl
  by_cases h64 : op = 64
  · subst h64; rfl
  by_cases h68 : op = 68
  · subst h68; rfl
  by_cases h96 : op = 96
  · subst h96; rfl
  by_cases h208 : op = 208
  · subst h208; rfl
  by_cases h112 : op = 112
  · subst h112; rfl
  by_cases h192 : op = 192
  · subst h192; rfl
  simp [outN, notF, h16, Ne.symm h16, h80, Ne.symm h80, h32, Ne.symm h32, h176, Ne.symm h176, h48, Ne.symm h48, h160, Ne.symm h160, h64, Ne.symm h64, h68, Ne.symm h68, h96, Ne.symm h96, h208, Ne.symm h208, h112, Ne.symm h112, h192, Ne.symm h192]
theorem notF_lt {op : Int} (h : notF op < 0) : notF op = -1 := by
  unfold notF at h ⊢
  repeat' split at h
  all_goals first | omega | (simp [*])
theorem E12_eq (op : Int) : E12 (op, ()) = some (notF op) := by
  show S12 W12_0 Q12_0 op = _
  unfold S12
  have e1 : W12_0 (op, L12, 6, 0, ()) = outN op := whV_of (hd := hd12_0) (ys := ys12_0) (W12_eq op)
  have e2 : Q12_0 (op, L12, 6, 0, ()) = true := whK_of (hd := hd12_0) (ys := ys12_0) (W12_eq op)
  rw [e1, e2]
  unfold outN
  split
  · rename_i h; rw [notF_lt h]; rfl
  · rfl
theorem E13_eq (op : Int) : E13 (op, ()) = some (notF op) := by
  show S13 W13_0 Q13_0 op = _
  unfold S13
  have e1 : W13_0 (op, A13, B13, 0, ()) = outN op := whV_of (hd := hd13_0) (ys := ys13_0) (W13_eq op)
  have e2 : Q13_0 (op, A13, B13, 0, ()) = true := whK_of (hd := hd13_0) (ys := ys13_0) (W13_eq op)
  rw [e1, e2]
  unfold outN
  split
  · rename_i h; rw [notF_lt h]; rfl
  · rfl
theorem F12_eq (op : Int) : F12 (op, ()) = notF op ∧ G12 (op, ()) = true := ofE (E12_eq op)
theorem F13_eq (op : Int) : F13 (op, ()) = notF op ∧ G13 (op, ()) = true := ofE (E13_eq op)
def plnF (op : Int) : Int := if op = 96 then 32 else if op = 112 then 48 else if op = 192 then 160 else if op = 208 then 176 else op
theorem E21_eq (op : Int) : E21 (op, ()) = some (plnF op) := by
  show S21 op = _
  unfold S21 plnF
  simp only [cond_eq_ite, decide_eq_true_eq]
  repeat' split
  all_goals rfl
theorem F21_eq (op : Int) : F21 (op, ()) = plnF op ∧ G21 (op, ()) = true := ofE (E21_eq op)
/-! ## Two that are known -/
abbrev R3 := Sc × Sc × Bool × Unit
def zz : R3 := (z2, z2, false, ())
def knw (a b : Sc) (ok : Bool) : R3 := bif ok then (match tgt a, tgt b with | some x, some y => (x, y, true, ()) | _, _ => zz) else zz
theorem E24_eq (a b : Sc) (ok : Bool) : E24 (a, b, ok, ()) = some (knw a b ok) := by
  show S24 F39 G39 a b ok = _
  unfold S24 knw
  rw [(F39_eq a).1, (F39_eq a).2, (F39_eq b).1, (F39_eq b).2]
  cases ok
  · rfl
  · cases tgt a with
    | none => rfl
    | some x => cases tgt b <;> rfl
theorem F24_eq (a b : Sc) (ok : Bool) : F24 (a, b, ok, ()) = knw a b ok ∧ G24 (a, b, ok, ()) = true := ofE (E24_eq a b ok)
theorem E27_eq (a b : Sc) : E27 (a, b, ()) = some (knw a b true) := by
  show S27 F18 G18 a b = _
  unfold S27 knw
  rw [(F18_eq a).1, (F18_eq a).2, (F18_eq b).1, (F18_eq b).2]
  cases tgt a with
  | none => rfl
  | some x => cases tgt b <;> rfl
theorem F27_eq (a b : Sc) : F27 (a, b, ()) = knw a b true ∧ G27 (a, b, ()) = true := ofE (E27_eq a b)
theorem tgt_none {s : Sc} (h : ¬ s.2.1 ≤ s.2.2.1) : tgt s = none := by
  unfold tgt
  split
  · have : rnd s = none := by
      unfold rnd
      rw [if_neg]
      intro hh
      have h1 := ((mn_le s).1 hh)
      have h2 := (le_mx s).1 (Int.le_refl (mxF s))
      omega
    simp [rnds, this]
  · rfl
theorem knw_nl {a b : Sc} {ok : Bool} (h : tgt a = none) : knw a b ok = zz := by unfold knw; rw [h]; cases ok <;> rfl
theorem knw_nr {a b : Sc} {ok : Bool} (h : tgt b = none) : knw a b ok = zz := by
  unfold knw; rw [h]
  cases ok
  · rfl
  · cases tgt a <;> rfl
theorem knw_f {a b : Sc} : knw a b false = zz := rfl
def swp (r : R3) : R3 := (r.2.1, r.1, r.2.2.1, ())
theorem knw_swp (a b : Sc) (ok : Bool) : swp (knw a b ok) = knw b a ok := by
  unfold knw
  cases ok
  · rfl
  · cases tgt a with
    | none => cases tgt b <;> rfl
    | some x => cases tgt b <;> rfl
/-! ## Edges -/
def edgL (a : Sc) (c : Int) : Option Sc := if a.2.1 = c then (if c = 18446744073709551615 then none else some (a.1, IntKind.wrap .u64 (a.2.1 + 1), a.2.2)) else some a
def edgH (t : Sc) (c : Int) : Option Sc := if t.2.2.1 = c then (if c = 0 then none else some (t.1, t.2.1, IntKind.wrap .u64 (t.2.2.1 - 1), t.2.2.2)) else some t
def edg (a : Sc) (c : Int) : Option Sc := (edgL a c).bind fun t => edgH t c
def okE : Option Sc → Bool
  | some s => decide (s.2.1 ≤ s.2.2.1)
  | none => false
theorem E42_ex (a : Sc) (c : Int) : ∃ t, E42 (a, c, ()) = some (t, (edg a c).isSome, ()) ∧ ∀ s, edg a c = some s → t = s := by
  show ∃ t, S42 a c = some (t, (edg a c).isSome, ()) ∧ ∀ s, edg a c = some s → t = s
  unfold S42 edg edgL edgH
  by_cases h1 : a.2.1 = c
  · rw [if_pos h1, bif_t (decide_eq_true h1)]
    by_cases h2 : c = 18446744073709551615
    · rw [if_pos h2, bif_t (decide_eq_true h2)]; exact ⟨_, rfl, fun s h => by cases h⟩
    · rw [if_neg h2, bif_f (decide_eq_false h2)]
      show ∃ t, _ = some (t, (if a.2.2.1 = c then _ else _ : Option Sc).isSome, ()) ∧ ∀ s, (if a.2.2.1 = c then _ else _ : Option Sc) = some s → t = s
      by_cases h3 : a.2.2.1 = c
      · rw [if_pos h3, bif_t (decide_eq_true h3)]
        by_cases h4 : c = 0
        · rw [if_pos h4, bif_t (decide_eq_true h4)]; exact ⟨_, rfl, fun s h => by cases h⟩
        · rw [if_neg h4, bif_f (decide_eq_false h4)]; exact ⟨_, rfl, fun s h => by cases h; rfl⟩
      · rw [if_neg h3, bif_f (decide_eq_false h3)]; exact ⟨_, rfl, fun s h => by cases h; rfl⟩
  · rw [if_neg h1, bif_f (decide_eq_false h1)]
    show ∃ t, _ = some (t, (if a.2.2.1 = c then _ else _ : Option Sc).isSome, ()) ∧ ∀ s, (if a.2.2.1 = c then _ else _ : Option Sc) = some s → t = s
    by_cases h3 : a.2.2.1 = c
    · rw [if_pos h3, bif_t (decide_eq_true h3)]
      by_cases h4 : c = 0
      · rw [if_pos h4, bif_t (decide_eq_true h4)]; exact ⟨_, rfl, fun s h => by cases h⟩
      · rw [if_neg h4, bif_f (decide_eq_false h4)]; exact ⟨_, rfl, fun s h => by cases h; rfl⟩
    · rw [if_neg h3, bif_f (decide_eq_false h3)]; exact ⟨_, rfl, fun s h => by cases h; rfl⟩
theorem E40_ex (a : Sc) (c : Int) : ∃ t, E40 (a, c, ()) = some (t, okE (edg a c), ()) ∧ ∀ s, edg a c = some s → t = s := by
  show ∃ t, S40 a c = some (t, okE (edg a c), ()) ∧ ∀ s, edg a c = some s → t = s
  unfold S40 edg edgL edgH
  by_cases h1 : a.2.1 = c
  · rw [if_pos h1, decide_eq_true h1]
    by_cases h2 : c = 18446744073709551615
    · rw [if_pos h2, decide_eq_true h2]; exact ⟨_, rfl, fun s h => by cases h⟩
    · rw [if_neg h2, decide_eq_false h2]
      show ∃ t, _ = some (t, okE (if a.2.2.1 = c then _ else _ : Option Sc), ()) ∧ ∀ s, (if a.2.2.1 = c then _ else _ : Option Sc) = some s → t = s
      by_cases h3 : a.2.2.1 = c
      · rw [if_pos h3, decide_eq_true h3]
        by_cases h4 : c = 0
        · rw [if_pos h4, decide_eq_true h4]; exact ⟨_, rfl, fun s h => by cases h⟩
        · rw [if_neg h4, decide_eq_false h4]; exact ⟨_, rfl, fun s h => by cases h; rfl⟩
      · rw [if_neg h3, decide_eq_false h3]; exact ⟨_, rfl, fun s h => by cases h; rfl⟩
  · rw [if_neg h1, decide_eq_false h1]
    show ∃ t, _ = some (t, okE (if a.2.2.1 = c then _ else _ : Option Sc), ()) ∧ ∀ s, (if a.2.2.1 = c then _ else _ : Option Sc) = some s → t = s
    by_cases h3 : a.2.2.1 = c
    · rw [if_pos h3, decide_eq_true h3]
      by_cases h4 : c = 0
      · rw [if_pos h4, decide_eq_true h4]; exact ⟨_, rfl, fun s h => by cases h⟩
      · rw [if_neg h4, decide_eq_false h4]; exact ⟨_, rfl, fun s h => by cases h; rfl⟩
    · rw [if_neg h3, decide_eq_false h3]; exact ⟨_, rfl, fun s h => by cases h; rfl⟩
end Go.Proofs
