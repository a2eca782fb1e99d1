import Derived.Test.YtaajacejgkcehaaMD
namespace Go.Proofs
open Go.GX
set_option linter.unusedVariables false
set_option linter.unusedSimpArgs false
def sgn (op : Int) : Bool := decide (op = 96) || decide (op = 112) || decide (op = 192) || decide (op = 208)
def core (op : Int) (a b : Sc) : R3 :=
  if op = 16 then mtt a b else
  if op = 32 then abv a b true else
  if op = 48 then abv a b false else
  if op = 64 then shr a b else
  if op = 68 then nsh a b else
  if op = 80 then dif a b else
  if op = 96 then abv a b true else
  if op = 112 then abv a b false else
  if op = 160 then swp (abv b a true) else
  if op = 176 then swp (abv b a false) else
  if op = 192 then swp (abv b a true) else
  swp (abv b a false)
def rf (op : Int) (w : Bool) (a b : Sc) : R3 := if notF op < 0 then (a, b, true, ()) else rfO (sgn op) w a b (core op a b)
theorem notF_n {op : Int} (h16 : op ≠ 16) (h32 : op ≠ 32) (h48 : op ≠ 48) (h64 : op ≠ 64) (h68 : op ≠ 68) (h80 : op ≠ 80) (h96 : op ≠ 96) (h112 : op ≠ 112) (h160 : op ≠ 160) (h176 : op ≠ 176) (h192 : op ≠ 192) (h208 : op ≠ 208) : notF op = -1 := by
  simp [notF, h16, h32, h48, h64, h68, h80, h96, h112, h160, h176, h192, h208]
theorem E8_eq (op : Int) (w : Bool) (a b : Sc) (ha : InR a.2.2.1) (hb : InR b.2.2.1) : E8 (op, w, a, b, ()) = some (rf op w a b) := by
  unfold E8
  by_cases h16 : op = 16
  · subst h16; exact (if_pos rfl).trans (E8_16_eq w a b ha hb)
  refine (if_neg h16).trans ?_
  by_cases h32 : op = 32
  · subst h32; exact (if_pos rfl).trans (E8_32_eq w a b ha hb)
  refine (if_neg h32).trans ?_
  by_cases h48 : op = 48
  · subst h48; exact (if_pos rfl).trans (E8_48_eq w a b ha hb)
  refine (if_neg h48).trans ?_
  by_cases h64 : op = 64
  · subst h64; exact (if_pos rfl).trans (E8_64_eq w a b ha hb)
  refine (if_neg h64).trans ?_
  by_cases h68 : op = 68
  · subst h68; exact (if_pos rfl).trans (E8_68_eq w a b ha hb)
  refine (if_neg h68).trans ?_
  by_cases h80 : op = 80
  · subst h80; exact (if_pos rfl).trans (E8_80_eq w a b ha hb)
  refine (if_neg h80).trans ?_
  by_cases h96 : op = 96
  · subst h96; exact (if_pos rfl).trans (E8_96_eq w a b ha hb)
  refine (if_neg h96).trans ?_
  by_cases h112 : op = 112
  · subst h112; exact (if_pos rfl).trans (E8_112_eq w a b ha hb)
  refine (if_neg h112).trans ?_
  by_cases h160 : op = 160
  · subst h160; exact (if_pos rfl).trans (E8_160_eq w a b ha hb)
  refine (if_neg h160).trans ?_
  by_cases h176 : op = 176
  · subst h176; exact (if_pos rfl).trans (E8_176_eq w a b ha hb)
  refine (if_neg h176).trans ?_
  by_cases h192 : op = 192
  · subst h192; exact (if_pos rfl).trans (E8_192_eq w a b ha hb)
  refine (if_neg h192).trans ?_
  by_cases h208 : op = 208
  · subst h208; exact (if_pos rfl).trans (E8_208_eq w a b ha hb)
  refine (if_neg h208).trans ?_
  have hn := notF_n h16 h32 h48 h64 h68 h80 h96 h112 h160 h176 h192 h208
  show S8_n (fun x => G12 x && decide (F12 x = -1)) op w a b = _
  have h1 : (G12 (op, ()) && decide (F12 (op, ()) = -1)) = true := by rw [(F12_eq op).1, (F12_eq op).2, hn]; rfl
  unfold S8_n rf
  rw [if_pos (show notF op < 0 by rw [hn]; decide)]
  simp only [h1]
  generalize decide (ishr .u64 (ior .u64 a.2.2.1 b.2.2.1) 32 = 0) = p
  cases w <;> cases p <;> rfl
theorem F8_eq (op : Int) (w : Bool) (a b : Sc) (ha : InR a.2.2.1) (hb : InR b.2.2.1) : F8 (op, w, a, b, ()) = rf op w a b ∧ G8 (op, w, a, b, ()) = true := ofE (E8_eq op w a b ha hb)
theorem E9_eq (op : Int) (w : Bool) (a b : Sc) : E9 (op, w, a, b, ()) = some (rf op w a b) := by
  unfold E9
  by_cases h16 : op = 16
  · subst h16; exact (if_pos rfl).trans (E9_16_eq w a b)
  refine (if_neg h16).trans ?_
  by_cases h32 : op = 32
  · subst h32; exact (if_pos rfl).trans (E9_32_eq w a b)
  refine (if_neg h32).trans ?_
  by_cases h48 : op = 48
  · subst h48; exact (if_pos rfl).trans (E9_48_eq w a b)
  refine (if_neg h48).trans ?_
  by_cases h64 : op = 64
  · subst h64; exact (if_pos rfl).trans (E9_64_eq w a b)
  refine (if_neg h64).trans ?_
  by_cases h68 : op = 68
  · subst h68; exact (if_pos rfl).trans (E9_68_eq w a b)
  refine (if_neg h68).trans ?_
  by_cases h80 : op = 80
  · subst h80; exact (if_pos rfl).trans (E9_80_eq w a b)
  refine (if_neg h80).trans ?_
  by_cases h96 : op = 96
  · subst h96; exact (if_pos rfl).trans (E9_96_eq w a b)
  refine (if_neg h96).trans ?_
  by_cases h112 : op = 112
  · subst h112; exact (if_pos rfl).trans (E9_112_eq w a b)
  refine (if_neg h112).trans ?_
  by_cases h160 : op = 160
  · subst h160; exact (if_pos rfl).trans (E9_160_eq w a b)
  refine (if_neg h160).trans ?_
  by_cases h176 : op = 176
  · subst h176; exact (if_pos rfl).trans (E9_176_eq w a b)
  refine (if_neg h176).trans ?_
  by_cases h192 : op = 192
  · subst h192; exact (if_pos rfl).trans (E9_192_eq w a b)
  refine (if_neg h192).trans ?_
  by_cases h208 : op = 208
  · subst h208; exact (if_pos rfl).trans (E9_208_eq w a b)
  refine (if_neg h208).trans ?_
  have hn := notF_n h16 h32 h48 h64 h68 h80 h96 h112 h160 h176 h192 h208
  show S9_n (fun x => G13 x && decide (F13 x = -1)) op w a b = _
  have h1 : (G13 (op, ()) && decide (F13 (op, ()) = -1)) = true := by rw [(F13_eq op).1, (F13_eq op).2, hn]; rfl
  unfold S9_n rf
  rw [if_pos (show notF op < 0 by rw [hn]; decide)]
  simp only [h1]; rfl
theorem F9_eq (op : Int) (w : Bool) (a b : Sc) : F9 (op, w, a, b, ()) = rf op w a b ∧ G9 (op, w, a, b, ()) = true := ofE (E9_eq op w a b)
/-! ## Always -/
def alw (op : Int) (w : Bool) (a b : Sc) : Bool × Bool × Unit :=
  if notF op < 0 then (false, false, ()) else bif !(rf op w a b).2.2.1 then (false, true, ()) else bif !(rf (notF op) w a b).2.2.1 then (true, true, ()) else (false, false, ())
theorem E10_eq (op : Int) (w : Bool) (a b : Sc) (ha : InR a.2.2.1) (hb : InR b.2.2.1) : E10 (op, w, a, b, ()) = some (alw op w a b) := by
  show S10 F8 G8 F12 G12 op w a b = _
  unfold S10 alw
  simp only [(F12_eq _).1, (F12_eq _).2, (F8_eq _ w a b ha hb).1, (F8_eq _ w a b ha hb).2]
  by_cases h : notF op < 0
  · rw [if_pos h, decide_eq_true h]; rfl
  · rw [if_neg h, decide_eq_false h]
    generalize (rf op w a b).2.2.1 = p
    generalize (rf (notF op) w a b).2.2.1 = q
    cases p <;> cases q <;> rfl
theorem E11_eq (op : Int) (w : Bool) (a b : Sc) : E11 (op, w, a, b, ()) = some (alw op w a b) := by
  show S11 F9 G9 F13 G13 op w a b = _
  unfold S11 alw
  simp only [(F13_eq _).1, (F13_eq _).2, (F9_eq _ w a b).1, (F9_eq _ w a b).2]
  by_cases h : notF op < 0
  · rw [if_pos h, decide_eq_true h]; rfl
  · rw [if_neg h, decide_eq_false h]
    generalize (rf op w a b).2.2.1 = p
    generalize (rf (notF op) w a b).2.2.1 = q
    cases p <;> cases q <;> rfl
theorem F10_eq (op : Int) (w : Bool) (a b : Sc) (ha : InR a.2.2.1) (hb : InR b.2.2.1) : F10 (op, w, a, b, ()) = alw op w a b ∧ G10 (op, w, a, b, ()) = true := ofE (E10_eq op w a b ha hb)
theorem F11_eq (op : Int) (w : Bool) (a b : Sc) : F11 (op, w, a, b, ()) = alw op w a b ∧ G11 (op, w, a, b, ()) = true := ofE (E11_eq op w a b)
/-! ## Tests of numbers -/
def lw (w : Bool) (x : Int) : Int := bif w then x else iand .u64 x 4294967295
def sw (w : Bool) (x : Int) : Int := bif w then IntKind.wrap .i64 x else IntKind.wrap .i64 (IntKind.wrap .i32 x)
def tst (op : Int) (w : Bool) (x y : Int) : Bool :=
  if op = 16 then decide (lw w x = lw w y) else if op = 32 then decide (lw w x > lw w y) else if op = 48 then decide (lw w x ≥ lw w y)
  else if op = 64 then !decide (iand .u64 (lw w x) (lw w y) = 0) else if op = 80 then !decide (lw w x = lw w y)
  else if op = 96 then decide (sw w (lw w x) > sw w (lw w y)) else if op = 112 then decide (sw w (lw w x) ≥ sw w (lw w y))
  else if op = 160 then decide (lw w x < lw w y) else if op = 176 then decide (lw w x ≤ lw w y)
  else if op = 192 then decide (sw w (lw w x) < sw w (lw w y)) else if op = 208 then decide (sw w (lw w x) ≤ sw w (lw w y)) else false
def tsk (op : Int) : Bool := decide (op = 16) || decide (op = 32) || decide (op = 48) || decide (op = 64) || decide (op = 80) || decide (op = 96) || decide (op = 112) || decide (op = 160) || decide (op = 176) || decide (op = 192) || decide (op = 208)
theorem F45_eq (x : Int) : F45 (x, ()) = iand .u64 x 4294967295 ∧ G45 (x, ()) = true := ⟨rfl, rfl⟩
theorem E34_eq (op : Int) (w : Bool) (x y : Int) : E34 (op, w, x, y, ()) = some (tst op w x y, (bif tsk op then 0 else 1), ()) := by
  show S34 F45 G45 op w x y = _
  unfold S34
  simp only [(F45_eq _).1, (F45_eq _).2]
  by_cases h16 : op = 16
  · subst h16; cases w <;> rfl
  by_cases h32 : op = 32
  · subst h32; cases w <;> rfl
  by_cases h48 : op = 48
  · subst h48; cases w <;> rfl
  by_cases h64 : op = 64
  · subst h64; cases w <;> rfl
  by_cases h80 : op = 80
  · subst h80; cases w <;> rfl
  by_cases h96 : op = 96
  · subst h96; cases w <;> rfl
  by_cases h112 : op = 112
  · subst h112; cases w <;> rfl
  by_cases h160 : op = 160
  · subst h160; cases w <;> rfl
  by_cases h176 : op = 176
  · subst h176; cases w <;> rfl
  by_cases h192 : op = 192
  · subst h192; cases w <;> rfl
  by_cases h208 : op = 208
  · subst h208; cases w <;> rfl
  cases w <;> simp [tst, tsk, h16, h32, h48, h64, h80, h96, h112, h160, h176, h192, h208]
theorem F34_eq (op : Int) (w : Bool) (x y : Int) : F34 (op, w, x, y, ()) = (tst op w x y, (bif tsk op then 0 else 1), ()) ∧ G34 (op, w, x, y, ()) = true := ofE (E34_eq op w x y)
def ts2 (op : Int) (w : Bool) (x y : Int) : Bool × Bool × Unit := if op = 68 then (!tst 64 w x y, true, ()) else (tst op w x y, tsk op, ())
theorem E16_eq (op : Int) (w : Bool) (x y : Int) : E16 (op, w, x, y, ()) = some (ts2 op w x y) := by
  show S16 F34 G34 op w x y = _
  unfold S16 ts2
  simp only [(F34_eq _ _ _ _).1, (F34_eq _ _ _ _).2]
  by_cases h : op = 68
  · rw [if_pos h, decide_eq_true h]; rfl
  · rw [if_neg h, decide_eq_false h]
    cases tsk op <;> rfl
theorem F16_eq (op : Int) (w : Bool) (x y : Int) : F16 (op, w, x, y, ()) = ts2 op w x y ∧ G16 (op, w, x, y, ()) = true := ofE (E16_eq op w x y)
end Go.Proofs
