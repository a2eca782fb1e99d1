import Derived.Test.YtibiflonpfehiaaIN
import Derived.Test.YtibiflonpfehiaaME
namespace Go.Proofs
open Go.GX
set_option linter.unusedVariables false
set_option linter.unusedSimpArgs false
/-! ## The bits of an operation's number -/
theorem op_bits : ∀ n : Fin 256, iand .i64 ((n.val : Nat) : Int) 7 = ((n.val % 8 : Nat) : Int) ∧ iand .i64 ((n.val : Nat) : Int) 8 = ((n.val / 8 % 2 * 8 : Nat) : Int) ∧ iand .i64 ((n.val : Nat) : Int) 240 = ((n.val / 16 * 16 : Nat) : Int) ∧
    iand .i64 ((n.val : Nat) : Int) 24 = ((n.val / 8 % 4 * 8 : Nat) : Int) ∧ ishr .i64 ((n.val : Nat) : Int) 5 = ((n.val / 32 : Nat) : Int) ∧ ishr .i64 ((n.val : Nat) : Int) 4 = ((n.val / 16 : Nat) : Int) ∧ ishr .i64 ((n.val : Nat) : Int) 8 = 0 ∧
    ishr .i64 ((n.val / 16 * 16 : Nat) : Int) 4 = ((n.val / 16 : Nat) : Int) := by decide +kernel
/-! ## Digits -/
theorem len_one (x : Int) : (bytesAt ([x] : List Int) 0 1).length = 1 := by simp [bytesAt]
theorem W40_run : ∀ (k : Nat) (u : Nat) (s : List UInt8), u < 10 ^ k → u < 18446744073709551616 → s.length + k ≤ 1000 → ∃ t, wh V40_0 ((u : Int), s, ()) = some (t, ()) ∧ t.length ≤ s.length + k ∧ s.length ≤ t.length
  | 0, u, s, h, hu, hs => by
    have : u = 0 := by simpa using h
    subst this
    refine ⟨s, wh_stop ?_, by omega, by omega⟩
    unfold V40_0 R40_0
    rfl
  | k + 1, u, s, h, hu, hs => by
    by_cases h0 : u = 0
    · subst h0
      refine ⟨s, wh_stop ?_, by omega, by omega⟩
      unfold V40_0 R40_0
      rfl
    · have hd : IntKind.wrap .u64 (Int.tdiv (u : Int) 10) = ((u / 10 : Nat) : Int) := by
        rw [show Int.tdiv (u : Int) 10 = ((u / 10 : Nat) : Int) from rfl, wu64 (by omega)]
      have hstep : V40_0 ((u : Int), s, ()) = some (.inl (((u / 10 : Nat) : Int), bytesAt ([(IntKind.wrap .u8 (IntKind.wrap .u64 (48 + (Int.tmod (u : Int) 10))))] : List Int) 0 1 ++ s, ())) := by
        unfold V40_0 R40_0
        dsimp only
        rw [hd, len_one, decide_eq_true (show (u : Int) > 0 by omega), decide_eq_true (show 1 + s.length ≤ 9223372036854775807 by omega)]
        rfl
      have hlen := len_one (IntKind.wrap .u8 (IntKind.wrap .u64 (48 + (Int.tmod (u : Int) 10))))
      have hp : u / 10 < 10 ^ k := by rw [Nat.pow_succ] at h; omega
      obtain ⟨t, h1, h2, h3⟩ := W40_run k (u / 10) (bytesAt ([(IntKind.wrap .u8 (IntKind.wrap .u64 (48 + (Int.tmod (u : Int) 10))))] : List Int) 0 1 ++ s) hp (by omega) (by rw [List.length_append, hlen]; omega)
      rw [List.length_append, hlen] at h2 h3
      exact ⟨t, (wh_next hstep).trans h1, by omega, by omega⟩
/-- a text: told, of some length -/
def Tx (o : Option (List UInt8)) (a b : Nat) : Prop := ∃ t, o = some t ∧ a ≤ t.length ∧ t.length ≤ b
theorem E40_ex {x : Int} (h : 0 ≤ x ∧ x < 18446744073709551616) : Tx (E40 (x, ())) 1 30 := by
  show Tx (S40 W40_0 Q40_0 x) 1 30
  obtain ⟨u, rfl⟩ : ∃ u : Nat, x = (u : Int) := ⟨x.toNat, by omega⟩
  have hd : IntKind.wrap .u64 (Int.tdiv (u : Int) 10) = ((u / 10 : Nat) : Int) := by
    rw [show Int.tdiv (u : Int) 10 = ((u / 10 : Nat) : Int) from rfl, wu64 (by omega)]
  obtain ⟨t, h1, h2, h3⟩ := W40_run 20 (u / 10) (bytesAt ([(IntKind.wrap .u8 (IntKind.wrap .u64 (48 + (Int.tmod (u : Int) 10))))] : List Int) 0 1) (by omega) (by omega) (by rw [len_one]; omega)
  rw [len_one] at h2 h3
  unfold S40
  rw [hd]
  have e1 : W40_0 (((u / 10 : Nat) : Int), bytesAt ([(IntKind.wrap .u8 (IntKind.wrap .u64 (48 + (Int.tmod (u : Int) 10))))] : List Int) 0 1, ()) = (t, ()) := whV_of (hd := hd40_0) (ys := ys40_0) h1
  have e2 : Q40_0 (((u / 10 : Nat) : Int), bytesAt ([(IntKind.wrap .u8 (IntKind.wrap .u64 (48 + (Int.tmod (u : Int) 10))))] : List Int) 0 1, ()) = true := whK_of (hd := hd40_0) (ys := ys40_0) h1
  rw [e1, e2]
  exact ⟨t, rfl, by omega, by omega⟩
theorem F40_ex {x : Int} (h : 0 ≤ x ∧ x < 18446744073709551616) : ∃ t, F40 (x, ()) = t ∧ G40 (x, ()) = true ∧ 1 ≤ t.length ∧ t.length ≤ 30 := by
  obtain ⟨t, h1, h2, h3⟩ := E40_ex h
  have g : F40 (x, ()) = t ∧ G40 (x, ()) = true := ofE h1
  exact ⟨t, g.1, g.2, h2, h3⟩
theorem wu (a : Int) : 0 ≤ IntKind.wrap .u64 a ∧ IntKind.wrap .u64 a < 18446744073709551616 := inR_wrap a
theorem E42_ex (x : Int) : Tx (E42 (x, ())) 1 40 := by
  show Tx (S42 F40 G40 x) 1 40
  unfold S42
  obtain ⟨t, a1, a2, a3, a4⟩ := F40_ex (wu (0 - IntKind.wrap .u64 x))
  obtain ⟨s, b1, b2, b3, b4⟩ := F40_ex (wu x)
  rw [a1, a2, b1, b2, decide_eq_true (show 1 + t.length ≤ 9223372036854775807 by omega), decide_eq_true (show 0 + s.length ≤ 9223372036854775807 by omega)]
  cases decide (x < 0)
  · exact ⟨s, rfl, by omega, by omega⟩
  · exact ⟨[45] ++ t, rfl, by simp, by simp; omega⟩
theorem F42_ex (x : Int) : ∃ t, F42 (x, ()) = t ∧ G42 (x, ()) = true ∧ 1 ≤ t.length ∧ t.length ≤ 40 := by
  obtain ⟨t, h1, h2, h3⟩ := E42_ex x
  have g : F42 (x, ()) = t ∧ G42 (x, ()) = true := ofE h1
  exact ⟨t, g.1, g.2, h2, h3⟩
def isReg (n : Int) : Bool := decide (0 ≤ n) && decide (n ≤ 10)
theorem F38_ex {s : List UInt8} (hs : 1 ≤ s.length) (hs2 : s.length ≤ 10) (n : Int) : ∃ t, F38 (s, n, ()) = t ∧ G38 (s, n, ()) = true ∧ t.length ≤ 50 ∧ (t == []) = !isReg n := by
  have : ∃ t, E38 (s, n, ()) = some t ∧ t.length ≤ 50 ∧ (t == []) = !isReg n := by
    show ∃ t, S38 F42 G42 s n = some t ∧ _
    unfold S38 isReg
    obtain ⟨t, a1, a2, a3, a4⟩ := F42_ex n
    rw [a1, a2, decide_eq_true (show s.length + t.length ≤ 9223372036854775807 by omega)]
    by_cases h1 : n < 0
    · rw [decide_eq_true h1, decide_eq_false (show ¬ 0 ≤ n by omega)]; exact ⟨[], rfl, by simp, rfl⟩
    · rw [decide_eq_false h1, decide_eq_true (show 0 ≤ n by omega)]
      by_cases h2 : n > 10
      · rw [decide_eq_true h2, decide_eq_false (show ¬ n ≤ 10 by omega)]; exact ⟨[], rfl, by simp, rfl⟩
      · rw [decide_eq_false h2, decide_eq_true (show n ≤ 10 by omega)]
        refine ⟨s ++ t, rfl, by simp; omega, ?_⟩
        cases s with
        | nil => simp at hs
        | cons a s => rfl
  obtain ⟨t, h1, h2, h3⟩ := this
  have g : F38 (s, n, ()) = t ∧ G38 (s, n, ()) = true := ofE h1
  exact ⟨t, g.1, g.2, h2, h3⟩
def is32 (n : Int) : Bool := decide (-2147483648 ≤ n) && decide (n ≤ 2147483647)
def is16 (n : Int) : Bool := decide (-32768 ≤ n) && decide (n ≤ 32767)
theorem F39_e (n : Int) : F39 (n, ()) = is32 n ∧ G39 (n, ()) = true := by
  have : E39 (n, ()) = some (is32 n) := by
    show S39 n = _
    unfold S39 is32
    by_cases h : n ≥ -2147483648
    · rw [decide_eq_true h]; rfl
    · rw [decide_eq_false h]; rfl
  exact ofE this
theorem F47_e (n : Int) : F47 (n, ()) = is16 n ∧ G47 (n, ()) = true := by
  have : E47 (n, ()) = some (is16 n) := by
    show S47 n = _
    unfold S47 is16
    by_cases h : n ≥ -32768
    · rw [decide_eq_true h]; rfl
    · rw [decide_eq_false h]; rfl
  exact ofE this
theorem F50_ex (x : Int) : ∃ t, F50 (x, ()) = t ∧ G50 (x, ()) = true ∧ 1 ≤ t.length ∧ t.length ≤ 50 := by
  have : Tx (E50 (x, ())) 1 50 := by
    show Tx (S50 F42 G42 x) 1 50
    unfold S50
    obtain ⟨t, a1, a2, a3, a4⟩ := F42_ex x
    rw [a1, a2, decide_eq_true (show 1 + t.length ≤ 9223372036854775807 by omega)]
    cases decide (x < 0)
    · exact ⟨[43] ++ t, rfl, by simp, by simp; omega⟩
    · exact ⟨t, rfl, by omega, by omega⟩
  obtain ⟨t, h1, h2, h3⟩ := this
  have g : F50 (x, ()) = t ∧ G50 (x, ()) = true := ofE h1
  exact ⟨t, g.1, g.2, h2, h3⟩
end Go.Proofs
