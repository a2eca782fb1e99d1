import Derived.Test.YtfhpihomdnbgpaaNK
namespace Go.Proofs
open Go.GX
set_option linter.unusedVariables false
set_option linter.unusedSimpArgs false
def whl (p k : Nat) : Bool := decide (k = 8) && decide (p % 8 = 0)
def kn (x : Sl) : Int := bif decide (x.1 = 2) then (bif decide (x.2.2.1.1 = 1) then 255 else 0) else bif decide (x.1 = 1) then x.2.1 else 0
def putB (l : List Sl) (j : Nat) : List Sl := lset dS l (j / 8) (1, (ior .i64 (kn (l.getD (j / 8) dS)) (ishl .i64 1 ((j % 8 : Nat) : Int)), (dR, ())))
def putN (l : List Sl) : Nat → Nat → List Sl
 | _, 0 => l
 | o, n + 1 => putB (putN l o n) (o + n)
abbrev d0 : KD6 := ([], ([], (0, ([], (0, ())))))
theorem lset_lset {α : Type} (d : α) : ∀ (l : List α) (i : Nat) (a b : α), lset d (lset d l i a) i b = lset d l i b
 | [], 0, a, b => rfl
 | [], i + 1, a, b => by simp only [lset]; rw [lset_lset d [] i a b]
 | x :: xs, 0, a, b => rfl
 | x :: xs, i + 1, a, b => by simp only [lset]; rw [lset_lset d xs i a b]
theorem lset_get {α : Type} (d : α) (l : List α) (i : Nat) (v : α) : (lset d l i v).getD i d = v := by rw [lset_getD, if_pos rfl]
abbrev S1 (s : KD6) (l : List Sl) : KD6 := (s.1, (l, s.2.2))
abbrev A11 (p n i : Nat) (s : KD6) : XD hd45_0 := ((p : Int), (n : Int), (), (), (), ((p + i : Nat) : Int), S1 s (putN s.2.1 p i), d0, 0, ())
theorem V45_run {p n : Nat} {s : KD6} (h : p + n ≤ 512) : ∀ (k i : Nat), i + k = n → wh V45_0 (A11 p n i s) = some ((), (), (), S1 s (putN s.2.1 p n), d0, 0, ())
 | 0, i, hi => by
  have : i = n := by omega
  subst this
  refine wh_stop ?_
  show R45_0 _ _ _ _ _ _ _ _ _ _ _ (p : Int) (i : Int) () () () ((p + i : Nat) : Int) (S1 s (putN s.2.1 p i)) d0 0 = _
  unfold R45_0
  rw [show IntKind.wrap .i64 ((p : Int) + (i : Int)) = ((p + i : Nat) : Int) by rw [wi64 (by omega)]; omega, decide_eq_false (Int.lt_irrefl _)]
  rfl
 | k + 1, i, hi => by
  refine (wh_next ?_).trans (V45_run h k (i + 1) (by omega))
  show R45_0 _ _ _ _ _ _ _ _ _ _ _ (p : Int) (n : Int) () () () ((p + i : Nat) : Int) (S1 s (putN s.2.1 p i)) d0 0 = some (.inl ((p : Int), (n : Int), (), (), (), ((p + (i + 1) : Nat) : Int), S1 s (putB (putN s.2.1 p i) (p + i)), d0, 0, ()))
  unfold R45_0
  rw [show IntKind.wrap .i64 ((p : Int) + (n : Int)) = ((p + n : Nat) : Int) by rw [wi64 (by omega)]; omega, show IntKind.wrap .i64 (((p + i : Nat) : Int) + 1) = ((p + (i + 1) : Nat) : Int) by rw [wi64 (by omega)]; omega,
   div8 (show p + i ≤ 1024 by omega), low8, Int.toNat_natCast, decide_eq_true (show ((p + i : Nat) : Int) < ((p + n : Nat) : Int) by omega), decide_eq_true (show (p + i) / 8 < 64 by omega), decide_eq_true (show (0 : Int) ≤ (((p + i) / 8 : Nat) : Int) by omega), decide_eq_true (show (((p + i) / 8 : Nat) : Int) < 64 by omega), decide_eq_true (show (0 : Int) ≤ (((p + i) % 8 : Nat) : Int) by omega)]
  unfold putB
  simp only [lset_lset, lset_get]
  generalize putN s.2.1 p i = l
  generalize hx : l.getD ((p + i) / 8) dS = x
  unfold kn
  by_cases h2 : x.1 = 2
  ·rw [decide_eq_true h2, decide_eq_false (show ¬ x.1 = 1 by omega)]
   cases decide (x.2.2.1.1 = 1) <;> rfl
  ·rw [decide_eq_false h2]
   cases decide (x.1 = 1) <;> rfl
def wst (s : KD6) (p k : Nat) (r : Rg) : KD6 × (Int × Unit) :=
 bif decide (r.1 = 0) then (d0, 60, ()) else bif whl p k then (S1 s (lset dS s.2.1 (p / 8) (2, (0, (r, ())))), 0, ()) else bif decide (r.1 = 1) then (S1 s (putN s.2.1 p k), 0, ()) else (d0, 63, ())
theorem F18_e {s : KD6} (hl : s.2.2.2.1.length ≤ 1048576) : F18 (s, ()) = s ∧ G18 (s, ()) = true := by
 refine ofE ?_
 show S18 F38 G38 s = _
 unfold S18
 have h : G38 (s.2.2.2.1, ()) = true := decide_eq_true (show s.2.2.2.1.length * 8 ≤ 140737488355328 by omega)
 rw [h]
 rfl
theorem E45_eq {s : KD6} {p k : Nat} {r : Rg} (hl : s.2.2.2.1.length ≤ 1048576) (h : p + k ≤ 512) (hk : k = 1 ∨ k = 2 ∨ k = 4 ∨ k = 8) : E45 (s, (p : Int), (k : Int), r, ()) = some (wst s p k r) := by
 have hrun := V45_run (p := p) (n := k) (s := s) h k 0 (by omega)
 have ew : W45_0 ((p : Int), (k : Int), (), (), (), (p : Int), s, d0, 0, ()) = ((), (), (), S1 s (putN s.2.1 p k), d0, 0, ()) := whV_of hrun
 have eq : Q45_0 ((p : Int), (k : Int), (), (), (), (p : Int), s, d0, 0, ()) = true := whK_of hrun
 show S45 F18 G18 F58 G58 F59 G59 V57 K57 Q57_0 W45_0 Q45_0 s (p : Int) (k : Int) r = _
 unfold S45
 rw [(F58_e _ _).1, (F58_e _ _).2, (F59_e p k).1, (F59_e p k).2, szd_of h hk, (F18_e hl).1, (F18_e hl).2, ew, eq, div8 (by omega), Int.toNat_natCast, decide_eq_true (show p / 8 < 64 by omega), decide_eq_true (show (0 : Int) ≤ ((p / 8 : Nat) : Int) by omega), decide_eq_true (show ((p / 8 : Nat) : Int) < 64 by omega)]
 simp only [Q57_eq, K57_eq]
 unfold wst whl
 cases decide (r.1 = 0)
 ·cases decide (k = 8) && decide (p % 8 = 0)
  ·cases decide (r.1 = 1) <;> rfl
  ·rfl
 ·rfl
end Go.Proofs
