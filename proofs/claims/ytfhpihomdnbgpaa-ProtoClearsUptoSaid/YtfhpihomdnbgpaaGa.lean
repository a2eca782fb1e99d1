import Derived.Calls
import Derived.Laws.Cells
import Derived.Laws.CopyRow
import Derived.Below
import Derived.KernelRfl
import Derived.Laws.Strings
import Derived.MapKept
import Derived.Laws.CopyOwn
/-! An executor for translated code over abstract states, and its soundness. -/
namespace Go.GX
set_option linter.unusedSimpArgs false
set_option linter.unusedVariables false
open Go.RowKit (Below)
inductive Tr (α : Type) where
 | lf
 | nd (l : Tr α) (v : Option α) (r : Tr α)
namespace Tr
def get {α : Type} : Tr α → Nat → Option α
 | .lf, _ => none
 | .nd l v r, n => bif Nat.beq n 0 then v else bif Nat.beq (Nat.mod n 2) 1 then l.get (Nat.div n 2) else r.get (Nat.sub (Nat.div n 2) 1)
def put {α : Type} : Nat → Tr α → Nat → α → Tr α
 | 0, _, _, _ => .lf
 | f + 1, t, n, x =>
  match t with
  | .lf => bif Nat.beq n 0 then .nd .lf (some x) .lf else bif Nat.beq (Nat.mod n 2) 1 then .nd (put f .lf (Nat.div n 2) x) none .lf else .nd .lf none (put f .lf (Nat.sub (Nat.div n 2) 1) x)
  | .nd l v r => bif Nat.beq n 0 then .nd l (some x) r else bif Nat.beq (Nat.mod n 2) 1 then .nd (put f l (Nat.div n 2) x) v r else .nd l v (put f r (Nat.sub (Nat.div n 2) 1) x)
def set {α : Type} (t : Tr α) (n : Nat) (x : α) : Tr α := put 40 t n x
theorem beq_pos {n : Nat} (h : 0 < n) : Nat.beq n 0 = false := by
 cases n with
 | zero => omega
 | succ n => rfl
theorem beq_odd {n : Nat} (h : n % 2 = 1) : Nat.beq (Nat.mod n 2) 1 = true := by
 show Nat.beq (n % 2) 1 = true
 rw [h]; rfl
theorem beq_even {n : Nat} (h : ¬ n % 2 = 1) : Nat.beq (Nat.mod n 2) 1 = false := by
 rw [Bool.eq_false_iff]; intro hh; exact h (Nat.eq_of_beq_eq_true hh)
theorem get_put {α : Type} : ∀ (f : Nat) (t : Tr α) (n : Nat) (x : α) (m : Nat) (y : α), (put f t n x).get m = some y → (m = n ∧ y = x) ∨ (m ≠ n ∧ t.get m = some y)
 | 0, _, _, _, _, _, h => by simp [put, get] at h
 | f + 1, .lf, n, x, m, y, h => by
  simp only [put] at h
  rcases Nat.eq_zero_or_pos n with hn | hn
  ·subst hn
   simp only [Nat.beq, cond_true, get] at h
   rcases Nat.eq_zero_or_pos m with hm | hm
   ·subst hm; simp at h; exact .inl ⟨rfl, h.symm⟩
   ·rw [beq_pos hm] at h
    simp [get] at h
  ·rw [beq_pos hn] at h
   simp only [cond_false] at h
   by_cases ho : n % 2 = 1
   ·rw [beq_odd ho] at h
    simp only [cond_true, get] at h
    rcases Nat.eq_zero_or_pos m with hm | hm
    ·subst hm; simp at h
    ·rw [beq_pos hm] at h
     simp only [cond_false] at h
     by_cases hm2 : m % 2 = 1
     ·rw [beq_odd hm2] at h
      simp only [cond_true] at h
      rcases get_put f .lf _ x _ y h with ⟨h1, h2⟩ | ⟨_, h2⟩
      ·refine .inl ⟨?_, h2⟩
       have : m / 2 = n / 2 := h1
       omega
      ·simp [get] at h2
     ·rw [beq_even hm2] at h
      simp [get] at h
   ·rw [beq_even ho] at h
    simp only [cond_false, get] at h
    rcases Nat.eq_zero_or_pos m with hm | hm
    ·subst hm; simp at h
    ·rw [beq_pos hm] at h
     simp only [cond_false] at h
     by_cases hm2 : m % 2 = 1
     ·rw [beq_odd hm2] at h
      simp [get] at h
     ·rw [beq_even hm2] at h
      simp only [cond_false] at h
      rcases get_put f .lf _ x _ y h with ⟨h1, h2⟩ | ⟨_, h2⟩
      ·refine .inl ⟨?_, h2⟩
       have : m / 2 - 1 = n / 2 - 1 := h1
       omega
      ·simp [get] at h2
 | f + 1, .nd l v r, n, x, m, y, h => by
  simp only [put] at h
  rcases Nat.eq_zero_or_pos n with hn | hn
  ·subst hn
   simp only [Nat.beq, cond_true] at h
   rcases Nat.eq_zero_or_pos m with hm | hm
   ·subst hm; simp [get] at h; exact .inl ⟨rfl, h.symm⟩
   ·have hb : Nat.beq m 0 = false := beq_pos hm
    refine .inr ⟨by omega, ?_⟩
    simp only [get, hb, cond_false] at h ⊢
    exact h
  ·rw [beq_pos hn] at h
   simp only [cond_false] at h
   by_cases ho : n % 2 = 1
   ·rw [beq_odd ho] at h
    simp only [cond_true] at h
    rcases Nat.eq_zero_or_pos m with hm | hm
    ·subst hm; exact .inr ⟨by omega, by simpa [get] using h⟩
    ·have hb : Nat.beq m 0 = false := beq_pos hm
     simp only [get, hb, cond_false] at h ⊢
     by_cases hm2 : m % 2 = 1
     ·rw [beq_odd hm2] at h ⊢
      simp only [cond_true] at h ⊢
      rcases get_put f l _ x _ y h with ⟨h1, h2⟩ | ⟨h1, h2⟩
      ·refine .inl ⟨?_, h2⟩
       have : m / 2 = n / 2 := h1
       omega
      ·exact .inr ⟨fun e => h1 (by rw [e]), h2⟩
     ·rw [beq_even hm2] at h ⊢
      exact .inr ⟨fun e => hm2 (e ▸ ho), h⟩
   ·rw [beq_even ho] at h
    simp only [cond_false] at h
    rcases Nat.eq_zero_or_pos m with hm | hm
    ·subst hm; exact .inr ⟨by omega, by simpa [get] using h⟩
    ·have hb : Nat.beq m 0 = false := beq_pos hm
     simp only [get, hb, cond_false] at h ⊢
     by_cases hm2 : m % 2 = 1
     ·rw [beq_odd hm2] at h ⊢
      exact .inr ⟨fun e => ho (e ▸ hm2), h⟩
     ·rw [beq_even hm2] at h ⊢
      simp only [cond_false] at h ⊢
      rcases get_put f r _ x _ y h with ⟨h1, h2⟩ | ⟨h1, h2⟩
      ·refine .inl ⟨?_, h2⟩
       have : m / 2 - 1 = n / 2 - 1 := h1
       omega
      ·exact .inr ⟨fun e => h1 (by rw [e]), h2⟩
theorem get_set {α : Type} {t : Tr α} {n : Nat} {x : α} {m : Nat} {y : α} (h : (t.set n x).get m = some y) : (m = n ∧ y = x) ∨ (m ≠ n ∧ t.get m = some y) :=
 get_put 40 t n x m y h
def all {α : Type} (p : Nat → α → Bool) : Tr α → (a b : Nat) → Bool
 | .lf, _, _ => true
 | .nd l v r, a, b => (match v with | some x => p b x | none => true) && (l.all p (2 * a) (a + b) && r.all p (2 * a) (2 * a + b))
theorem all_get {α : Type} {p : Nat → α → Bool} : ∀ {t : Tr α} {a b : Nat}, t.all p a b = true → ∀ {n : Nat} {x : α}, t.get n = some x → p (a * n + b) x = true
 | .lf, _, _, _, _, _, h => by simp [get] at h
 | .nd l v r, a, b, h, n, x, hg => by
  simp only [all, Bool.and_eq_true] at h
  obtain ⟨h1, h2, h3⟩ := h
  simp only [get] at hg
  rcases Nat.eq_zero_or_pos n with hn | hn
  ·subst hn
   simp at hg; subst hg
   simpa using h1
  ·rw [beq_pos hn] at hg
   simp only [cond_false] at hg
   by_cases ho : n % 2 = 1
   ·rw [beq_odd ho] at hg
    have := all_get h2 hg
    rw [show 2 * a * Nat.div n 2 + (a + b) = a * n + b from by
     have e : n = 2 * (n / 2) + 1 := by omega
     have : a * n = a * (2 * (n / 2) + 1) := congrArg (a * ·) e
     rw [Nat.mul_add] at this
     have e2 : 2 * a * (n / 2) = a * (2 * (n / 2)) := by rw [Nat.mul_comm 2 a, Nat.mul_assoc]
     show 2 * a * (n / 2) + (a + b) = _
     omega] at this
    exact this
   ·rw [beq_even ho] at hg
    have := all_get h3 hg
    rw [show 2 * a * Nat.sub (Nat.div n 2) 1 + (2 * a + b) = a * n + b from by
     have e : n = 2 * (n / 2 - 1) + 2 := by omega
     have : a * n = a * (2 * (n / 2 - 1) + 2) := congrArg (a * ·) e
     rw [Nat.mul_add] at this
     have e2 : 2 * a * (n / 2 - 1) = a * (2 * (n / 2 - 1)) := by rw [Nat.mul_comm 2 a, Nat.mul_assoc]
     show 2 * a * (n / 2 - 1) + (2 * a + b) = _
     omega] at this
    exact this
end Tr
inductive Ty where
 | bool | int (k : IntKind) | str | ptr | slice | func | iface | map
 | vsl (e : Ty) | vptr (e : Ty)
 | unit | pair (a b : Ty) | arr (n : Nat) (e : Ty)
 | tnil | tup (a b : Ty)
 deriving DecidableEq
structure PA where
 id : Nat
 path : List Nat
 deriving DecidableEq
structure SL where
 id : Nat
 path : List Nat
 start : Nat
 len : Nat
 cap : Option Nat
inductive Cell0 where
 | bool (b : Bool) | int (k : IntKind) (n : Int) | str (s : List UInt8) | ptr (p : Option PA) | slice (s : Option SL) | map (m : Option Nat)
inductive FV where
 | nil | fn (f : Nat) (first captured : List (Ty × List Cell0))
inductive IV where
 | nil | mk (t : Nat) (c : Ty × List Cell0)
inductive Cell where
 | c0 (c : Cell0) | func (f : FV) | iface (i : IV)
 | vs (n : Nat) (cs : List Cell)
 | vp (cs : List Cell)
@[reducible] def Ty.den : Ty → Type
 | .bool => Bool
 | .int _ => Int
 | .str => List UInt8
 | .ptr => Option PA
 | .slice => Option SL
 | .func => FV
 | .iface => IV
 | .map => Option Nat
 | .vsl e => List e.den
 | .vptr e => e.den
 | .unit => Unit
 | .pair a b => a.den × b.den
 | .arr _ e => List e.den
 | .tnil => Unit
 | .tup a b => a.den × b.den
structure V where
 t : Ty
 x : t.den
def dflt : (t : Ty) → t.den
 | .bool => false
 | .int _ => (0 : Int)
 | .str => ([] : List UInt8)
 | .ptr => (none : Option PA)
 | .slice => (none : Option SL)
 | .func => FV.nil
 | .iface => IV.nil
 | .map => (none : Option Nat)
 | .vsl e => ([] : List e.den)
 | .vptr e => dflt e
 | .unit => ()
 | .pair a b => (dflt a, dflt b)
 | .arr _ e => ([] : List e.den)
 | .tnil => ()
 | .tup a b => (dflt a, dflt b)
def size : Ty → Nat
 | .unit => 0
 | .pair a b => size a + size b
 | .arr n e => n * size e
 | .tnil => 0
 | .tup a b => size a + size b
 | _ => 1
def isAgg : Ty → Bool
 | .unit | .pair _ _ | .arr _ _ => true
 | _ => false
def isTup : Ty → Bool
 | .tnil | .tup _ _ => true
 | _ => false
def flat : (t : Ty) → t.den → List Cell
 | .bool, b => [.c0 (.bool b)]
 | .int k, n => [.c0 (.int k n)]
 | .str, s => [.c0 (.str s)]
 | .ptr, p => [.c0 (.ptr p)]
 | .slice, s => [.c0 (.slice s)]
 | .func, f => [.func f]
 | .iface, i => [.iface i]
 | .map, m => [.c0 (.map m)]
 | .vsl e, l => [.vs l.length ((List.range l.length).flatMap fun i => flat e (l.getD i (dflt e)))]
 | .vptr e, x => [.vp (flat e x)]
 | .unit, _ => []
 | .pair a b, x => flat a x.1 ++ flat b x.2
 | .arr n e, x => (List.range n).flatMap fun i => flat e (x.getD i (dflt e))
 | .tnil, _ => []
 | .tup a b, x => flat a x.1 ++ flat b x.2
theorem length_flatMap_const {α : Type} (g : Nat → List α) (s : Nat) (hs : ∀ i, (g i).length = s) (n : Nat) : ((List.range n).flatMap g).length = n * s := by
 induction n with
 | zero => simp
 | succ n ih => rw [List.range_succ, List.flatMap_append, List.length_append, ih]; simp [hs, Nat.succ_mul]
theorem get_flatMap_const {α : Type} (g : Nat → List α) (s : Nat) (hs : ∀ i, (g i).length = s) (n : Nat) : ∀ i j, i < n → j < s → ((List.range n).flatMap g)[i * s + j]? = (g i)[j]? := by
 induction n with
 | zero => intro i j hi; omega
 | succ n ih =>
  intro i j hi hj
  have hl := length_flatMap_const g s hs n
  rw [List.range_succ, List.flatMap_append]
  by_cases h : i < n
  ·rw [List.getElem?_append_left (by rw [hl]; calc i * s + j < i * s + s := by omega
    _ = (i + 1) * s := by rw [Nat.succ_mul]
    _ ≤ n * s := Nat.mul_le_mul_right _ h)]
   exact ih i j h hj
  ·obtain rfl : i = n := by omega
   rw [List.getElem?_append_right (by rw [hl]; omega), hl]
   simp
theorem length_flat : ∀ (t : Ty) (x : t.den), (flat t x).length = size t
 | .bool, _ | .int _, _ | .str, _ | .ptr, _ | .slice, _ | .func, _ | .iface, _ | .map, _ | .vsl _, _ | .vptr _, _ | .unit, _ | .tnil, _ => rfl
 | .pair a b, x => by simp [flat, size, length_flat a, length_flat b]
 | .tup a b, x => by simp [flat, size, length_flat a, length_flat b]
 | .arr n e, x => by rw [flat, size]; exact length_flatMap_const _ _ (fun i => length_flat e _) n
def nav : (t : Ty) → t.den → List Nat → Option V
 | t, x, [] => some ⟨t, x⟩
 | t, x, i :: r => match t, x with
  | .pair a b, x => (match i with
   | 0 => nav a x.1 r
   | j + 1 => nav b x.2 (j :: r))
  | .arr _ e, x => nav e (x.getD i (dflt e)) r
  | _, _ => none
def offs : Ty → List Nat → Option Nat
 | _, [] => some 0
 | t, i :: r => match t with
  | .pair a b => (match i with
   | 0 => offs a r
   | j + 1 => (offs b (j :: r)).map (size a + ·))
  | .arr _ e => (offs e r).map (i * size e + ·)
  | _ => none
def inb : Ty → List Nat → Bool
 | _, [] => true
 | t, i :: r => match t with
  | .pair a b => (match i with
   | 0 => inb a r
   | j + 1 => inb b (j :: r))
  | .arr n e => decide (i < n) && inb e r
  | _ => false
def lset {α : Type} (d : α) : List α → Nat → α → List α
 | [], 0, v => [v]
 | [], i + 1, v => d :: lset d [] i v
 | _ :: xs, 0, v => v :: xs
 | x :: xs, i + 1, v => x :: lset d xs i v
theorem lset_getD {α : Type} (d : α) : ∀ (l : List α) (i : Nat) (v : α) (j : Nat), (lset d l i v).getD j d = if j = i then v else l.getD j d
 | [], 0, v, j => by cases j <;> simp [lset]
 | [], i + 1, v, 0 => by simp [lset]
 | [], i + 1, v, j + 1 => by
  have := lset_getD d [] i v j
  simp only [lset, List.getD_cons_succ, this]
  simp
 | x :: xs, 0, v, j => by cases j <;> simp [lset]
 | x :: xs, i + 1, v, 0 => by simp [lset]
 | x :: xs, i + 1, v, j + 1 => by
  have := lset_getD d xs i v j
  simp only [lset, List.getD_cons_succ, this]
  simp
def upd : (t : Ty) → t.den → List Nat → V → Option t.den
 | t, _, [], v => if h : v.t = t then some (h ▸ v.x) else none
 | t, x, i :: r, v => match t, x with
  | .pair a b, x => (match i with
   | 0 => (upd a x.1 r v).map fun y => ((y, x.2) : a.den × b.den)
   | j + 1 => (upd b x.2 (j :: r) v).map fun y => ((x.1, y) : a.den × b.den))
  | .arr _ e, x => (upd e (x.getD i (dflt e)) r v).map fun y => lset (dflt e) x i y
  | _, _ => none
theorem nav_spec : ∀ (t : Ty) (x : t.den) (p : List Nat) (v : V), nav t x p = some v → inb t p = true →
 ∃ o, offs t p = some o ∧ o + size v.t ≤ size t ∧ ∀ i, i < size v.t → (flat t x)[o + i]? = (flat v.t v.x)[i]?
 | t, x, [], v, h, _ => by
  have h' : some (V.mk t x) = some v := by cases t <;> simpa [nav] using h
  cases h'
  exact ⟨0, by cases t <;> rfl, by simp, by simp⟩
 | .pair a b, x, 0 :: r, v, h, hb => by
  obtain ⟨o, ho, hs, hg⟩ := nav_spec a x.1 r v (by simpa [nav] using h) (by simpa [inb] using hb)
  refine ⟨o, by simpa [offs] using ho, by simp [size]; omega, fun i hi => ?_⟩
  rw [flat, List.getElem?_append_left (by rw [length_flat]; omega)]
  exact hg i hi
 | .pair a b, x, (j + 1) :: r, v, h, hb => by
  obtain ⟨o, ho, hs, hg⟩ := nav_spec b x.2 (j :: r) v (by simpa [nav] using h) (by simpa [inb] using hb)
  refine ⟨size a + o, by simp [offs, ho], by simp [size]; omega, fun i hi => ?_⟩
  rw [flat, List.getElem?_append_right (by rw [length_flat]; omega), length_flat]
  rw [show size a + o + i - size a = o + i from by omega]
  exact hg i hi
 | .arr n e, x, i :: r, v, h, hb => by
  simp only [inb, Bool.and_eq_true, decide_eq_true_eq] at hb
  obtain ⟨o, ho, hs, hg⟩ := nav_spec e (x.getD i (dflt e)) r v (by simpa [nav] using h) hb.2
  have hle : (i + 1) * size e ≤ n * size e := Nat.mul_le_mul_right _ hb.1
  rw [Nat.succ_mul] at hle
  refine ⟨i * size e + o, by simp [offs, ho], by simp [size]; omega, fun k hk => ?_⟩
  rw [flat, Nat.add_assoc, get_flatMap_const _ (size e) (fun i => length_flat e _) n i (o + k) hb.1 (by omega)]
  exact hg k hk
 | .bool, _, _ :: _, _, h, _ | .int _, _, _ :: _, _, h, _ | .str, _, _ :: _, _, h, _ | .ptr, _, _ :: _, _, h, _ | .slice, _, _ :: _, _, h, _
 | .func, _, _ :: _, _, h, _ | .iface, _, _ :: _, _, h, _ | .map, _, _ :: _, _, h, _ | .vsl _, _, _ :: _, _, h, _ | .vptr _, _, _ :: _, _, h, _ | .unit, _, _ :: _, _, h, _ | .tnil, _, _ :: _, _, h, _ | .tup _ _, _, _ :: _, _, h, _ => by simp [nav] at h
theorem upd_spec : ∀ (t : Ty) (x : t.den) (p : List Nat) (v : V) (x' : t.den), upd t x p v = some x' → inb t p = true →
 ∃ o, offs t p = some o ∧ o + size v.t ≤ size t ∧ ∀ k, (flat t x')[k]? = if o ≤ k ∧ k < o + size v.t then (flat v.t v.x)[k - o]? else (flat t x)[k]?
 | t, x, [], v, x', h, _ => by
  have h' : (if h : v.t = t then some (h ▸ v.x) else none) = some x' := by cases t <;> simpa [upd] using h
  by_cases e : v.t = t
  ·subst e
   simp at h'
   subst h'
   refine ⟨0, by cases v.t <;> rfl, by simp, fun k => ?_⟩
   by_cases hk : k < size v.t
   ·simp [hk]
   ·rw [if_neg (by omega)]
    rw [List.getElem?_eq_none (by rw [length_flat]; omega), List.getElem?_eq_none (by rw [length_flat]; omega)]
  ·simp [e] at h'
 | .pair a b, x, 0 :: r, v, x', h, hb => by
  simp only [upd, Option.map_eq_some_iff] at h
  obtain ⟨y, hy, rfl⟩ := h
  obtain ⟨o, ho, hs, hg⟩ := upd_spec a x.1 r v y hy (by simpa [inb] using hb)
  refine ⟨o, by simpa [offs] using ho, by simp [size]; omega, fun k => ?_⟩
  rw [flat, flat]
  by_cases hk : k < size a
  ·rw [List.getElem?_append_left (by rw [length_flat]; omega), List.getElem?_append_left (by rw [length_flat]; omega)]
   exact hg k
  ·rw [List.getElem?_append_right (by rw [length_flat]; omega), List.getElem?_append_right (by rw [length_flat]; omega), if_neg (by omega)]
   simp [length_flat]
 | .pair a b, x, (j + 1) :: r, v, x', h, hb => by
  simp only [upd, Option.map_eq_some_iff] at h
  obtain ⟨y, hy, rfl⟩ := h
  obtain ⟨o, ho, hs, hg⟩ := upd_spec b x.2 (j :: r) v y hy (by simpa [inb] using hb)
  refine ⟨size a + o, by simp [offs, ho], by simp [size]; omega, fun k => ?_⟩
  rw [flat, flat]
  by_cases hk : k < size a
  ·rw [List.getElem?_append_left (by rw [length_flat]; omega), List.getElem?_append_left (by rw [length_flat]; omega), if_neg (by omega)]
  ·rw [List.getElem?_append_right (by rw [length_flat]; omega), List.getElem?_append_right (by rw [length_flat]; omega), length_flat]
   refine (hg _).trans ?_
   by_cases hr : o ≤ k - size a ∧ k - size a < o + size v.t
   ·rw [if_pos hr, if_pos (by omega)]; congr 1; omega
   ·rw [if_neg hr, if_neg (by omega)]
 | .arr n e, x, i :: r, v, x', h, hb => by
  simp only [inb, Bool.and_eq_true, decide_eq_true_eq] at hb
  simp only [upd, Option.map_eq_some_iff] at h
  obtain ⟨y, hy, rfl⟩ := h
  obtain ⟨o, ho, hs, hg⟩ := upd_spec e _ r v y hy hb.2
  have hle : (i + 1) * size e ≤ n * size e := Nat.mul_le_mul_right _ hb.1
  rw [Nat.succ_mul] at hle
  refine ⟨i * size e + o, by simp [offs, ho], by simp [size]; omega, fun k => ?_⟩
  by_cases hk : k < n * size e
  ·have hpos : 0 < size e := by
    rcases Nat.eq_zero_or_pos (size e) with h0 | h0
    ·rw [h0] at hk; omega
    ·exact h0
   have hq : k / size e < n := Nat.div_lt_of_lt_mul (by rw [Nat.mul_comm]; exact hk)
   have hr : k % size e < size e := Nat.mod_lt _ hpos
   have hkk : k = k / size e * size e + k % size e := by rw [Nat.mul_comm]; exact (Nat.div_add_mod k (size e)).symm
   rw [flat, flat, hkk, get_flatMap_const _ (size e) (fun i => length_flat e _) n _ _ hq hr, get_flatMap_const _ (size e) (fun i => length_flat e _) n _ _ hq hr, ← hkk]
   rw [lset_getD]
   by_cases he : k / size e = i
   ·rw [if_pos he, hg]
    have hki : k = i * size e + k % size e := by rw [← he]; exact hkk
    by_cases hc : o ≤ k % size e ∧ k % size e < o + size v.t
    ·rw [if_pos hc, if_pos (by omega)]; congr 1; omega
    ·rw [if_neg hc, if_neg (by omega), he]
   ·rw [if_neg he, if_neg]
    intro ⟨h1, h2⟩
    apply he
    have h3 : i * size e ≤ k := by omega
    have h4 : k < (i + 1) * size e := by rw [Nat.succ_mul]; omega
    exact Nat.le_antisymm (Nat.lt_succ_iff.1 (Nat.div_lt_of_lt_mul (by rw [Nat.mul_comm]; exact h4))) ((Nat.le_div_iff_mul_le hpos).2 h3)
  ·rw [if_neg (by omega), List.getElem?_eq_none (by rw [length_flat, size]; omega), List.getElem?_eq_none (by rw [length_flat, size]; omega)]
 | .bool, _, _ :: _, _, _, h, _ | .int _, _, _ :: _, _, _, h, _ | .str, _, _ :: _, _, _, h, _ | .ptr, _, _ :: _, _, _, h, _ | .slice, _, _ :: _, _, _, h, _
 | .func, _, _ :: _, _, _, h, _ | .iface, _, _ :: _, _, _, h, _ | .map, _, _ :: _, _, _, h, _ | .vsl _, _, _ :: _, _, _, h, _ | .vptr _, _, _ :: _, _, _, h, _ | .unit, _, _ :: _, _, _, h, _ | .tnil, _, _ :: _, _, _, h, _ | .tup _ _, _, _ :: _, _, _, h, _ => by simp [upd] at h
end Go.GX

namespace Go.GX
set_option linter.unusedSimpArgs false
set_option linter.unusedVariables false
open Go.RowKit (Below)
structure Phys where
 blk : Nat
 off : Nat
 t : Ty
 cap : Nat
structure Phi where
 ad : Nat → Option Phys
 imm : Nat → Option Obj
 lo : Nat
instance : CoeFun Phi (fun _ => Nat → Option Phys) := ⟨Phi.ad⟩
structure Phi.sub (φ ψ : Phi) : Prop where
 ad : ∀ i p, φ i = some p → ψ i = some p
 imm : ∀ k o, φ.imm k = some o → ψ.imm k = some o
structure Phi.le (φ ψ : Phi) : Prop extends Phi.sub φ ψ where
 new : ∀ k o, ψ.imm k = some o → φ.imm k = some o ∨ φ.lo ≤ k
 lo : ψ.lo = φ.lo
instance {φ ψ : Phi} : Coe (φ.le ψ) (φ.sub ψ) := ⟨fun h => h.1⟩
theorem Phi.le_refl (φ : Phi) : φ.le φ := ⟨⟨fun _ _ h => h, fun _ _ h => h⟩, fun _ _ h => .inl h, rfl⟩
theorem Phi.le_trans {a b c : Phi} (h : a.le b) (k : b.le c) : a.le c := ⟨⟨fun i p hp => k.ad i p (h.ad i p hp), fun i o ho => k.imm i o (h.imm i o ho)⟩,
 fun i o ho => (k.new i o ho).elim (h.new i o) (fun e => .inr (by rw [← h.lo]; exact e)), k.lo.trans h.lo⟩
structure Phi.leK (kp : Nat) (φ ψ : Phi) : Prop where
 ad : ∀ i p, i < kp → φ i = some p → ψ i = some p
 imm : ∀ k o, φ.imm k = some o → ψ.imm k = some o
 new : ∀ k o, ψ.imm k = some o → φ.imm k = some o ∨ φ.lo ≤ k
 lo : ψ.lo = φ.lo
theorem Phi.le.toK {kp : Nat} {φ ψ : Phi} (h : φ.le ψ) : Phi.leK kp φ ψ := ⟨fun i p _ => h.ad i p, h.imm, h.new, h.lo⟩
theorem Phi.leK_refl {kp : Nat} (φ : Phi) : Phi.leK kp φ φ := (Phi.le_refl φ).toK
theorem Phi.leK_trans {kp : Nat} {a b c : Phi} (h : Phi.leK kp a b) (k : Phi.leK kp b c) : Phi.leK kp a c := ⟨fun i p hi hp => k.ad i p hi (h.ad i p hi hp), fun i o ho => k.imm i o (h.imm i o ho),
 fun i o ho => (k.new i o ho).elim (h.new i o) (fun e => .inr (by rw [← h.lo]; exact e)), k.lo.trans h.lo⟩
theorem Phi.leK.toLe {kp : Nat} {φ ψ : Phi} (h : Phi.leK kp φ ψ) (hk : ∀ i p, φ i = some p → i < kp) : φ.le ψ := ⟨⟨fun i p hp => h.ad i p (hk i p hp) hp, h.imm⟩, h.new, h.lo⟩
def addr (φ : Phi) (p : PA) : Option Addr :=
 match φ p.id with
 | some ph => (offs (.arr 0 ph.t) p.path).map fun o => ⟨ph.blk, ph.off + o, none⟩
 | none => none
theorem addr_phys {φ : Phi} {p : PA} {a : Addr} (h : addr φ p = some a) : ∃ ph, φ p.id = some ph := by
 unfold addr at h
 cases hp : φ p.id with
 | none => rw [hp] at h; cases h
 | some ph => exact ⟨ph, rfl⟩
theorem addr_mono {φ ψ : Phi} (h : φ.sub ψ) {p : PA} {a : Addr} (ha : addr φ p = some a) : addr ψ p = some a := by
 unfold addr at ha ⊢
 cases hp : φ p.id with
 | none => rw [hp] at ha; cases ha
 | some ph => rw [hp] at ha; rw [h.ad _ _ hp]; exact ha
def MARK : Nat := 9223372036854775808
def VD (s : SL) : Prop := s.start = MARK ∧ s.len = 0 ∧ s.cap = none
theorem VD.not {s : SL} (h : 0 < s.len) : ¬ VD s := fun e => by have := e.2.1; omega
theorem VD.start {s : SL} (h : Nat.beq s.start MARK = false) : ¬ VD s := fun e => by rw [e.1, Nat.beq_refl] at h; cases h
theorem VD.zero {s : SL} (h : s.start = 0) : ¬ VD s := fun e => by have := e.1; rw [h] at this; cases this
def SR (φ : Phi) (s : SL) (v : Value) : Prop :=
 (s.len = 0 ∧ s.cap = none ∧ v = .slice none 0 0) ∨ ∃ a c, v = .slice (some a) s.len c ∧ s.len ≤ c ∧ (∀ k, s.cap = some k → c = k) ∧ (s.cap = none → 0 < c → ¬ VD s → ∃ ph, φ s.id = some ph ∧ s.path = [] ∧ s.start + c = ph.cap) ∧ (0 < c → ¬ VD s → addr φ ⟨s.id, s.path ++ [s.start]⟩ = some a)
def CR0 (φ : Phi) : Cell0 → Value → Prop
 | .bool b, v => v = .bool b
 | .int k n, v => v = .int k n
 | .str s, v => v = .string ⟨s.toArray⟩
 | .ptr none, v => v = .pointer none
 | .ptr (some p), v => ∃ a, addr φ p = some a ∧ v = .pointer (some a)
 | .slice none, v => v = .slice none 0 0
 | .slice (some s), v => SR φ s v
 | .map none, v => v = .map none
 | .map (some i), v => ∃ ph, φ i = some ph ∧ v = .map (some ph.blk)
def CL0 (φ : Phi) (cs : List Cell0) (vs : List Value) : Prop := vs.length = cs.length ∧ ∀ (i : Nat) c, cs[i]? = some c → ∃ v, vs[i]? = some v ∧ CR0 φ c v
def VC0 (φ : Phi) (p : Ty × List Cell0) (v : Value) : Prop :=
 if isAgg p.1 then ∃ l, v = .agg l ∧ CL0 φ p.2 l.toList else ∃ c, p.2 = [c] ∧ CR0 φ c v
def VL0 (φ : Phi) (cs : List (Ty × List Cell0)) (vs : List Value) : Prop := vs.length = cs.length ∧ ∀ (i : Nat) c, cs[i]? = some c → ∃ v, vs[i]? = some v ∧ VC0 φ c v
mutual
def CR (φ : Phi) : Cell → Value → Prop
 | .c0 c, v => CR0 φ c v
 | .func .nil, v => v = .nilFunc
 | .func (.fn f a b), v => ∃ x y : Array Value, v = .func (.func f) x y ∧ VL0 φ a x.toList ∧ VL0 φ b y.toList
 | .iface .nil, v => v = .nilIface
 | .iface (.mk t c), v => ∃ x, v = .iface t x ∧ VC0 φ c x
 | .vs n cs, v => (n = 0 ∧ v = .slice none 0 0) ∨ ∃ a c, v = .slice (some a) n c ∧ n ≤ c ∧ (n ≠ 0 → a.spot = none ∧ ∃ os el fr, φ.imm a.block = some (.cells os el fr) ∧ CRs φ cs (os.toList.drop a.off))
 | .vp cs, v => ∃ a, v = .pointer (some a) ∧ a.spot = none ∧ ∃ os el fr, φ.imm a.block = some (.cells os el fr) ∧ CRs φ cs (os.toList.drop a.off)
def CRs (φ : Phi) : List Cell → List Value → Prop
 | [], _ => True
 | _ :: _, [] => False
 | c :: cs, v :: vs => CR φ c v ∧ CRs φ cs vs
end
theorem CRs_iff {φ : Phi} : ∀ {cs : List Cell} {vs : List Value}, CRs φ cs vs ↔ ∀ (i : Nat) c, cs[i]? = some c → ∃ v, vs[i]? = some v ∧ CR φ c v
 | [], _ => ⟨fun _ i c h => by simp at h, fun _ => by unfold CRs; trivial⟩
 | c :: cs, [] => ⟨fun h => by unfold CRs at h; exact h.elim, fun h => by obtain ⟨v, hv, _⟩ := h 0 c rfl; simp at hv⟩
 | c :: cs, v :: vs => by
  unfold CRs
  rw [CRs_iff (cs := cs) (vs := vs)]
  refine ⟨fun ⟨h1, h2⟩ i c' hi => ?_, fun h => ⟨?_, fun i c' hi => ?_⟩⟩
  ·cases i with
   | zero => simp at hi; subst hi; exact ⟨v, rfl, h1⟩
   | succ i => simpa using h2 i c' (by simpa using hi)
  ·obtain ⟨v', hv, hr⟩ := h 0 c rfl
   simp at hv; subst hv; exact hr
  ·simpa using h (i + 1) c' (by simpa using hi)
def CL (φ : Phi) (cs : List Cell) (vs : List Value) : Prop := vs.length = cs.length ∧ ∀ (i : Nat) c, cs[i]? = some c → ∃ v, vs[i]? = some v ∧ CR φ c v
def V1 (φ : Phi) (t : Ty) (x : t.den) (v : Value) : Prop :=
 if isAgg t then ∃ l, v = .agg l ∧ CL φ (flat t x) l.toList else ∃ c, flat t x = [c] ∧ CR φ c v
def TR (φ : Phi) : (t : Ty) → t.den → List Value → Prop
 | .tnil, _, l => l = []
 | .tup a b, x, l => ∃ v r, l = v :: r ∧ V1 φ a x.1 v ∧ TR φ b x.2 r
 | _, _, _ => False
def VR (φ : Phi) (v : V) (x : Value) : Prop :=
 if isTup v.t then ∃ l, x = .tuple l ∧ TR φ v.t v.x l.toList else V1 φ v.t v.x x
theorem SR_mono {φ ψ : Phi} (h : φ.sub ψ) {s : SL} {v : Value} : SR φ s v → SR ψ s v := by
 rintro (h | ⟨a, c, rfl, h0, h1, h2, h3⟩)
 ·exact .inl h
 refine .inr ⟨a, c, rfl, h0, h1, fun hn hc hv => ?_, fun hc hv => addr_mono h (h3 hc hv)⟩
 obtain ⟨ph, hp, hq⟩ := h2 hn hc hv
 exact ⟨ph, h.ad _ _ hp, hq⟩
theorem CR0_mono {φ ψ : Phi} (h : φ.sub ψ) : ∀ {c : Cell0} {v : Value}, CR0 φ c v → CR0 ψ c v
 | .bool _, _, hc | .int _ _, _, hc | .str _, _, hc | .ptr none, _, hc | .slice none, _, hc | .map none, _, hc => hc
 | .ptr (some p), _, ⟨a, ha, hv⟩ => ⟨a, addr_mono h ha, hv⟩
 | .slice (some s), _, hs => SR_mono h hs
 | .map (some i), _, ⟨ph, hp, hv⟩ => ⟨ph, h.ad _ _ hp, hv⟩
theorem CL0_mono {φ ψ : Phi} (h : φ.sub ψ) {cs : List Cell0} {vs : List Value} (hc : CL0 φ cs vs) : CL0 ψ cs vs :=
 ⟨hc.1, fun i c hi => let ⟨v, hv, hr⟩ := hc.2 i c hi; ⟨v, hv, CR0_mono h hr⟩⟩
theorem VC0_mono {φ ψ : Phi} (h : φ.sub ψ) {c : Ty × List Cell0} {v : Value} (hc : VC0 φ c v) : VC0 ψ c v := by
 unfold VC0 at hc ⊢
 split
 ·rename_i ha
  rw [if_pos ha] at hc
  obtain ⟨l, hl, hr⟩ := hc
  exact ⟨l, hl, CL0_mono h hr⟩
 ·rename_i ha
  rw [if_neg ha] at hc
  obtain ⟨l, hl, hr⟩ := hc
  exact ⟨l, hl, CR0_mono h hr⟩
theorem VL0_mono {φ ψ : Phi} (h : φ.sub ψ) {cs : List (Ty × List Cell0)} {vs : List Value} (hc : VL0 φ cs vs) : VL0 ψ cs vs :=
 ⟨hc.1, fun i c hi => let ⟨v, hv, hr⟩ := hc.2 i c hi; ⟨v, hv, VC0_mono h hr⟩⟩
mutual
theorem CR_mono {φ ψ : Phi} (h : φ.sub ψ) : ∀ {c : Cell} {v : Value}, CR φ c v → CR ψ c v
 | .c0 _, _, hc => by unfold CR at hc ⊢; exact CR0_mono h hc
 | .func .nil, _, hc | .iface .nil, _, hc => by unfold CR at hc ⊢; exact hc
 | .func (.fn _ _ _), _, hc => by unfold CR at hc ⊢; obtain ⟨x, y, e, hx, hy⟩ := hc; exact ⟨x, y, e, VL0_mono h hx, VL0_mono h hy⟩
 | .iface (.mk _ _), _, hc => by unfold CR at hc ⊢; obtain ⟨x, e, hx⟩ := hc; exact ⟨x, e, VC0_mono h hx⟩
 | .vs n cs, _, hc => by
  unfold CR at hc ⊢
  rcases hc with hc | ⟨a, c, hv, hn, hx⟩
  ·exact .inl hc
  ·exact .inr ⟨a, c, hv, hn, fun h0 => by obtain ⟨h1, os, el, fr, h2, h3⟩ := hx h0; exact ⟨h1, os, el, fr, h.imm _ _ h2, CRs_mono h h3⟩⟩
 | .vp cs, _, hc => by
  unfold CR at hc ⊢
  obtain ⟨a, hv, h1, os, el, fr, h2, h3⟩ := hc
  exact ⟨a, hv, h1, os, el, fr, h.imm _ _ h2, CRs_mono h h3⟩
theorem CRs_mono {φ ψ : Phi} (h : φ.sub ψ) : ∀ {cs : List Cell} {vs : List Value}, CRs φ cs vs → CRs ψ cs vs
 | [], _, _ => by unfold CRs; trivial
 | _ :: _, [], hc => by unfold CRs at hc; exact hc.elim
 | _ :: _, _ :: _, hc => by unfold CRs at hc ⊢; exact ⟨CR_mono h hc.1, CRs_mono h hc.2⟩
end
theorem CL_mono {φ ψ : Phi} (h : φ.sub ψ) {cs : List Cell} {vs : List Value} (hc : CL φ cs vs) : CL ψ cs vs :=
 ⟨hc.1, fun i c hi => let ⟨v, hv, hr⟩ := hc.2 i c hi; ⟨v, hv, CR_mono h hr⟩⟩
theorem V1_mono {φ ψ : Phi} (h : φ.sub ψ) {t : Ty} {x : t.den} {v : Value} (hc : V1 φ t x v) : V1 ψ t x v := by
 unfold V1 at hc ⊢
 split
 ·rename_i ha
  rw [if_pos ha] at hc
  obtain ⟨l, hl, hr⟩ := hc
  exact ⟨l, hl, CL_mono h hr⟩
 ·rename_i ha
  rw [if_neg ha] at hc
  obtain ⟨l, hl, hr⟩ := hc
  exact ⟨l, hl, CR_mono h hr⟩
theorem TR_mono {φ ψ : Phi} (h : φ.sub ψ) : ∀ {t : Ty} {x : t.den} {l : List Value}, TR φ t x l → TR ψ t x l
 | .tnil, _, _, hc => hc
 | .tup a b, x, l, ⟨v, r, e, h1, h2⟩ => ⟨v, r, e, V1_mono h h1, TR_mono h h2⟩
theorem VR_mono {φ ψ : Phi} (h : φ.sub ψ) {v : V} {x : Value} (hc : VR φ v x) : VR ψ v x := by
 unfold VR at hc ⊢
 split
 ·rename_i ha
  rw [if_pos ha] at hc
  obtain ⟨l, hl, hr⟩ := hc
  exact ⟨l, hl, TR_mono h hr⟩
 ·rename_i ha
  rw [if_neg ha] at hc
  exact V1_mono h hc
theorem CR0_one {φ : Phi} : ∀ {c : Cell0} {v : Value}, CR0 φ c v → v.oneCell' = true
 | .bool _, _, h => by cases h; rfl
 | .int _ _, _, h => by cases h; rfl
 | .str _, _, h => by cases h; rfl
 | .ptr none, _, h => by cases h; rfl
 | .ptr (some _), _, ⟨_, _, h⟩ => by cases h; rfl
 | .slice none, _, h => by cases h; rfl
 | .slice (some _), _, h => by rcases h with ⟨_, _, h⟩ | ⟨_, _, h, _⟩ <;> (cases h; rfl)
 | .map none, _, h => by cases h; rfl
 | .map (some _), _, ⟨_, _, h⟩ => by cases h; rfl
theorem CR_one {φ : Phi} : ∀ {c : Cell} {v : Value}, CR φ c v → v.oneCell' = true
 | .c0 _, _, h => by unfold CR at h; exact CR0_one h
 | .func .nil, _, h => by unfold CR at h; cases h; rfl
 | .func (.fn _ _ _), _, h => by unfold CR at h; obtain ⟨_, _, h, _⟩ := h; cases h; rfl
 | .iface .nil, _, h => by unfold CR at h; cases h; rfl
 | .iface (.mk _ _), _, h => by unfold CR at h; obtain ⟨_, h, _⟩ := h; cases h; rfl
 | .vs _ _, _, h => by unfold CR at h; rcases h with ⟨_, h⟩ | ⟨_, _, h, _⟩ <;> (cases h; rfl)
 | .vp _, _, h => by unfold CR at h; obtain ⟨_, h, _⟩ := h; cases h; rfl
theorem CR_c0 {φ : Phi} {c : Cell0} {v : Value} : CR φ (.c0 c) v ↔ CR0 φ c v := by unfold CR; exact Iff.rfl
theorem V1_cells {φ : Phi} {t : Ty} {x : t.den} {v : Value} (h : V1 φ t x v) : CL φ (flat t x) v.cells.toList := by
 unfold V1 at h
 split at h
 ·obtain ⟨l, rfl, hl⟩ := h; exact hl
 ·obtain ⟨c, hc, hr⟩ := h
  have hv : v.cells = #[v] := by have := CR_one hr; cases v <;> simp_all [Value.cells, Value.oneCell']
  rw [hc, hv]
  refine ⟨rfl, fun i c' hi => ?_⟩
  cases i with
  | zero => simp at hi; subst hi; exact ⟨v, rfl, hr⟩
  | succ i => simp at hi
theorem V1_of_cells {φ : Phi} {t : Ty} {x : t.den} {l : Array Value} (h : CL φ (flat t x) l.toList) (ha : isAgg t = true) : V1 φ t x (.agg l) := by
 unfold V1; rw [if_pos ha]; exact ⟨l, rfl, h⟩
structure Blk where
 t : Ty
 n : Nat
 row : List t.den
 wr : Bool
def Blk.val (b : Blk) : (Ty.arr b.n b.t).den := b.row
abbrev Mem := List (Nat × Blk)
def Mem.get : Mem → Nat → Option Blk
 | [], _ => none
 | (k, b) :: r, i => bif Nat.beq k i then some b else Mem.get r i
def Mem.getC (m : Mem) (i : Nat) : Option Blk := match Mem.get m i with | some b => bif isTup b.t then none else some b | none => none
theorem Mem.getC_spec {m : Mem} {i : Nat} {b : Blk} (h : Mem.getC m i = some b) : Mem.get m i = some b ∧ isTup b.t = false := by
 unfold Mem.getC at h
 split at h
 ·rename_i c hc
  cases ht : isTup c.t <;> rw [ht] at h
  ·cases h; exact ⟨hc, ht⟩
  ·cases h
 ·cases h
theorem Mem.getC_of {m : Mem} {i : Nat} {b : Blk} (h : Mem.get m i = some b) (ht : isTup b.t = false) : Mem.getC m i = some b := by unfold Mem.getC; rw [h]; simp only [ht]; rfl
theorem Mem.getC_more {m m' : Mem} (hsub : ∀ i b, Mem.get m i = some b → Mem.get m' i = some b) {i : Nat} {b : Blk} (h : Mem.getC m i = some b) : Mem.getC m' i = some b := by
 obtain ⟨h1, h2⟩ := Mem.getC_spec h
 exact Mem.getC_of (hsub _ _ h1) h2
def Mem.set : Mem → Nat → Blk → Mem
 | [], _, _ => []
 | (k, b) :: r, i, x => bif Nat.beq k i then (k, x) :: r else (k, b) :: Mem.set r i x
def Mem.del : Mem → Nat → Mem
 | [], _ => []
 | (k, b) :: r, i => bif Nat.beq k i then Mem.del r i else (k, b) :: Mem.del r i
theorem Mem.get_cons (k : Nat) (b : Blk) (m : Mem) (i : Nat) : Mem.get ((k, b) :: m) i = if i = k then some b else Mem.get m i := by
 simp only [Mem.get]
 by_cases h : i = k
 ·subst h; rw [if_pos rfl, show Nat.beq i i = true from Nat.beq_refl i]; rfl
 ·rw [if_neg h, show Nat.beq k i = false from by rw [Bool.eq_false_iff]; intro e; exact h (Nat.eq_of_beq_eq_true e).symm]; rfl
theorem Mem.get_set : ∀ (m : Mem) (i : Nat) (x : Blk) (j : Nat) (b : Blk), Mem.get (Mem.set m i x) j = some b → (j = i ∧ b = x) ∨ (j ≠ i ∧ Mem.get m j = some b)
 | [], _, _, _, _, h => by simp [Mem.set, Mem.get] at h
 | (k, c) :: r, i, x, j, b, h => by
  simp only [Mem.set] at h
  by_cases hk : k = i
  ·subst hk
   rw [show Nat.beq k k = true from Nat.beq_refl k] at h
   simp only [cond_true, Mem.get_cons] at h
   by_cases hj : j = k
   ·rw [if_pos hj] at h; cases h; exact .inl ⟨hj, rfl⟩
   ·rw [if_neg hj] at h; exact .inr ⟨hj, by rw [Mem.get_cons, if_neg hj]; exact h⟩
  ·rw [show Nat.beq k i = false from by rw [Bool.eq_false_iff]; intro e; exact hk (Nat.eq_of_beq_eq_true e)] at h
   simp only [cond_false, Mem.get_cons] at h
   by_cases hj : j = k
   ·rw [if_pos hj] at h; cases h
    exact .inr ⟨by omega, by rw [Mem.get_cons, if_pos hj]⟩
   ·rw [if_neg hj] at h
    rcases Mem.get_set r i x j b h with ⟨h1, h2⟩ | ⟨h1, h2⟩
    ·exact .inl ⟨h1, h2⟩
    ·exact .inr ⟨h1, by rw [Mem.get_cons, if_neg hj]; exact h2⟩
theorem Mem.get_del : ∀ (m : Mem) (i j : Nat), Mem.get (Mem.del m i) j = if j = i then none else Mem.get m j
 | [], i, j => by simp [Mem.del, Mem.get]
 | (k, c) :: r, i, j => by
  simp only [Mem.del]
  by_cases hk : k = i
  ·subst hk
   rw [show Nat.beq k k = true from Nat.beq_refl k, cond_true, Mem.get_del r k j, Mem.get_cons]
   by_cases hj : j = k
   ·rw [if_pos hj, if_pos hj]
   ·rw [if_neg hj, if_neg hj, if_neg hj]
  ·rw [show Nat.beq k i = false from by rw [Bool.eq_false_iff]; intro e; exact hk (Nat.eq_of_beq_eq_true e), cond_false, Mem.get_cons, Mem.get_cons, Mem.get_del r i j]
   by_cases hj : j = k
   ·subst hj; rw [if_pos rfl, if_pos rfl, if_neg hk]
   ·rw [if_neg hj, if_neg hj]
def Born (es : Array MapEntry) (clock : Nat) : Prop := clock = es.size ∧ ∀ (i : Nat) e, es[i]? = some e → e.born = i
theorem Born.push {es : Array MapEntry} {clock : Nat} (h : Born es clock) {k v : Value} : Born (es.push { key := k, val := v, born := clock }) (clock + 1) := by
 refine ⟨by rw [Array.size_push, h.1], fun i e he => ?_⟩
 rw [Array.getElem?_push] at he
 by_cases hi : i = es.size
 ·rw [if_pos hi] at he; cases he; rw [hi]; exact h.1
 ·rw [if_neg hi] at he; exact h.2 i e he
theorem Born.modify {es : Array MapEntry} {clock j : Nat} (h : Born es clock) {f : MapEntry → MapEntry} (hf : ∀ e, (f e).born = e.born) : Born (es.modify j f) clock := by
 refine ⟨by rw [Array.size_modify]; exact h.1, fun i e he => ?_⟩
 rw [Array.getElem?_modify] at he
 by_cases hi : j = i
 ·rw [if_pos hi, Option.map_eq_some_iff] at he
  obtain ⟨e', he', rfl⟩ := he
  rw [hf]; exact h.2 i e' he'
 ·rw [if_neg hi] at he; exact h.2 i e he
def MpRel (φ : Phi) (w : World) (blk : Nat) : (t : Ty) → List t.den → Prop
 | .tup K (.tup E .tnil), row => ∃ es clock, w.heap[blk]? = some (.map es clock) ∧ es.size = row.length ∧ (∀ (i : Nat) x, row[i]? = some x → ∃ e, es[i]? = some e ∧ V1 φ K x.1 e.key ∧ V1 φ E x.2.1 e.val) ∧ Born es clock
 | _, _ => True
theorem MpRel.plain {φ : Phi} {w : World} {blk : Nat} {t : Ty} (h : isTup t = false) (row : List t.den) : MpRel φ w blk t row := by
 cases t <;> first | trivial | cases h
theorem MpRel.same {φ ψ : Phi} {w w' : World} {blk : Nat} (hle : φ.sub ψ) (hb : w'.heap[blk]? = w.heap[blk]?) : ∀ {t : Ty} {row : List t.den}, MpRel φ w blk t row → MpRel ψ w' blk t row
 | .tup K (.tup E .tnil), row, h => by
  obtain ⟨es, clock, h1, h2, h3, h4⟩ := h
  exact ⟨es, clock, hb.trans h1, h2, fun i x hx => by obtain ⟨e, he, k1, k2⟩ := h3 i x hx; exact ⟨e, he, V1_mono hle k1, V1_mono hle k2⟩, h4⟩
 | .bool, _, _ | .int _, _, _ | .str, _, _ | .ptr, _, _ | .slice, _, _ | .func, _, _ | .iface, _, _ | .map, _, _ | .vsl _, _, _ | .vptr _, _, _ | .unit, _, _ | .pair _ _, _, _ | .arr _ _, _, _ | .tnil, _, _ => trivial
 | .tup _ .bool, _, _ | .tup _ (.int _), _, _ | .tup _ .str, _, _ | .tup _ .ptr, _, _ | .tup _ .slice, _, _ | .tup _ .func, _, _ | .tup _ .iface, _, _ | .tup _ .map, _, _ | .tup _ (.vsl _), _, _ | .tup _ (.vptr _), _, _ | .tup _ .unit, _, _ | .tup _ (.pair _ _), _, _ | .tup _ (.arr _ _), _, _ | .tup _ .tnil, _, _ => trivial
 | .tup _ (.tup _ .bool), _, _ | .tup _ (.tup _ (.int _)), _, _ | .tup _ (.tup _ .str), _, _ | .tup _ (.tup _ .ptr), _, _ | .tup _ (.tup _ .slice), _, _ | .tup _ (.tup _ .func), _, _ | .tup _ (.tup _ .iface), _, _ | .tup _ (.tup _ .map), _, _ | .tup _ (.tup _ (.vsl _)), _, _ | .tup _ (.tup _ (.vptr _)), _, _ | .tup _ (.tup _ .unit), _, _ | .tup _ (.tup _ (.pair _ _)), _, _ | .tup _ (.tup _ (.arr _ _)), _, _ | .tup _ (.tup _ (.tup _ _)), _, _ => trivial
structure BlkRel (base : Nat) (φ : Phi) (ph : Phys) (b : Blk) (w : World) : Prop where
 t : ph.t = b.t
 own : b.wr = true → base ≤ ph.blk ∧ φ.imm ph.blk = none
 mp : MpRel φ w ph.blk b.t b.row
 cells : isTup b.t = false → ∃ cs el fr, w.heap[ph.blk]? = some (.cells cs el fr) ∧ (∀ (k : Nat) c, (flat (.arr b.n b.t) b.val)[k]? = some c → ∃ v, cs[ph.off + k]? = some v ∧ CR φ c v) ∧
  (b.wr = true → base ≤ ph.blk ∧ fr = (0, 0) ∧ φ.imm ph.blk = none ∧ b.n ≤ ph.cap ∧ ph.off + ph.cap * size b.t ≤ cs.size)
structure MemRel (base : Nat) (φ : Phi) (m : Mem) (nxt : Nat) (w : World) : Prop where
 blk : ∀ i b, Mem.get m i = some b → (φ i = none ∧ b.n = 0) ∨ ∃ ph, φ i = some ph ∧ BlkRel base φ ph b w
 apart : ∀ i j b b' ph ph', Mem.get m i = some b → Mem.get m j = some b' → i ≠ j → b.wr = true → φ i = some ph → φ j = some ph' → ph.blk ≠ ph'.blk
 fresh : ∀ i ph, φ i = some ph → i < nxt ∧ ph.blk < w.heap.size
 lo : φ.lo = base
 base : base ≤ w.heap.size
 imm : ∀ k o, φ.imm k = some o → w.heap[k]? = some o
theorem MemRel.blkAt {base : Nat} {φ : Phi} {m : Mem} {nxt : Nat} {w : World} (h : MemRel base φ m nxt w) {i : Nat} {b : Blk} (hi : Mem.get m i = some b) {ph : Phys} (hp : φ i = some ph) : BlkRel base φ ph b w := by
 rcases h.blk i b hi with ⟨h1, _⟩ | ⟨ph', h1, h2⟩
 ·rw [hp] at h1; cases h1
 ·rw [hp] at h1; cases h1; exact h2
theorem MemRel.immLt {base : Nat} {φ : Phi} {m : Mem} {nxt : Nat} {w : World} (h : MemRel base φ m nxt w) {k : Nat} {o : Obj} (hk : φ.imm k = some o) : k < w.heap.size := by
 have := h.imm k o hk
 exact (Array.getElem?_eq_some_iff.1 this).1
structure Same (w w' : World) : Prop where
 size : w.heap.size ≤ w'.heap.size
 block : ∀ k, k < w.heap.size → w'.heap[k]? = w.heap[k]?
theorem BlkRel.same {base : Nat} {φ ψ : Phi} {ph : Phys} {b : Blk} {w w' : World} (h : BlkRel base φ ph b w) (hφ : φ.le ψ) (hi : b.wr = true → φ.imm ph.blk = none → ψ.imm ph.blk = none) (hb : w'.heap[ph.blk]? = w.heap[ph.blk]?) : BlkRel base ψ ph b w' := by
 refine ⟨h.t, fun hw => ⟨(h.own hw).1, hi hw (h.own hw).2⟩, h.mp.same hφ.1 hb, fun ht => ?_⟩
 obtain ⟨cs, el, fr, h1, h2, h3⟩ := h.cells ht
 exact ⟨cs, el, fr, by rw [hb]; exact h1, fun k c hk => let ⟨v, hv, hr⟩ := h2 k c hk; ⟨v, hv, CR_mono hφ hr⟩, fun hw => let ⟨g1, g2, g3, g4⟩ := h3 hw; ⟨g1, g2, hi hw g3, g4⟩⟩
theorem MemRel.same {base : Nat} {φ : Phi} {m : Mem} {nxt nxt' : Nat} {w w' : World} (h : MemRel base φ m nxt w) (hw : Same w w') (hn : nxt ≤ nxt') : MemRel base φ m nxt' w' where
 blk i b hi := by
  rcases h.blk i b hi with h1 | ⟨ph, hp, hr⟩
  ·exact .inl h1
  ·exact .inr ⟨ph, hp, hr.same (Phi.le_refl _) (fun _ h => h) (hw.block _ (h.fresh i ph hp).2)⟩
 apart := h.apart
 fresh i ph hp := ⟨Nat.lt_of_lt_of_le (h.fresh i ph hp).1 hn, Nat.lt_of_lt_of_le (h.fresh i ph hp).2 hw.size⟩
 base := Nat.le_trans h.base hw.size
 imm k o hk := (hw.block k (h.immLt hk)).trans (h.imm k o hk)
 lo := h.lo
theorem MemRel.grow {base : Nat} {φ ψ : Phi} {m : Mem} {nxt nxt' : Nat} {w w' : World} (h : MemRel base φ m nxt w) (hw : Same w w') (hn : nxt ≤ nxt') (hle : φ.le ψ) (had : ∀ i, ψ i = φ i) (hlow : ∀ k o, ψ.imm k = some o → φ.imm k = some o ∨ w.heap.size ≤ k)
 (himm : ∀ k o, ψ.imm k = some o → w'.heap[k]? = some o) : MemRel base ψ m nxt' w' where
 blk i b hi := by
  rcases h.blk i b hi with h1 | ⟨ph, hp, hr⟩
  ·exact .inl ⟨(had i).trans h1.1, h1.2⟩
  ·refine .inr ⟨ph, (had i).trans hp, hr.same hle (fun _ h0 => ?_) (hw.block _ (h.fresh i ph hp).2)⟩
   cases h2 : ψ.imm ph.blk with
   | none => rfl
   | some o => rcases hlow _ _ h2 with h3 | h3
               ·rw [h0] at h3; cases h3
               ·exact absurd (h.fresh i ph hp).2 (by omega)
 apart i j b b' ph ph' hi hj hij hb h1 h2 := h.apart i j b b' ph ph' hi hj hij hb ((had i).symm.trans h1) ((had j).symm.trans h2)
 fresh i ph hp := by
  have hp := (had i).symm.trans hp
  exact ⟨Nat.lt_of_lt_of_le (h.fresh i ph hp).1 hn, Nat.lt_of_lt_of_le (h.fresh i ph hp).2 hw.size⟩
 base := Nat.le_trans h.base hw.size
 imm := himm
 lo := hle.lo.trans h.lo
theorem MemRel.forget {base : Nat} {φ : Phi} {m m' : Mem} {nxt : Nat} {w : World} (h : MemRel base φ m nxt w) (hm : ∀ i b, Mem.get m' i = some b → Mem.get m i = some b) : MemRel base φ m' nxt w where
 blk i b hi := h.blk i b (hm i b hi)
 apart i j b b' ph ph' hi hj := h.apart i j b b' ph ph' (hm i b hi) (hm j b' hj)
 fresh := h.fresh
 base := h.base
 imm := h.imm
 lo := h.lo
def Phi.add (φ : Phi) (i : Nat) (ph : Phys) : Phi := ⟨fun j => if j = i then some ph else φ j, φ.imm, φ.lo⟩
theorem Phi.le_add {φ : Phi} {i : Nat} {ph : Phys} (h : φ i = none) : φ.le (φ.add i ph) := by
 refine ⟨⟨?_, fun _ _ h => h⟩, fun _ _ h => .inl h, rfl⟩
 intro j p hj
 show (if j = i then some ph else φ j) = some p
 by_cases e : j = i
 ·subst e; rw [h] at hj; cases hj
 ·rw [if_neg e]; exact hj
theorem Same.refl (w : World) : Same w w := ⟨Nat.le_refl _, fun _ _ => rfl⟩
theorem Same.trans {a b c : World} (h : Same a b) (k : Same b c) : Same a c :=
 ⟨Nat.le_trans h.size k.size, fun i hi => (k.block i (Nat.lt_of_lt_of_le hi h.size)).trans (h.block i hi)⟩
theorem Same.alloc (w : World) (o : Obj) : Same w (w.alloc o) :=
 ⟨by show w.heap.size ≤ (w.heap.push o).size; simp, fun k hk => by show (w.heap.push o)[k]? = _; rw [Array.getElem?_push, if_neg (by omega)]⟩
theorem Below.same {B : Nat} {w w' : World} (h : Below B w w') (hB : w.heap.size ≤ B) : Same w w' := ⟨h.size, fun k hk => h.block k (by omega)⟩
theorem MemRel.allocAt {base : Nat} {φ : Phi} {m : Mem} {nxt0 nxt nn : Nat} {w : World} (h : MemRel base φ m nxt0 w) (hfr : φ nxt = none) (hid : nxt < nn) (hnn : nxt0 ≤ nn) (b : Blk) (cap : Nat) (cs : Array Value) (el : TypeId)
 (hbt : isTup b.t = false) (hn : b.n ≤ cap) (hc : cap * size b.t = cs.size) (hcs : ∀ (k : Nat) c, (flat (.arr b.n b.t) b.val)[k]? = some c → ∃ v, cs[k]? = some v ∧ CR φ c v) :
 φ.le (φ.add nxt ⟨w.heap.size, 0, b.t, cap⟩) ∧ MemRel base (φ.add nxt ⟨w.heap.size, 0, b.t, cap⟩) ((nxt, b) :: m) nn (w.alloc (.cells cs el)) := by
 have hle : φ.le (φ.add nxt ⟨w.heap.size, 0, b.t, cap⟩) := Phi.le_add hfr
 have hs := Same.alloc w (.cells cs el)
 refine ⟨hle, ?_, ?_, ?_, h.lo, ?_, fun k o hk => (hs.block k (h.immLt hk)).trans (h.imm k o hk)⟩
 ·intro i b' hi
  rw [Mem.get_cons] at hi
  by_cases e : i = nxt
  ·rw [if_pos e] at hi; cases hi; subst e
   have hnone : φ.imm w.heap.size = none := by
    cases hk : φ.imm w.heap.size with
    | none => rfl
    | some o => exact absurd (h.immLt hk) (by omega)
   refine .inr ⟨⟨w.heap.size, 0, b.t, cap⟩, by simp [Phi.add], rfl, fun _ => ⟨h.base, hnone⟩, MpRel.plain hbt _, fun _ => ⟨cs, el, (0, 0), by show (w.heap.push _)[w.heap.size]? = _; simp, fun k c hk => ?_, fun _ => ⟨h.base, rfl, hnone, hn, by simp [hc]⟩⟩⟩
   obtain ⟨v, hv, hr⟩ := hcs k c hk
   exact ⟨v, by simpa using hv, CR_mono hle hr⟩
  ·rw [if_neg e] at hi
   rcases h.blk i b' hi with h1 | ⟨ph, hp, hr⟩
   ·exact .inl ⟨by show (if i = nxt then _ else φ i) = none; rw [if_neg e]; exact h1.1, h1.2⟩
   ·exact .inr ⟨ph, hle.ad i ph hp, hr.same hle (fun _ h => h) (hs.block _ (h.fresh i ph hp).2)⟩
 ·intro i j b1 b2 p1 p2 hi hj hij hw h1 h2
  rw [Mem.get_cons] at hi hj
  have h1 : (if i = nxt then some _ else φ i) = some p1 := h1
  have h2 : (if j = nxt then some _ else φ j) = some p2 := h2
  by_cases e1 : i = nxt
  ·have e2 : j ≠ nxt := fun e => hij (e1.trans e.symm)
   rw [if_pos e1] at h1; rw [if_neg e2] at h2; cases h1
   have := (h.fresh j p2 h2).2
   intro e; simp at e; omega
  ·rw [if_neg e1] at h1 hi
   by_cases e2 : j = nxt
   ·rw [if_pos e2] at h2; cases h2
    have := (h.fresh i p1 h1).2
    intro e; simp at e; omega
   ·rw [if_neg e2] at h2 hj
    exact h.apart i j b1 b2 p1 p2 hi hj hij hw h1 h2
 ·intro i ph hp
  have hp : (if i = nxt then some _ else φ i) = some ph := hp
  by_cases e : i = nxt
  ·rw [if_pos e] at hp; cases hp; exact ⟨by omega, by show w.heap.size < (w.heap.push _).size; simp⟩
  ·rw [if_neg e] at hp
   have := h.fresh i ph hp
   exact ⟨by omega, by show ph.blk < (w.heap.push _).size; simp; omega⟩
 ·have := h.base; show base ≤ (w.heap.push _).size; simp; omega
theorem MemRel.free {base : Nat} {φ : Phi} {m : Mem} {nxt : Nat} {w : World} (h : MemRel base φ m nxt w) : φ nxt = none := by
 cases hp : φ nxt with
 | none => rfl
 | some ph => exact absurd (h.fresh nxt ph hp).1 (by omega)
theorem MemRel.put {base : Nat} {φ : Phi} {m : Mem} {nxt : Nat} {w : World} (h : MemRel base φ m nxt w) {i : Nat} {b b' : Blk} {ph : Phys} {cs : Array Value}
 (hi : Mem.get m i = some b) (hbt : isTup b.t = false) (hw : b.wr = true) (hp : φ i = some ph) (ht : b'.t = b.t) (hn : b'.n ≤ ph.cap) (hc : ph.off + ph.cap * size b'.t ≤ cs.size)
 (hcs : ∀ (k : Nat) c, (flat (.arr b'.n b'.t) b'.val)[k]? = some c → ∃ v, cs[ph.off + k]? = some v ∧ CR φ c v) :
 MemRel base φ (Mem.set m i b') nxt (w.setRow ph.blk cs) where
 blk j c hj := by
  rcases Mem.get_set m i b' j c hj with ⟨rfl, rfl⟩ | ⟨hne, hj⟩
  ·have hr := h.blkAt hi hp
   obtain ⟨old, el, fr, h1, h2, h3⟩ := hr.cells hbt
   obtain ⟨hb, rfl, ho, hcap, hsz⟩ := h3 hw
   exact .inr ⟨ph, hp, hr.t.trans ht.symm, fun _ => ⟨hb, ho⟩, MpRel.plain (by rw [ht]; exact hbt) _, fun _ => ⟨cs, el, (0, 0), setRow_heap w _ _ _ _ _ h1, hcs, fun _ => ⟨hb, rfl, ho, hn, hc⟩⟩⟩
  ·rcases h.blk j c hj with h1 | ⟨ph1, hp1, hr⟩
   ·exact .inl h1
   ·have hd := h.apart i j b c ph ph1 hi hj (fun e => hne e.symm) hw hp hp1
    exact .inr ⟨ph1, hp1, hr.same (Phi.le_refl _) (fun _ h => h) (setRow_other w _ _ _ (fun e => hd e.symm))⟩
 apart j k b1 b2 p1 p2 hj hk hjk hw1 h1 h2 := by
  have hgj : ∃ b3, Mem.get m j = some b3 ∧ (b1.wr = true → b3.wr = true) := by
   rcases Mem.get_set m i b' j b1 hj with ⟨rfl, rfl⟩ | ⟨hne, hj⟩
   ·exact ⟨b, hi, fun _ => hw⟩
   ·exact ⟨b1, hj, id⟩
  have hgk : ∃ b3, Mem.get m k = some b3 := by
   rcases Mem.get_set m i b' k b2 hk with ⟨rfl, rfl⟩ | ⟨hne, hk⟩
   ·exact ⟨b, hi⟩
   ·exact ⟨b2, hk⟩
  obtain ⟨b3, hb3, hb4⟩ := hgj
  obtain ⟨b5, hb5⟩ := hgk
  exact h.apart j k b3 b5 p1 p2 hb3 hb5 hjk (hb4 hw1) h1 h2
 fresh j p hj := by have := h.fresh j p hj; simpa using this
 base := by have := h.base; simpa using this
 imm k o hk := by
  have hne : k ≠ ph.blk := by
   intro e; subst e
   rw [((h.blkAt hi hp).own hw).2] at hk; cases hk
  exact (setRow_other w _ _ _ hne).trans (h.imm k o hk)
 lo := h.lo
theorem MemRel.allocMap {base : Nat} {φ : Phi} {m : Mem} {nxt0 nxt nn : Nat} {w : World} (h : MemRel base φ m nxt0 w) (hfr : φ nxt = none) (hid : nxt < nn) (hnn : nxt0 ≤ nn) (K E : Ty) :
 φ.le (φ.add nxt ⟨w.heap.size, 0, .tup K (.tup E .tnil), 0⟩) ∧ MemRel base (φ.add nxt ⟨w.heap.size, 0, .tup K (.tup E .tnil), 0⟩) ((nxt, ⟨.tup K (.tup E .tnil), 0, [], true⟩) :: m) nn (w.alloc (.map #[] 0)) := by
 have hle : φ.le (φ.add nxt ⟨w.heap.size, 0, .tup K (.tup E .tnil), 0⟩) := Phi.le_add hfr
 have hs := Same.alloc w (.map #[] 0)
 refine ⟨hle, ?_, ?_, ?_, h.lo, ?_, fun k o hk => (hs.block k (h.immLt hk)).trans (h.imm k o hk)⟩
 ·intro i b' hi
  rw [Mem.get_cons] at hi
  by_cases e : i = nxt
  ·rw [if_pos e] at hi; cases hi; subst e
   have hnone : φ.imm w.heap.size = none := by
    cases hk : φ.imm w.heap.size with
    | none => rfl
    | some o => exact absurd (h.immLt hk) (by omega)
   refine .inr ⟨⟨w.heap.size, 0, .tup K (.tup E .tnil), 0⟩, by simp [Phi.add], rfl, fun _ => ⟨h.base, hnone⟩, ⟨#[], 0, by show (w.heap.push _)[w.heap.size]? = _; simp, rfl, fun i x hx => by simp at hx, rfl, fun i e he => by simp at he⟩, fun ht => by cases ht⟩
  ·rw [if_neg e] at hi
   rcases h.blk i b' hi with h1 | ⟨ph, hp, hr⟩
   ·exact .inl ⟨by show (if i = nxt then _ else φ i) = none; rw [if_neg e]; exact h1.1, h1.2⟩
   ·exact .inr ⟨ph, hle.ad i ph hp, hr.same hle (fun _ h => h) (hs.block _ (h.fresh i ph hp).2)⟩
 ·intro i j b1 b2 p1 p2 hi hj hij hw h1 h2
  rw [Mem.get_cons] at hi hj
  have h1 : (if i = nxt then some _ else φ i) = some p1 := h1
  have h2 : (if j = nxt then some _ else φ j) = some p2 := h2
  by_cases e1 : i = nxt
  ·have e2 : j ≠ nxt := fun e => hij (e1.trans e.symm)
   rw [if_pos e1] at h1; rw [if_neg e2] at h2; cases h1
   have := (h.fresh j p2 h2).2
   intro e; simp at e; omega
  ·rw [if_neg e1] at h1 hi
   by_cases e2 : j = nxt
   ·rw [if_pos e2] at h2; cases h2
    have := (h.fresh i p1 h1).2
    intro e; simp at e; omega
   ·rw [if_neg e2] at h2 hj
    exact h.apart i j b1 b2 p1 p2 hi hj hij hw h1 h2
 ·intro i ph hp
  have hp : (if i = nxt then some _ else φ i) = some ph := hp
  by_cases e : i = nxt
  ·rw [if_pos e] at hp; cases hp; exact ⟨by omega, by show w.heap.size < (w.heap.push _).size; simp⟩
  ·rw [if_neg e] at hp
   have := h.fresh i ph hp
   exact ⟨by omega, by show ph.blk < (w.heap.push _).size; simp; omega⟩
 ·have := h.base; show base ≤ (w.heap.push _).size; simp; omega
theorem MemRel.putMap {base : Nat} {φ : Phi} {m : Mem} {nxt : Nat} {w : World} (h : MemRel base φ m nxt w) {i : Nat} {b : Blk} {ph : Phys} {K E : Ty} {row : List (Ty.tup K (.tup E .tnil)).den} {es : Array MapEntry} {clock n : Nat}
 (hi : Mem.get m i = some b) (hb : b.t = .tup K (.tup E .tnil)) (hw : b.wr = true) (hp : φ i = some ph)
 (hes : es.size = row.length) (hrow : ∀ (i : Nat) x, row[i]? = some x → ∃ e, es[i]? = some e ∧ V1 φ K x.1 e.key ∧ V1 φ E x.2.1 e.val) (hbn : Born es clock) :
 MemRel base φ (Mem.set m i ⟨.tup K (.tup E .tnil), n, row, true⟩) nxt { w with heap := w.heap.setIfInBounds ph.blk (.map es clock) } where
 blk j c hj := by
  have hlt := (h.fresh i ph hp).2
  rcases Mem.get_set m i _ j c hj with ⟨rfl, rfl⟩ | ⟨hne, hj⟩
  ·have hr := h.blkAt hi hp
   exact .inr ⟨ph, hp, hr.t.trans hb, fun _ => hr.own hw, ⟨es, clock, by simp [hlt], hes, hrow, hbn⟩, fun ht => by cases ht⟩
  ·rcases h.blk j c hj with h1 | ⟨ph1, hp1, hr⟩
   ·exact .inl h1
   ·have hd := h.apart i j b c ph ph1 hi hj (fun e => hne e.symm) hw hp hp1
    exact .inr ⟨ph1, hp1, hr.same (Phi.le_refl _) (fun _ h => h) (by simp [hd])⟩
 apart j k b1 b2 p1 p2 hj hk hjk hw1 h1 h2 := by
  have hgj : ∃ b3, Mem.get m j = some b3 ∧ (b1.wr = true → b3.wr = true) := by
   rcases Mem.get_set m i _ j b1 hj with ⟨rfl, rfl⟩ | ⟨hne, hj⟩
   ·exact ⟨b, hi, fun _ => hw⟩
   ·exact ⟨b1, hj, id⟩
  have hgk : ∃ b3, Mem.get m k = some b3 := by
   rcases Mem.get_set m i _ k b2 hk with ⟨rfl, rfl⟩ | ⟨hne, hk⟩
   ·exact ⟨b, hi⟩
   ·exact ⟨b2, hk⟩
  obtain ⟨b3, hb3, hb4⟩ := hgj
  obtain ⟨b5, hb5⟩ := hgk
  exact h.apart j k b3 b5 p1 p2 hb3 hb5 hjk (hb4 hw1) h1 h2
 fresh j p hj := by have := h.fresh j p hj; simpa using this
 base := by have := h.base; simpa using this
 imm k o hk := by
  have hne : k ≠ ph.blk := by
   intro e; subst e
   rw [((h.blkAt hi hp).own hw).2] at hk; cases hk
  have := h.imm k o hk
  simp only [Array.getElem?_setIfInBounds]
  rw [if_neg (fun e => hne e.symm)]; exact this
 lo := h.lo
end Go.GX

namespace Go.GX
set_option linter.unusedSimpArgs false
set_option linter.unusedVariables false
open Go.RowKit (Below)
structure TI where
 ty : Ty
 bytes : Nat
 sub : List Nat
 cmp : Bool
abbrev Tab := Nat → Option TI
def zeroCell : Cell → Value → Bool
 | .c0 (.bool false), .bool false => true
 | .c0 (.int k n), .int k' n' => decide (k = k') && (n == 0 && n' == 0)
 | .c0 (.str []), .string s => s.data.toList.isEmpty
 | .c0 (.ptr none), .pointer none => true
 | .c0 (.slice none), .slice none 0 0 => true
 | .vs 0 [], .slice none 0 0 => true
 | .c0 (.map none), .map none => true
 | .func .nil, .nilFunc => true
 | .iface .nil, .nilIface => true
 | _, _ => false
def zeroCells : List Cell → List Value → Bool
 | [], [] => true
 | c :: cs, v :: vs => zeroCell c v && zeroCells cs vs
 | _, _ => false
def zeroOK (t : Ty) : Value → Bool
 | .agg l => isAgg t && zeroCells (flat t (dflt t)) l.toList
 | v => !isAgg t && zeroCells (flat t (dflt t)) [v]
theorem zeroCell_ok (φ : Phi) : ∀ {c : Cell} {v : Value}, zeroCell c v = true → CR φ c v := by
 intro c v h
 unfold zeroCell at h
 split at h <;> first | (cases h; done) | (unfold CR; first | rfl | exact .inl ⟨rfl, rfl⟩) | skip
 ·simp only [Bool.and_eq_true, decide_eq_true_eq, beq_iff_eq] at h
  obtain ⟨rfl, rfl, rfl⟩ := h; unfold CR; rfl
 ·rename_i s
  have : s.data.toList = [] := by simpa using h
  unfold CR
  show (Value.string s) = .string ⟨#[]⟩
  congr 1
  cases s; simp at this; simp [this]
theorem zeroCells_ok (φ : Phi) : ∀ {cs : List Cell} {vs : List Value}, zeroCells cs vs = true → CL φ cs vs
 | [], [], _ => ⟨rfl, fun i c h => by simp at h⟩
 | c :: cs, v :: vs, h => by
  simp only [zeroCells, Bool.and_eq_true] at h
  have ih := zeroCells_ok φ h.2
  refine ⟨by simp [ih.1], fun i c' hi => ?_⟩
  cases i with
  | zero => simp at hi; subst hi; exact ⟨v, rfl, zeroCell_ok φ h.1⟩
  | succ i => simpa using ih.2 i c' (by simpa using hi)
theorem zeroOK_ok (φ : Phi) {t : Ty} {v : Value} (ht : isTup t = false) (h : zeroOK t v = true) : V1 φ t (dflt t) v := by
 unfold zeroOK at h
 split at h
 ·simp only [Bool.and_eq_true] at h
  exact V1_of_cells (zeroCells_ok φ h.2) h.1
 ·simp only [Bool.and_eq_true, Bool.not_eq_true'] at h
  have hc := zeroCells_ok φ h.2
  unfold V1
  rw [if_neg (by simp [h.1])]
  have hl := hc.1
  match hf : flat t (dflt t), hl with
  | [c], _ =>
   rw [hf] at hc
   obtain ⟨v', hv, hr⟩ := hc.2 0 c rfl
   simp at hv; subst hv
   exact ⟨c, rfl, hr⟩
  | [], hl => simp at hl
  | _ :: _ :: _, hl => simp at hl
def isVsl : Ty → Bool | .vsl _ => true | _ => false
def fldOK (u a : Ty) : Bool := decide (u = a) || (decide (a = .slice) && isVsl u)
theorem fldOK_size {u a : Ty} (h : fldOK u a = true) : size u = size a := by
 unfold fldOK at h
 rcases Bool.or_eq_true_iff.1 h with h | h
 ·rw [of_decide_eq_true h]
 ·obtain ⟨h1, h2⟩ := Bool.and_eq_true_iff.1 h
  have h1 := of_decide_eq_true h1
  subst h1
  cases u <;> first | rfl | (cases h2)
theorem fldOK_ne {u a : Ty} (h : fldOK u a = true) (ha : a ≠ .slice) : u = a := by
 unfold fldOK at h
 rcases Bool.or_eq_true_iff.1 h with h | h
 ·exact of_decide_eq_true h
 ·obtain ⟨h1, h2⟩ := Bool.and_eq_true_iff.1 h
  exact absurd (of_decide_eq_true h1) ha
def structOK (Θ : Tab) : Ty → Nat → List Field → Bool
 | .unit, _, [] => true
 | .pair a b, off, f :: fs => (Nat.beq f.offset off && (match Θ f.type with | some tf => fldOK tf.ty a && (!isTup a) | none => false)) && structOK Θ b (off + size a) fs
 | _, _, _ => false
def cmpFields (Θ : Tab) (fs : List Field) : Bool := fs.all fun f => decide (f.name ≠ "_") && (match Θ f.type with | some tf => tf.cmp | none => false)
def slT : Ty → Ty | .vsl _ => .slice | t => t
theorem slT_ne {t u : Ty} (h : slT t = u) (hu : u ≠ .slice) : t = u := by
 cases t <;> first | exact h | exact absurd h.symm hu
def slOK (Θ : Tab) (t : Ty) (e : Nat) : Bool := match t with
 | .vsl u => (match Θ e with | some te => decide (te.ty = u) && !isTup u | none => false)
 | _ => true
def descOK (Θ : Tab) (ti : TI) : TypeDesc → Bool
 | .bool => decide (ti.ty = .bool)
 | .int k => decide (ti.ty = .int k)
 | .string => decide (ti.ty = .str)
 | .pointer e => decide (ti.ty = .ptr) && decide (ti.sub = [e])
 | .slice e => decide (slT ti.ty = .slice) && (slOK Θ ti.ty e && decide (ti.sub = [e]))
 | .func _ _ _ => decide (ti.ty = .func)
 | .interface _ => decide (ti.ty = .iface)
 | .map k e => decide (ti.ty = .map) && decide (ti.sub = [k, e])
 | .array n e => decide (ti.sub = [e]) && (match Θ e with | some te => decide (ti.ty = .arr n te.ty) && (!isTup te.ty && (!ti.cmp || te.cmp)) | none => false)
 | .struct fs => decide (fs.toList.map (·.type) = ti.sub) && (structOK Θ ti.ty 0 fs.toList && (!ti.cmp || cmpFields Θ fs.toList))
 | _ => false
def cmpOK (P : Program) (t : Nat) (ti : TI) : Bool := !ti.cmp || (!P.eqGuardType P.depth t && (match P.underlying t with | some (.struct _) => !P.stoodInHeld t | _ => true))
def chk (P : Program) (Θ : Tab) (t : Nat) (ti : TI) : Bool :=
 match P.info? t, P.underlying t with
 | some i, some d => (Nat.beq i.size (size ti.ty) && (Nat.beq i.bytes ti.bytes && (match i.zero with | some z => zeroOK ti.ty z | none => false))) && (descOK Θ ti d && (cmpOK P t ti && !isTup ti.ty))
 | _, _ => false
def TabOK (P : Program) (Θ : Tab) : Prop := ∀ t ti, Θ t = some ti → chk P Θ t ti = true
structure TIOK (P : Program) (Θ : Tab) (t : Nat) (ti : TI) : Prop where
 info : ∃ i z, P.info? t = some i ∧ i.size = size ti.ty ∧ i.bytes = ti.bytes ∧ i.zero = some z ∧ zeroOK ti.ty z = true
 desc : ∃ d, P.underlying t = some d ∧ descOK Θ ti d = true
 cmp : cmpOK P t ti = true
 tup : isTup ti.ty = false
theorem TabOK.get {P : Program} {Θ : Tab} (h : TabOK P Θ) {t : Nat} {ti : TI} (ht : Θ t = some ti) : TIOK P Θ t ti := by
 have := h t ti ht
 unfold chk at this
 split at this
 ·rename_i i d hi hd
  simp only [Bool.and_eq_true, Bool.not_eq_true'] at this
  obtain ⟨⟨h1, h2, h3⟩, h4, h5, h6⟩ := this
  split at h3
  ·rename_i z hz
   exact ⟨⟨i, z, hi, Nat.eq_of_beq_eq_true h1, Nat.eq_of_beq_eq_true h2, hz, h3⟩, ⟨d, hd, h4⟩, h5, h6⟩
  ·cases h3
 ·cases this
section
variable {P : Program} {Θ : Tab} {t : Nat} {ti : TI}
theorem TIOK.run_typeInfo (h : TIOK P Θ t ti) : ∃ i z, P.info? t = some i ∧ i.size = size ti.ty ∧ i.bytes = ti.bytes ∧ i.zero = some z ∧ zeroOK ti.ty z = true ∧ ∀ w, (typeInfo t).run P w = .ok i w := by
 obtain ⟨i, z, hi, h1, h2, h3, h4⟩ := h.info
 exact ⟨i, z, hi, h1, h2, h3, h4, fun w => by simp [typeInfo, hi, Result.andThen]⟩
theorem TIOK.run_sizeOf (h : TIOK P Θ t ti) (w : World) : (sizeOf t).run P w = .ok (size ti.ty) w := by
 obtain ⟨i, z, hi, h1, h2, h3, h4, hr⟩ := h.run_typeInfo
 simp only [sizeOf, Sem.run_bind, hr, Result.andThen]
 rw [← h1]; rfl
theorem TIOK.run_zero (h : TIOK P Θ t ti) : ∃ z, zeroOK ti.ty z = true ∧ ∀ w, (zeroValue t).run P w = .ok z w := by
 obtain ⟨i, z, hi, h1, h2, h3, h4, hr⟩ := h.run_typeInfo
 exact ⟨z, h4, fun w => by simp only [zeroValue, Sem.run_bind, hr, Result.andThen, h3]; rfl⟩
theorem TIOK.run_underlying (h : TIOK P Θ t ti) : ∃ d, descOK Θ ti d = true ∧ P.underlying t = some d ∧ ∀ w, (underlying t).run P w = .ok d w := by
 obtain ⟨d, hd, hk⟩ := h.desc
 exact ⟨d, hk, hd, fun w => Go.run_underlying hd w⟩
def aggD : TypeDesc → Bool
 | .struct _ | .array _ _ => true
 | _ => false
theorem structOK_agg {Θ : Tab} : ∀ {ty : Ty} {o : Nat} {fs : List Field}, structOK Θ ty o fs = true → GX.isAgg ty = true := by
 intro ty o fs h
 cases ty <;> first | rfl | (simp [structOK] at h)
theorem desc_agg {Θ : Tab} {ti : TI} {d : TypeDesc} (h : descOK Θ ti d = true) : aggD d = GX.isAgg ti.ty := by
 cases d with
 | struct fs =>
  simp only [descOK, Bool.and_eq_true] at h
  rw [structOK_agg h.2.1]; rfl
 | array n e =>
  simp only [descOK, Bool.and_eq_true] at h
  obtain ⟨_, h⟩ := h
  split at h
  ·simp only [Bool.and_eq_true, decide_eq_true_eq] at h
   rw [h.1]; rfl
  ·cases h
 | slice e =>
  simp only [descOK, Bool.and_eq_true, decide_eq_true_eq] at h
  have h := h.1
  revert h
  cases ti.ty <;> simp [slT, aggD, GX.isAgg]
 | _ => simp [descOK] at h <;> simp [h, aggD, GX.isAgg]
def kd : TypeDesc → Nat
 | .bool => 0 | .int _ => 1 | .string => 2 | .pointer _ => 3 | .slice _ => 4 | .func _ _ _ => 5 | .interface _ => 6 | .map _ _ => 7 | .array _ _ => 8 | .struct _ => 9 | _ => 10
def kt : Ty → Nat
 | .bool => 0 | .int _ => 1 | .str => 2 | .ptr => 3 | .slice => 4 | .vsl _ => 4 | .func => 5 | .iface => 6 | .map => 7 | .arr _ _ => 8 | .unit => 9 | .pair _ _ => 9 | _ => 11
theorem desc_kind {Θ : Tab} {ti : TI} {d : TypeDesc} (h : descOK Θ ti d = true) : kd d = kt ti.ty := by
 cases d with
 | struct fs =>
  simp only [descOK, Bool.and_eq_true] at h
  have h := h.2.1
  revert h
  cases ti.ty <;> simp [structOK, kd, kt]
 | array n e =>
  simp only [descOK, Bool.and_eq_true] at h
  obtain ⟨_, h⟩ := h
  split at h
  ·simp only [Bool.and_eq_true, decide_eq_true_eq] at h
   rw [h.1]; rfl
  ·cases h
 | slice e =>
  simp only [descOK, Bool.and_eq_true, decide_eq_true_eq] at h
  have h := h.1
  revert h
  cases ti.ty <;> simp [slT, kd, kt]
 | _ => simp [descOK] at h <;> simp [h, kd, kt]
theorem desc_ptr {Θ : Tab} {ti : TI} {d : TypeDesc} (h : descOK Θ ti d = true) (ht : ti.ty = .ptr) : ∃ e, d = .pointer e := by
 have := desc_kind h
 rw [ht] at this
 cases d <;> simp [kd, kt] at this
 exact ⟨_, rfl⟩
theorem desc_slice {Θ : Tab} {ti : TI} {d : TypeDesc} (hd : descOK Θ ti d = true) (ht : slT ti.ty = .slice) : ∃ e, d = .slice e ∧ ti.sub = [e] := by
 have := desc_kind hd
 have h4 : kt ti.ty = 4 := by revert ht; cases ti.ty <;> simp [slT, kt]
 rw [h4] at this
 cases d <;> simp [kd] at this
 simp only [descOK, Bool.and_eq_true, decide_eq_true_eq] at hd
 exact ⟨_, rfl, hd.2.2⟩
theorem desc_vsl {Θ : Tab} {ti : TI} {d : TypeDesc} {u : Ty} (hd : descOK Θ ti d = true) (ht : ti.ty = .vsl u) : ∃ e te, d = .slice e ∧ ti.sub = [e] ∧ Θ e = some te ∧ te.ty = u ∧ isTup u = false := by
 obtain ⟨e, rfl, hs⟩ := desc_slice hd (by rw [ht]; rfl)
 simp only [descOK, Bool.and_eq_true, decide_eq_true_eq] at hd
 have h := hd.2.1
 rw [ht] at h
 simp only [slOK] at h
 split at h
 ·rename_i te hte
  simp only [Bool.and_eq_true, decide_eq_true_eq, Bool.not_eq_true'] at h
  exact ⟨e, te, rfl, hs, hte, h.1, h.2⟩
 ·cases h
theorem desc_str {Θ : Tab} {ti : TI} {d : TypeDesc} (hd : descOK Θ ti d = true) (ht : ti.ty = .str) : d = .string := by
 have := desc_kind hd
 rw [ht] at this
 cases d <;> simp [kd, kt] at this
 rfl
theorem desc_bool {Θ : Tab} {ti : TI} {d : TypeDesc} (hd : descOK Θ ti d = true) (ht : ti.ty = .bool) : d = .bool := by
 have := desc_kind hd
 rw [ht] at this
 cases d <;> simp [kd, kt] at this
 rfl
theorem desc_int {Θ : Tab} {ti : TI} {d : TypeDesc} {k : IntKind} (hd : descOK Θ ti d = true) (ht : ti.ty = .int k) : d = .int k := by
 have := desc_kind hd
 rw [ht] at this
 cases d <;> simp [kd, kt] at this
 simp only [descOK, decide_eq_true_eq, ht, Ty.int.injEq] at hd
 rw [hd]
theorem desc_arr {Θ : Tab} {ti : TI} {d : TypeDesc} {n : Nat} {u : Ty} (hd : descOK Θ ti d = true) (ht : ti.ty = .arr n u) : ∃ e te, d = .array n e ∧ Θ e = some te ∧ te.ty = u := by
 have := desc_kind hd
 rw [ht] at this
 cases d <;> simp [kd, kt] at this
 simp only [descOK, Bool.and_eq_true] at hd
 obtain ⟨_, hd⟩ := hd
 split at hd
 ·rename_i te hte
  simp only [Bool.and_eq_true, decide_eq_true_eq] at hd
  rw [hd.1] at ht; cases ht
  exact ⟨_, te, rfl, hte, rfl⟩
 ·cases hd
theorem TIOK.run_isAgg (h : TIOK P Θ t ti) (w : World) : (Go.isAgg t).run P w = .ok (GX.isAgg ti.ty) w := by
 obtain ⟨d, hd, _, hr⟩ := h.run_underlying
 simp only [Go.isAgg, Sem.run_bind, hr, Result.andThen]
 rw [← desc_agg hd]
 cases d <;> rfl
end
theorem CL_get {φ : Phi} {cs : List Cell} {vs : List Value} (h : CL φ cs vs) {i : Nat} {v : Value} (hv : vs[i]? = some v) : ∃ c, cs[i]? = some c ∧ CR φ c v := by
 have hi : i < vs.length := (List.getElem?_eq_some_iff.1 hv).1
 have hc : i < cs.length := by rw [← h.1]; exact hi
 obtain ⟨v', hv', hr⟩ := h.2 i _ (List.getElem?_eq_getElem hc)
 rw [hv] at hv'; cases hv'
 exact ⟨_, List.getElem?_eq_getElem hc, hr⟩
theorem add_off (b o i : Nat) : (⟨b, o, none⟩ : Addr).add i = ⟨b, o + i, none⟩ := by unfold Addr.add; split <;> simp_all
theorem cells_at {base : Nat} {φ : Phi} {id : Nat} {ph : Phys} {b : Blk} {w : World} (h : BlkRel base φ ph b w) (hbt : isTup b.t = false) (hp : φ id = some ph) {path : List Nat} {v : V}
 (hn : nav (.arr b.n b.t) b.val path = some v) (hb : inb (.arr b.n b.t) path = true) :
 ∃ o, addr φ ⟨id, path⟩ = some ⟨ph.blk, ph.off + o, none⟩ ∧ o + size v.t ≤ b.n * size b.t ∧ ∀ (i : Nat) c, (flat v.t v.x)[i]? = some c → ∃ x, w.cell? ⟨ph.blk, ph.off + o + i, none⟩ = some x ∧ CR φ c x := by
 obtain ⟨o, ho, hs, hg⟩ := nav_spec _ _ _ _ hn hb
 obtain ⟨cs, el, fr, h1, h2, _⟩ := h.cells hbt
 have hoff : ∀ (n : Nat) (t : Ty) (p : List Nat), offs (.arr n t) p = offs (.arr 0 t) p := by
  intro n t p; cases p <;> simp [offs]
 refine ⟨o, ?_, hs, fun i c hc => ?_⟩
 ·unfold addr
  simp only [hp, h.t]
  rw [← hoff b.n, ho]; rfl
 ·have hi : i < size v.t := by rw [← length_flat v.t v.x]; exact (List.getElem?_eq_some_iff.1 hc).1
  have := h2 (o + i) c (by rw [hg i hi]; exact hc)
  obtain ⟨x, hx, hr⟩ := this
  refine ⟨x, ?_, hr⟩
  simp only [World.cell?, h1]
  rw [← hx, Nat.add_assoc]; rfl
theorem run_loadVar {P : Program} {Θ : Tab} {t : Nat} {ti : TI} (ht : TIOK P Θ t ti) {φ : Phi} {w : World} {k o : Nat} {x : ti.ty.den}
 (h : ∀ (i : Nat) c, (flat ti.ty x)[i]? = some c → ∃ v, w.cell? ⟨k, o + i, none⟩ = some v ∧ CR φ c v) :
 ∃ v, (loadVar t ⟨k, o, none⟩).run P w = .ok v w ∧ V1 φ ti.ty x v := by
 have hval : ∃ vs : List Value, vs.length = size ti.ty ∧ CL φ (flat ti.ty x) vs ∧ ∀ j v, vs[j]? = some v → w.cell? ⟨k, o + j, none⟩ = some v := by
  let f : Nat → Value := fun i => (w.cell? ⟨k, o + i, none⟩).getD undef
  refine ⟨(List.range (size ti.ty)).map f, by simp, ⟨by simp [length_flat], fun i c hc => ?_⟩, fun j v hj => ?_⟩
  ·obtain ⟨v, hv, hr⟩ := h i c hc
   have hi : i < size ti.ty := by rw [← length_flat ti.ty x]; exact (List.getElem?_eq_some_iff.1 hc).1
   exact ⟨v, by simp [hi, f, hv], hr⟩
  ·have hj' : j < size ti.ty := by have := (List.getElem?_eq_some_iff.1 hj).1; simpa using this
   have hc : (flat ti.ty x)[j]? = some ((flat ti.ty x)[j]'(by rw [length_flat]; exact hj')) := List.getElem?_eq_getElem _
   obtain ⟨u, hu, _⟩ := h j _ hc
   simp [hj', f, hu] at hj
   rw [hu, hj]
 obtain ⟨vs, hl, hcl, hcell⟩ := hval
 simp only [loadVar, Sem.run_bind, ht.run_isAgg, Result.andThen]
 by_cases ha : GX.isAgg ti.ty = true
 ·rw [ha]
  simp only [if_true, Sem.run_bind, ht.run_sizeOf, Result.andThen, loadCells]
  have := run_loadCells_list (P := P) w ⟨k, o, none⟩ vs (fun j v hj => by rw [add_off]; exact hcell j v hj)
  rw [hl] at this
  simp only [loadCells] at this
  rw [this]
  exact ⟨_, rfl, V1_of_cells (by simpa using hcl) ha⟩
 ·rw [Bool.not_eq_true] at ha
  rw [ha]
  simp only [Bool.false_eq_true, if_false]
  have h1 : size ti.ty = 1 := by
   have := ht.tup
   revert ha this
   cases ti.ty <;> simp [GX.isAgg, isTup, size]
  match vs, hl with
  | [v], _ =>
   have hv := hcell 0 v rfl
   simp only [Nat.add_zero] at hv
   refine ⟨v, by simp [Go.load, Sem.run, hv], ?_⟩
   unfold V1
   rw [if_neg (by simp [ha])]
   have hlen := hcl.1
   match hf : flat ti.ty x, hlen with
   | [c], _ =>
    rw [hf] at hcl
    obtain ⟨v', hv', hr⟩ := hcl.2 0 c rfl
    simp at hv'; subst hv'
    exact ⟨c, rfl, hr⟩
   | [], hlen => simp at hlen
   | _ :: _ :: _, hlen => simp at hlen
  | [], hl => rw [h1] at hl; simp at hl
  | _ :: _ :: _, hl => rw [h1] at hl; simp at hl
theorem run_storeVar {P : Program} {Θ : Tab} {t : Nat} {ti : TI} (ht : TIOK P Θ t ti) {φ : Phi} {w : World} {k o : Nat} {x : ti.ty.den} {v : Value} {cs : Array Value} {el : TypeId}
 (hv : V1 φ ti.ty x v) (hk : w.heap[k]? = some (.cells cs el (0, 0))) (ho : o + size ti.ty ≤ cs.size) :
 (storeVar t ⟨k, o, none⟩ v).run P w = .ok () (w.setRow k (cs.toList.take o ++ v.cells.toList ++ cs.toList.drop (o + size ti.ty)).toArray) := by
 have hc := V1_cells hv
 have hs : v.cells.size = size ti.ty := by have := hc.1; rw [length_flat] at this; simpa using this
 have hst := run_storeCells_at k o el v.cells.toList 0 cs w hk (by simpa [hs] using ho) (fun u hu => by
  obtain ⟨i, hi⟩ := List.getElem?_of_mem hu
  obtain ⟨c, _, hr⟩ := CL_get hc hi
  exact CR_one hr) (P := P)
 simp only [Nat.add_zero, Array.length_toList, hs] at hst
 simp only [storeVar, Sem.run_bind, ht.run_sizeOf, Result.andThen, hs, ne_eq, not_true_eq_false, if_false]
 exact hst
end Go.GX

namespace Go.GX
set_option linter.unusedSimpArgs false
set_option linter.unusedVariables false
open Go.RowKit (Below)
def eqC : Ty → Bool
 | .bool | .int _ | .str | .unit => true
 | .pair a b => eqC a && eqC b
 | .arr _ e => eqC e
 | _ => false
def hgt : Ty → Nat
 | .pair a b => max (hgt a + 1) (hgt b)
 | .arr _ e => hgt e + 1
 | _ => 0
def eqb : (t : Ty) → t.den → t.den → Bool
 | .bool, a, b => a == b
 | .int _, a, b => decide (a = b)
 | .str, a, b => a == b
 | .pair a b, x, y => eqb a x.1 y.1 && eqb b x.2 y.2
 | .arr n e, x, y => (List.range n).all fun i => eqb e (x.getD i (dflt e)) (y.getD i (dflt e))
 | _, _, _ => true
theorem bytes_toList (a : ByteArray) : a.toList = a.data.toList := by
 exact ByteArray.toList_eq a
theorem ba_beq (x y : List UInt8) : ((⟨x.toArray⟩ : ByteArray) == ⟨y.toArray⟩) = (x == y) := by
 show (x.toArray == y.toArray) = (x == y)
 simp
theorem run_part {P : Program} {Θ : Tab} {t : Nat} {ti : TI} (ht : TIOK P Θ t ti) {φ : Phi} {cs : Array Value} {o : Nat} {x : ti.ty.den}
 (h : ∀ (i : Nat) c, (flat ti.ty x)[i]? = some c → ∃ v, cs[o + i]? = some v ∧ CR φ c v) (w : World) :
 ∃ v, (part t cs o).run P w = .ok v w ∧ V1 φ ti.ty x v := by
 simp only [part, Sem.run_bind, ht.run_isAgg, Result.andThen]
 by_cases ha : GX.isAgg ti.ty = true
 ·rw [ha]
  simp only [if_true, Sem.run_bind, ht.run_sizeOf, Result.andThen]
  refine ⟨_, rfl, V1_of_cells ⟨?_, fun i c hc => ?_⟩ ha⟩
  ·rw [length_flat]
   have hle : o + size ti.ty ≤ cs.size ∨ size ti.ty = 0 := by
    rcases Nat.eq_zero_or_pos (size ti.ty) with h0 | h0
    ·exact .inr h0
    ·left
     obtain ⟨v, hv, _⟩ := h (size ti.ty - 1) _ (List.getElem?_eq_getElem (by rw [length_flat]; omega))
     have := (Array.getElem?_eq_some_iff.1 hv).1
     omega
   simp
   omega
  ·obtain ⟨v, hv, hr⟩ := h i c hc
   have hi : i < size ti.ty := by rw [← length_flat ti.ty x]; exact (List.getElem?_eq_some_iff.1 hc).1
   refine ⟨v, ?_, hr⟩
   rw [Array.getElem?_toList, Array.getElem?_extract, if_pos (by have := (Array.getElem?_eq_some_iff.1 hv).1; omega)]
   exact hv
 ·rw [Bool.not_eq_true] at ha
  rw [ha]
  have h1 : size ti.ty = 1 := by
   have := ht.tup
   revert ha this
   cases ti.ty <;> simp [GX.isAgg, isTup, size]
  have hlen := length_flat ti.ty x
  rw [h1] at hlen
  match hf : flat ti.ty x, hlen with
  | [c], _ =>
   obtain ⟨v, hv, hr⟩ := h 0 c (by rw [hf]; rfl)
   simp only [Nat.add_zero] at hv
   simp only [Bool.false_eq_true, if_false, hv]
   refine ⟨v, rfl, ?_⟩
   unfold V1
   rw [if_neg (by simp [ha])]
   exact ⟨c, hf, hr⟩
  | [], hlen => simp at hlen
  | _ :: _ :: _, hlen => simp at hlen
theorem V1_bool {φ : Phi} {b : Bool} {v : Value} (h : V1 φ .bool b v) : v = .bool b := by
 simp only [V1, GX.isAgg, flat] at h; obtain ⟨c, hc, hr⟩ := h; cases hc; exact hr
theorem V1_int {φ : Phi} {k : IntKind} {n : Int} {v : Value} (h : V1 φ (.int k) n v) : v = .int k n := by
 simp only [V1, GX.isAgg, flat] at h; obtain ⟨c, hc, hr⟩ := h; cases hc; exact hr
theorem V1_str {φ : Phi} {s : List UInt8} {v : Value} (h : V1 φ .str s v) : v = .string ⟨s.toArray⟩ := by
 simp only [V1, GX.isAgg, flat] at h; obtain ⟨c, hc, hr⟩ := h; cases hc; exact hr
theorem V1_agg {φ : Phi} {t : Ty} {x : t.den} {v : Value} (ha : GX.isAgg t = true) (h : V1 φ t x v) : ∃ l, v = .agg l ∧ CL φ (flat t x) l.toList := by
 unfold V1 at h; rwa [if_pos ha] at h
def eqBody (d : Nat) (xs ys : Array Value) (f : Field) : Sem (ForInStep (Option Bool × Unit)) :=
 if f.name ≠ "_" then do
  let a ← part f.type xs f.offset
  let b ← part f.type ys f.offset
  let r ← Op.equalIn d f.type a b
  if (!r) = true then pure (.done (some false, ())) else pure (.yield (none, ()))
 else pure (.yield (none, ()))
theorem run_eqFields {P : Program} {Θ : Tab} {φ : Phi} {d : Nat} {w : World} {xs ys : Array Value}
 (ih : ∀ (t : Nat) (ti : TI) (x y : ti.ty.den) (u v : Value), TIOK P Θ t ti → ti.cmp = true → eqC ti.ty = true → hgt ti.ty < d → V1 φ ti.ty x u → V1 φ ti.ty y v → (Op.equalIn d t u v).run P w = .ok (eqb ti.ty x y) w)
 (hΘ : TabOK P Θ) : ∀ (fs : List Field) (ty : Ty) (off : Nat) (x y : ty.den), structOK Θ ty off fs = true → cmpFields Θ fs = true → eqC ty = true → hgt ty ≤ d →
  (∀ (i : Nat) c, (flat ty x)[i]? = some c → ∃ v, xs[off + i]? = some v ∧ CR φ c v) → (∀ (i : Nat) c, (flat ty y)[i]? = some c → ∃ v, ys[off + i]? = some v ∧ CR φ c v) →
  (forIn fs (none, ()) (fun f _ => eqBody d xs ys f) : Sem _).run P w = .ok (if eqb ty x y then (none, ()) else (some false, ())) w
 | [], ty, off, x, y, hs, _, _, _, _, _ => by
  cases ty <;> simp [structOK] at hs
  rfl
 | f :: fs, ty, off, x, y, hs, hc, he, hh, hx, hy => by
  cases ty <;> simp only [structOK] at hs <;> try (cases hs)
  rename_i a b
  simp only [Bool.and_eq_true] at hs
  obtain ⟨⟨h1, h2⟩, h3⟩ := hs
  have h1 := Nat.eq_of_beq_eq_true h1
  split at h2
  ·rename_i tf htf
   simp only [Bool.and_eq_true, decide_eq_true_eq, Bool.not_eq_true'] at h2
   obtain ⟨h2, h2'⟩ := h2
   have h2 := fldOK_ne h2 (fun e => by subst e; simp [eqC] at he)
   subst h2
   simp only [cmpFields, List.all_cons, Bool.and_eq_true, decide_eq_true_eq, htf] at hc
   simp only [eqC, Bool.and_eq_true] at he
   simp only [hgt] at hh
   have hT := hΘ.get htf
   obtain ⟨u, hu, hu'⟩ := run_part hT (x := x.1) (o := off) (fun i c hi => hx i c (by rw [flat, List.getElem?_append_left (List.getElem?_eq_some_iff.1 hi).1]; exact hi)) w
   obtain ⟨v, hv, hv'⟩ := run_part hT (x := y.1) (o := off) (fun i c hi => hy i c (by rw [flat, List.getElem?_append_left (List.getElem?_eq_some_iff.1 hi).1]; exact hi)) w
   have hq := ih f.type tf x.1 y.1 u v hT hc.1.2 he.1 (by omega) hu' hv'
   rw [List.forIn_cons]
   simp only [eqBody, hc.1.1, ne_eq, not_false_eq_true, if_true, Sem.run_bind, h1, hu, hv, hq, Result.andThen]
   cases hb : eqb tf.ty x.1 y.1
   ·simp [eqb, hb, Sem.run, pure]
   ·have := run_eqFields ih hΘ fs b (off + size tf.ty) x.2 y.2 h3 hc.2 he.2 (by omega)
     (fun i c hi => by rw [Nat.add_assoc]; exact hx _ c (by rw [flat, List.getElem?_append_right (by rw [length_flat]; omega), length_flat, Nat.add_sub_cancel_left]; exact hi))
     (fun i c hi => by rw [Nat.add_assoc]; exact hy _ c (by rw [flat, List.getElem?_append_right (by rw [length_flat]; omega), length_flat, Nat.add_sub_cancel_left]; exact hi))
    simp only [Bool.not_true, Bool.false_eq_true, if_false, Sem.run_pure, Result.andThen]
    rw [show eqb (tf.ty.pair b) x y = eqb b x.2 y.2 from by simp [eqb, hb]]
    exact this
  ·cases h2
theorem run_eqArr {P : Program} {Θ : Tab} {φ : Phi} {n d e : Nat} {te : TI} {w : World} {xs ys : Array Value} (hT : TIOK P Θ e te) {x y : List te.ty.den}
 (ih : ∀ (x y : te.ty.den) (u v : Value), V1 φ te.ty x u → V1 φ te.ty y v → (Op.equalIn d e u v).run P w = .ok (eqb te.ty x y) w)
 (hx : ∀ i, i < n → ∀ (j : Nat) c, (flat te.ty (x.getD i (dflt te.ty)))[j]? = some c → ∃ v, xs[i * size te.ty + j]? = some v ∧ CR φ c v)
 (hy : ∀ i, i < n → ∀ (j : Nat) c, (flat te.ty (y.getD i (dflt te.ty)))[j]? = some c → ∃ v, ys[i * size te.ty + j]? = some v ∧ CR φ c v) :
 ∀ (l : List Nat), (∀ i ∈ l, i < n) → (forIn l ((none, ()) : Option Bool × Unit) (fun i _ => do
  let a ← part e xs (i * size te.ty)
  let b ← part e ys (i * size te.ty)
  let r ← Op.equalIn d e a b
  if (!r) = true then pure (.done (some false, ())) else pure (.yield (none, ()))) : Sem _).run P w
  = .ok (if l.all (fun i => eqb te.ty (x.getD i (dflt te.ty)) (y.getD i (dflt te.ty))) then (none, ()) else (some false, ())) w
 | [], _ => rfl
 | i :: l, hl => by
  obtain ⟨u, hu, hu'⟩ := run_part hT (hx i (hl i (by simp))) w
  obtain ⟨v, hv, hv'⟩ := run_part hT (hy i (hl i (by simp))) w
  have hq := ih _ _ u v hu' hv'
  rw [List.forIn_cons]
  simp only [Sem.run_bind, hu, hv, hq, Result.andThen]
  cases hb : eqb te.ty (x.getD i (dflt te.ty)) (y.getD i (dflt te.ty))
  ·simp only [List.all_cons, hb, Bool.false_and, Bool.not_false, if_true, Bool.false_eq_true, if_false]; rfl
  ·have := run_eqArr hT ih hx hy l (fun i hi => hl i (by simp [hi]))
   simp only [Bool.not_true, Bool.false_eq_true, if_false, Sem.run_pure, Result.andThen]
   rw [this]
   simp only [List.all_cons, hb, Bool.true_and]
theorem run_equalIn {P : Program} {Θ : Tab} (hΘ : TabOK P Θ) {φ : Phi} {w : World} : ∀ (d : Nat) (t : Nat) (ti : TI) (x y : ti.ty.den) (u v : Value),
 TIOK P Θ t ti → ti.cmp = true → eqC ti.ty = true → hgt ti.ty < d → V1 φ ti.ty x u → V1 φ ti.ty y v → (Op.equalIn d t u v).run P w = .ok (eqb ti.ty x y) w
 | 0, _, _, _, _, _, _, _, _, _, h, _, _ => by omega
 | d + 1, t, ⟨ty, by_, sub, cmp⟩, x, y, u, v, ht, hc, he, hh, hu, hv => by
  obtain ⟨dd, hd, hdu, hr⟩ := ht.run_underlying
  have hcmp := ht.cmp
  simp only at hc
  subst hc
  simp only at x y he hh hu hv
  cases dd with
  | bool =>
   simp only [descOK, decide_eq_true_eq] at hd; subst hd
   rw [V1_bool hu, V1_bool hv]
   simp only [Op.equalIn, Sem.run_bind, hr, Result.andThen]; rfl
  | int k =>
   simp only [descOK, decide_eq_true_eq] at hd; subst hd
   rw [V1_int hu, V1_int hv]
   simp only [Op.equalIn, Sem.run_bind, hr, Result.andThen, if_true]; rfl
  | string =>
   simp only [descOK, decide_eq_true_eq] at hd; subst hd
   rw [V1_str hu, V1_str hv]
   simp only [Op.equalIn, Sem.run_bind, hr, Result.andThen]
   exact congrArg (fun b => Result.ok b w) (ba_beq x y)
  | struct fs =>
   have hag := structOK_agg (by simp only [descOK, Bool.and_eq_true] at hd; exact hd.2.1)
   obtain ⟨lx, rfl, hlx⟩ := V1_agg hag hu
   obtain ⟨ly, rfl, hly⟩ := V1_agg hag hv
   simp only [descOK, Bool.and_eq_true, decide_eq_true_eq, Bool.not_true, Bool.false_or] at hd
   have hst : P.stoodInHeld t = false := by
    simp only [cmpOK, Bool.not_true, Bool.false_or, Bool.and_eq_true, hdu] at hcmp
    simpa using hcmp.2
   have key := run_eqFields (P := P) (Θ := Θ) (φ := φ) (d := d) (w := w) (xs := lx) (ys := ly) (fun t ti x y u v h1 h2 h3 h4 h5 h6 => run_equalIn hΘ d t ti x y u v h1 h2 h3 h4 h5 h6) hΘ fs.toList ty 0 x y hd.2.1 hd.2.2 he (by omega)
    (fun i c hi => by simpa using hlx.2 i c hi) (fun i c hi => by simpa using hly.2 i c hi)
   rw [Array.forIn_toList] at key
   simp only [Op.equalIn, Sem.run_bind, hr, Result.andThen, run_program, hst, Bool.false_eq_true, if_false]
   unfold eqBody at key
   rw [key]
   cases eqb ty x y <;> rfl
  | array n e =>
   simp only [descOK, Bool.and_eq_true, decide_eq_true_eq] at hd
   obtain ⟨_, hd⟩ := hd
   split at hd
   ·rename_i te hte
    simp only [Bool.and_eq_true, decide_eq_true_eq, Bool.not_eq_true', Bool.not_true, Bool.false_or] at hd
    obtain ⟨hty, htt, hcc⟩ := hd
    subst hty
    have hT := hΘ.get hte
    obtain ⟨lx, rfl, hlx⟩ := V1_agg rfl hu
    obtain ⟨ly, rfl, hly⟩ := V1_agg rfl hv
    have hget : ∀ (l : List te.ty.den) (la : Array Value), CL φ (flat (.arr n te.ty) l) la.toList → ∀ i, i < n → ∀ (j : Nat) c, (flat te.ty (l.getD i (dflt te.ty)))[j]? = some c → ∃ v, la[i * size te.ty + j]? = some v ∧ CR φ c v := by
     intro l la hl i hi j c hj
     have hjs : j < size te.ty := by rw [← length_flat te.ty (l.getD i (dflt te.ty))]; exact (List.getElem?_eq_some_iff.1 hj).1
     have := hl.2 (i * size te.ty + j) c (by rw [flat, get_flatMap_const _ (size te.ty) (fun i => length_flat te.ty _) n i j hi hjs]; exact hj)
     simpa using this
    have key := run_eqArr (n := n) (d := d) (w := w) hT (x := x) (y := y) (xs := lx) (ys := ly) (fun x y u v h1 h2 => run_equalIn hΘ d e te x y u v hT hcc (by simpa [eqC] using he) (by simp [hgt] at hh; omega) h1 h2)
     (hget x lx hlx) (hget y ly hly) (List.range n) (fun i hi => by simpa using hi)
    simp only [Op.equalIn, Sem.run_bind, hr, Result.andThen, hT.run_sizeOf]
    rw [Std.Legacy.Range.forIn_eq_forIn_range']
    rw [show List.range' 0 (Std.Legacy.Range.size [:n]) 1 = List.range n from by simp [Std.Legacy.Range.size, List.range_eq_range']]
    rw [key]
    simp only [eqb]
    cases (List.range n).all (fun i => eqb te.ty (x.getD i (dflt te.ty)) (y.getD i (dflt te.ty))) <;> rfl
   ·cases hd
  | pointer _ | map _ _ => simp only [descOK, Bool.and_eq_true, decide_eq_true_eq] at hd; rw [hd.1] at he; simp [eqC] at he
  | slice _ =>
   simp only [descOK, Bool.and_eq_true, decide_eq_true_eq] at hd
   have hd := hd.1
   exfalso; revert hd he; cases ty <;> simp [slT, eqC]
  | func _ _ _ | interface _ => simp only [descOK, Bool.and_eq_true, decide_eq_true_eq] at hd; rw [hd] at he; simp [eqC] at he
  | _ => simp [descOK] at hd
end Go.GX

namespace Go.GX
set_option linter.unusedSimpArgs false
set_option linter.unusedVariables false
open Go.RowKit (Below)
abbrev TM := Tr (V × Bool)
def cst : Value → Option V
 | .bool b => some ⟨.bool, b⟩
 | .int k n => some ⟨.int k, n⟩
 | .string s => some ⟨.str, s.data.toList⟩
 | .pointer none => some ⟨.ptr, none⟩
 | .slice none 0 0 => some ⟨.slice, none⟩
 | .map none => some ⟨.map, none⟩
 | .nilFunc => some ⟨.func, FV.nil⟩
 | .nilIface => some ⟨.iface, IV.nil⟩
 | _ => none
def rd (tm : TM) : Operand → Option (V × Bool)
 | .tmp t => tm.get t
 | .const v => (cst v).map fun x => (x, true)
 | .func f => some (⟨.func, FV.fn f [] []⟩, true)
 | .global _ => none
def asT (t : Ty) (v : V) : Option t.den := if h : v.t = t then some (h ▸ v.x) else none
theorem asT_eq {t : Ty} {v : V} {x : t.den} (h : asT t v = some x) : v = ⟨t, x⟩ := by
 unfold asT at h
 split at h
 ·rename_i e
  obtain ⟨t', x'⟩ := v
  simp only at e
  subst e
  cases h; rfl
 ·cases h
def asI (v : V) : Option (IntKind × Int) := match v with | ⟨.int k, n⟩ => some (k, n) | _ => none
theorem asI_eq {v : V} {k : IntKind} {n : Int} (h : asI v = some (k, n)) : v = ⟨.int k, n⟩ := by
 obtain ⟨t, x⟩ := v
 cases t <;> simp [asI] at h
 obtain ⟨rfl, rfl⟩ := h; rfl
def TmR (φ : Phi) (tm : TM) (tmps : Array Value) : Prop := ∀ s v c, tm.get s = some (v, c) → (c = true → VR φ v (tmps.getD s undef)) ∧ (c = false → tmps.getD s undef = undef)
theorem VR_of_V1 {φ : Phi} {t : Ty} {x : t.den} {v : Value} (ht : isTup t = false) (h : V1 φ t x v) : VR φ ⟨t, x⟩ v := by
 unfold VR; rw [if_neg (by simp [ht])]; exact h
theorem V1_of_VR {φ : Phi} {t : Ty} {x : t.den} {v : Value} (ht : isTup t = false) (h : VR φ ⟨t, x⟩ v) : V1 φ t x v := by
 unfold VR at h; rwa [if_neg (by simp [ht])] at h
theorem VR_cell {φ : Phi} {t : Ty} {x : t.den} {v : Value} {c : Cell} (ht : isTup t = false) (ha : GX.isAgg t = false) (hf : flat t x = [c]) (h : CR φ c v) : VR φ ⟨t, x⟩ v :=
 VR_of_V1 ht (by unfold V1; rw [if_neg (by simp [ha])]; exact ⟨c, hf, h⟩)
theorem cell_of_VR {φ : Phi} {t : Ty} {x : t.den} {v : Value} {c : Cell} (ht : isTup t = false) (ha : GX.isAgg t = false) (hf : flat t x = [c]) (h : VR φ ⟨t, x⟩ v) : CR φ c v := by
 have := V1_of_VR ht h
 unfold V1 at this
 rw [if_neg (by simp [ha])] at this
 obtain ⟨c', hc, hr⟩ := this
 rw [hf] at hc; cases hc; exact hr
theorem VR_bool {φ : Phi} {b : Bool} {v : Value} : VR φ ⟨.bool, b⟩ v ↔ v = .bool b := ⟨fun h => cell_of_VR (t := .bool) rfl rfl rfl h, fun h => VR_cell (t := .bool) rfl rfl rfl h⟩
theorem VR_int {φ : Phi} {k : IntKind} {n : Int} {v : Value} : VR φ ⟨.int k, n⟩ v ↔ v = .int k n := ⟨fun h => cell_of_VR (t := .int k) rfl rfl rfl h, fun h => VR_cell (t := .int k) rfl rfl rfl h⟩
theorem VR_str {φ : Phi} {s : List UInt8} {v : Value} : VR φ ⟨.str, s⟩ v ↔ v = .string ⟨s.toArray⟩ := ⟨fun h => cell_of_VR (t := .str) rfl rfl rfl h, fun h => VR_cell (t := .str) rfl rfl rfl h⟩
theorem VR_nilptr {φ : Phi} {v : Value} : VR φ ⟨.ptr, none⟩ v ↔ v = .pointer none := ⟨fun h => cell_of_VR (t := .ptr) rfl rfl rfl h, fun h => VR_cell (t := .ptr) rfl rfl rfl h⟩
theorem VR_ptr {φ : Phi} {p : PA} {v : Value} : VR φ ⟨.ptr, some p⟩ v ↔ ∃ a, addr φ p = some a ∧ v = .pointer (some a) := ⟨fun h => cell_of_VR (t := .ptr) rfl rfl rfl h, fun h => VR_cell (t := .ptr) rfl rfl rfl h⟩
theorem VR_nilslice {φ : Phi} {v : Value} : VR φ ⟨.slice, none⟩ v ↔ v = .slice none 0 0 := ⟨fun h => cell_of_VR (t := .slice) rfl rfl rfl h, fun h => VR_cell (t := .slice) rfl rfl rfl h⟩
theorem VR_slice {φ : Phi} {s : SL} {v : Value} : VR φ ⟨.slice, some s⟩ v ↔ SR φ s v := ⟨fun h => cell_of_VR (t := .slice) rfl rfl rfl h, fun h => VR_cell (t := .slice) rfl rfl rfl h⟩
theorem VR_nilmap {φ : Phi} {v : Value} : VR φ ⟨.map, none⟩ v ↔ v = .map none := ⟨fun h => cell_of_VR (t := .map) rfl rfl rfl h, fun h => VR_cell (t := .map) rfl rfl rfl h⟩
theorem VR_nilfunc {φ : Phi} {v : Value} : VR φ ⟨.func, FV.nil⟩ v ↔ v = .nilFunc := ⟨fun h => cell_of_VR (t := .func) rfl rfl rfl h, fun h => VR_cell (t := .func) rfl rfl rfl h⟩
theorem VR_func {φ : Phi} {f : Nat} {a b : List (Ty × List Cell0)} {v : Value} : VR φ ⟨.func, FV.fn f a b⟩ v ↔ ∃ x y : Array Value, v = .func (.func f) x y ∧ VL0 φ a x.toList ∧ VL0 φ b y.toList := ⟨fun h => cell_of_VR (t := .func) rfl rfl rfl h, fun h => VR_cell (t := .func) rfl rfl rfl h⟩
theorem VR_niliface {φ : Phi} {v : Value} : VR φ ⟨.iface, IV.nil⟩ v ↔ v = .nilIface := ⟨fun h => cell_of_VR (t := .iface) rfl rfl rfl h, fun h => VR_cell (t := .iface) rfl rfl rfl h⟩
theorem cst_ok {φ : Phi} {v : Value} {x : V} (h : cst v = some x) : VR φ x v := by
 unfold cst at h
 split at h <;> cases h
 ·exact VR_bool.2 rfl
 ·exact VR_int.2 rfl
 ·rename_i s; exact VR_str.2 (by cases s; simp)
 ·exact VR_nilptr.2 rfl
 ·exact VR_nilslice.2 rfl
 ·exact VR_nilmap.2 rfl
 ·exact VR_nilfunc.2 rfl
 ·exact VR_niliface.2 rfl
theorem rd_ok {φ : Phi} {tm : TM} {a : Act} (h : TmR φ tm a.tmps) {x : Operand} {v : V} (hr : rd tm x = some (v, true)) : VR φ v (a.eval x) := by
 unfold rd at hr
 split at hr
 ·exact (h _ _ _ hr).1 rfl
 ·simp only [Option.map_eq_some_iff] at hr
  obtain ⟨y, hy, he⟩ := hr
  cases he
  exact cst_ok hy
 ·cases hr; exact VR_func.2 ⟨#[], #[], rfl, ⟨rfl, fun i c h => by simp at h⟩, ⟨rfl, fun i c h => by simp at h⟩⟩
 ·cases hr
def iand (k : IntKind) (x y : Int) : Int := k.wrap (BitVec.ofInt k.bits x &&& BitVec.ofInt k.bits y).toNat
def ior (k : IntKind) (x y : Int) : Int := k.wrap (BitVec.ofInt k.bits x ||| BitVec.ofInt k.bits y).toNat
def ixor (k : IntKind) (x y : Int) : Int := k.wrap (BitVec.ofInt k.bits x ^^^ BitVec.ofInt k.bits y).toNat
def iandn (k : IntKind) (x y : Int) : Int := k.wrap (BitVec.ofInt k.bits x &&& ~~~BitVec.ofInt k.bits y).toNat
def ishl (k : IntKind) (x y : Int) : Int := k.wrap (x * 2 ^ (min y.toNat k.bits))
def ishr (k : IntKind) (x y : Int) : Int := x.fdiv (2 ^ (min y.toNat k.bits))
def binI (op : BinOp) (k : IntKind) (x y : Int) : Option (V × Bool) :=
 match op with
 | .add => some (⟨.int k, k.wrap (x + y)⟩, true)
 | .sub => some (⟨.int k, k.wrap (x - y)⟩, true)
 | .mul => some (⟨.int k, k.wrap (x * y)⟩, true)
 | .quo => some (⟨.int k, k.wrap (x.tdiv y)⟩, !decide (y = 0))
 | .rem => some (⟨.int k, x.tmod y⟩, !decide (y = 0))
 | .and => some (⟨.int k, iand k x y⟩, true)
 | .or => some (⟨.int k, ior k x y⟩, true)
 | .xor => some (⟨.int k, ixor k x y⟩, true)
 | .andNot => some (⟨.int k, iandn k x y⟩, true)
 | .eql => some (⟨.bool, decide (x = y)⟩, true)
 | .neq => some (⟨.bool, !decide (x = y)⟩, true)
 | .lss => some (⟨.bool, decide (x < y)⟩, true)
 | .leq => some (⟨.bool, decide (x ≤ y)⟩, true)
 | .gtr => some (⟨.bool, decide (x > y)⟩, true)
 | .geq => some (⟨.bool, decide (x ≥ y)⟩, true)
 | _ => none
def shI (op : BinOp) (k : IntKind) (x y : Int) : Option (V × Bool) :=
 match op with
 | .shl => some (⟨.int k, ishl k x y⟩, decide (0 ≤ y))
 | .shr => some (⟨.int k, ishr k x y⟩, decide (0 ≤ y))
 | _ => none
def binS (op : BinOp) (x y : List UInt8) : Option (V × Bool) :=
 match op with
 | .add => some (⟨.str, x ++ y⟩, decide (x.length + y.length ≤ 9223372036854775807))
 | .eql => some (⟨.bool, x == y⟩, true)
 | .neq => some (⟨.bool, !(x == y)⟩, true)
 | .lss => some (⟨.bool, Op.bytesLess x y⟩, true)
 | .leq => some (⟨.bool, Op.bytesLess x y || x == y⟩, true)
 | .gtr => some (⟨.bool, !(Op.bytesLess x y || x == y)⟩, true)
 | .geq => some (⟨.bool, !Op.bytesLess x y⟩, true)
 | _ => none
def isShift : BinOp → Bool
 | .shl | .shr => true
 | _ => false
def isEq : BinOp → Option Bool
 | .eql => some true
 | .neq => some false
 | _ => none
def binX (Θ : Tab) (op : BinOp) (t : Nat) (x y : V) : Option (V × Bool) :=
 match x, y with
 | ⟨.int k, a⟩, ⟨.int k', b⟩ => bif isShift op then shI op k a b else if k = k' then binI op k a b else none
 | ⟨.str, a⟩, ⟨.str, b⟩ => binS op a b
 | ⟨.ptr, none⟩, ⟨.ptr, b⟩ => match isEq op, Θ t with | some e, some ti => bif decide (ti.ty = .ptr) then some (⟨.bool, bif e then b.isNone else !b.isNone⟩, true) else none | _, _ => none
 | ⟨.ptr, some _⟩, ⟨.ptr, none⟩ => match isEq op, Θ t with | some e, some ti => bif decide (ti.ty = .ptr) then some (⟨.bool, bif e then false else true⟩, true) else none | _, _ => none
 | ⟨.slice, a⟩, ⟨.slice, none⟩ => match isEq op, Θ t with | some e, some ti => bif decide (slT ti.ty = .slice) then some (⟨.bool, bif e then a.isNone else !a.isNone⟩, match a with | some s => s.cap.isSome || decide (0 < s.len) | none => true) else none | _, _ => none
 | x, y => match isEq op, Θ t with
  | some e, some ti => bif ti.cmp && (eqC ti.ty && (Nat.blt (hgt ti.ty) 60 && (GX.isAgg ti.ty || decide (ti.ty = .bool)))) then
   (match asT ti.ty x, asT ti.ty y with | some a, some b => some (⟨.bool, bif e then eqb ti.ty a b else !eqb ti.ty a b⟩, true) | _, _ => none) else none
  | _, _ => none
def unX (op : UnOp) (x : V) : Option (V × Bool) :=
 match op, x with
 | .neg, ⟨.int k, n⟩ => some (⟨.int k, k.wrap (0 - n)⟩, true)
 | .xor, ⟨.int k, n⟩ => some (⟨.int k, ixor k (if k.signed then -1 else k.max) n⟩, true)
 | .not, ⟨.bool, b⟩ => some (⟨.bool, !b⟩, true)
 | _, _ => none
theorem binI_ok {P : Program} {t : Nat} {op : BinOp} {k : IntKind} {x y : Int} {v : V} (hns : isShift op = false) (h : binI op k x y = some (v, true)) (w : World) :
 ∃ u, (binOp op t (.int k x) (.int k y)).run P w = .ok u w ∧ ∀ φ, VR φ v u := by
 cases op <;> simp [isShift] at hns <;> simp only [binI] at h
 case quo =>
  simp only [Option.some.injEq, Prod.mk.injEq, Bool.not_eq_true', decide_eq_false_iff_not] at h
  obtain ⟨rfl, h⟩ := h
  exact ⟨_, by simp only [binOp, ne_eq, not_true_eq_false, if_false, Op.intDiv]; rw [if_neg h]; rfl, fun φ => VR_int.2 rfl⟩
 case rem =>
  simp only [Option.some.injEq, Prod.mk.injEq, Bool.not_eq_true', decide_eq_false_iff_not] at h
  obtain ⟨rfl, h⟩ := h
  exact ⟨_, by simp only [binOp, ne_eq, not_true_eq_false, if_false, Op.intDiv]; rw [if_neg h]; rfl, fun φ => VR_int.2 rfl⟩
 all_goals first
  | (cases h; exact ⟨_, by simp only [binOp, ne_eq, not_true_eq_false, if_false]; rfl, fun φ => VR_int.2 rfl⟩)
  | (cases h; exact ⟨_, by simp only [binOp, ne_eq, not_true_eq_false, if_false]; rfl, fun φ => VR_bool.2 rfl⟩)
theorem shI_ok {P : Program} {t : Nat} {op : BinOp} {k k' : IntKind} {x y : Int} {v : V} (h : shI op k x y = some (v, true)) (w : World) :
 ∃ u, (binOp op t (.int k x) (.int k' y)).run P w = .ok u w ∧ ∀ φ, VR φ v u := by
 cases op <;> simp only [shI] at h <;> try (cases h; done)
 all_goals
  simp only [Option.some.injEq, Prod.mk.injEq, decide_eq_true_eq] at h
  obtain ⟨rfl, h⟩ := h
  exact ⟨_, by simp only [binOp, Op.shift]; rw [if_neg (by omega)]; rfl, fun φ => VR_int.2 rfl⟩
theorem binS_ok {P : Program} {t : Nat} {op : BinOp} {x y : List UInt8} {v : V} (h : binS op x y = some (v, true)) (w : World) :
 ∃ u, (binOp op t (.string ⟨x.toArray⟩) (.string ⟨y.toArray⟩)).run P w = .ok u w ∧ ∀ φ, VR φ v u := by
 have e1 : (⟨x.toArray⟩ : ByteArray).toList = x := by rw [bytes_toList]
 have e2 : (⟨y.toArray⟩ : ByteArray).toList = y := by rw [bytes_toList]
 cases op <;> simp only [binS] at h <;> try (cases h; done)
 case add =>
  simp only [Option.some.injEq, Prod.mk.injEq, decide_eq_true_eq] at h
  obtain ⟨rfl, h⟩ := h
  have hs : ¬ (((⟨x.toArray⟩ : ByteArray).size + (⟨y.toArray⟩ : ByteArray).size : Nat) : Int) > IntKind.i64.max := by
   show ¬ ((x.toArray.size + y.toArray.size : Nat) : Int) > IntKind.i64.max
   simp only [List.size_toArray]
   simp only [IntKind.max, IntKind.signed, IntKind.bits]
   simp
   omega
  refine ⟨_, by simp only [binOp, Op.stringOp]; rw [if_neg hs]; rfl, fun φ => VR_str.2 ?_⟩
  apply congrArg Value.string
  apply congrArg ByteArray.mk
  show ((⟨x.toArray⟩ : ByteArray) ++ ⟨y.toArray⟩).data = _
  rw [ByteArray.data_append]; simp
 case eql | neq => cases h; exact ⟨_, by simp only [binOp, Op.stringOp, e1, e2]; rfl, fun φ => VR_bool.2 rfl⟩
 case lss | leq | gtr | geq => cases h; exact ⟨_, by simp only [binOp, Op.stringOp, e1, e2]; rfl, fun φ => VR_bool.2 rfl⟩
theorem unX_ok {P : Program} {φ : Phi} {op : UnOp} {x v : V} {u : Value} (hu : VR φ x u) (h : unX op x = some (v, true)) (w : World) :
 ∃ r, (Op.unary op u).run P w = .ok r w ∧ VR φ v r := by
 unfold unX at h
 split at h <;> cases h
 ·rw [VR_int] at hu; subst hu
  exact ⟨_, by simp [Op.unary, Op.intArith]; rfl, VR_int.2 (by simp)⟩
 ·rw [VR_int] at hu; subst hu
  exact ⟨_, rfl, VR_int.2 rfl⟩
 ·rw [VR_bool] at hu; subst hu
  exact ⟨_, rfl, VR_bool.2 rfl⟩
end Go.GX

namespace Go.GX
set_option linter.unusedSimpArgs false
set_option linter.unusedVariables false
open Go.RowKit (Below)
theorem run_eqGuard_other {P : Program} {op : BinOp} {t : Nat} {ox oy : Operand} {a b : Value} (w : World) (h1 : a ≠ .nilIface) (h2 : ∀ l, a ≠ .agg l) :
 (eqGuard op t ox oy a b).run P w = .ok () w := by
 cases op <;> first | rfl | (cases a <;> first | rfl | exact absurd rfl h1 | exact absurd rfl (h2 _))
theorem run_eqGuard_agg {P : Program} {op : BinOp} {t : Nat} {ox oy : Operand} {a b : Array Value} (w : World) (h : P.eqGuardType P.depth t = false) :
 (eqGuard op t ox oy (.agg a) (.agg b)).run P w = .ok () w := by
 cases op <;> first | rfl | (simp [eqGuard, Sem.run_bind, Result.andThen, h])
theorem isEq_spec {op : BinOp} {e : Bool} (h : isEq op = some e) : op = if e then .eql else .neq := by
 cases op <;> simp [isEq] at h <;> subst h <;> rfl
theorem run_binOp_equal {P : Program} {op : BinOp} {e : Bool} (h : isEq op = some e) {t : Nat} {a b : Value} {r : Bool} {w : World}
 (hi : ∀ k n, a ≠ .int k n) (hf : ∀ k n, a ≠ .float k n) (hc : ∀ k n m, a ≠ .complex k n m) (hs : ∀ s, a ≠ .string s) (hr : (Op.equal t a b).run P w = .ok r w) :
 (binOp op t a b).run P w = .ok (.bool (bif e then r else !r)) w := by
 have := isEq_spec h
 subst this
 cases e
 ·have : binOp .neq t a b = (do pure (.bool (!(← Op.equal t a b)))) := by
   cases a <;> first | rfl | exact absurd rfl (hi _ _) | exact absurd rfl (hf _ _) | exact absurd rfl (hc _ _ _) | exact absurd rfl (hs _)
  simp only [Bool.false_eq_true, if_false, this, Sem.run_bind, hr, Result.andThen]; rfl
 ·have : binOp .eql t a b = (do pure (.bool (← Op.equal t a b))) := by
   cases a <;> first | rfl | exact absurd rfl (hi _ _) | exact absurd rfl (hf _ _) | exact absurd rfl (hc _ _ _) | exact absurd rfl (hs _)
  simp only [if_true, this, Sem.run_bind, hr, Result.andThen]; rfl
theorem run_equalIn_nilptr {P : Program} (d : Nat) {t : Nat} {e : Nat} {b : Option Addr} {w : World} (h : P.underlying t = some (.pointer e)) : (Op.equalIn (d + 1) t (.pointer none) (.pointer b)).run P w = .ok b.isNone w := by
 simp only [Op.equalIn, Sem.run_bind, Go.run_underlying h, Result.andThen]; rfl
theorem run_equalIn_ptrnil {P : Program} (d : Nat) {t : Nat} {e : Nat} {a : Addr} {w : World} (h : P.underlying t = some (.pointer e)) : (Op.equalIn (d + 1) t (.pointer (some a)) (.pointer none)).run P w = .ok false w := by
 simp only [Op.equalIn, Sem.run_bind, Go.run_underlying h, Result.andThen]; rfl
theorem run_equalIn_slicenil {P : Program} (d : Nat) {t : Nat} {e : Nat} {a : Option Addr} {l c : Nat} {w : World} (h : P.underlying t = some (.slice e)) : (Op.equalIn (d + 1) t (.slice a l c) (.slice none 0 0)).run P w = .ok a.isNone w := by
 cases a <;> (simp only [Op.equalIn, Sem.run_bind, Go.run_underlying h, Result.andThen]; rfl)
theorem run_equal_nilptr {P : Program} {t : Nat} {e : Nat} {b : Option Addr} {w : World} (h : P.underlying t = some (.pointer e)) : (Op.equal t (.pointer none) (.pointer b)).run P w = .ok b.isNone w := run_equalIn_nilptr 9999 h
theorem run_equal_ptrnil {P : Program} {t : Nat} {e : Nat} {a : Addr} {w : World} (h : P.underlying t = some (.pointer e)) : (Op.equal t (.pointer (some a)) (.pointer none)).run P w = .ok false w := run_equalIn_ptrnil 9999 h
theorem run_equal_slicenil {P : Program} {t : Nat} {e : Nat} {a : Option Addr} {l c : Nat} {w : World} (h : P.underlying t = some (.slice e)) : (Op.equal t (.slice a l c) (.slice none 0 0)).run P w = .ok a.isNone w := run_equalIn_slicenil 9999 h
theorem binX_ok {P : Program} {Θ : Tab} (hΘ : TabOK P Θ) {φ : Phi} {op : BinOp} {t : Nat} {x y r : V} {u v : Value} {ox oy : Operand} (hu : VR φ x u) (hv : VR φ y v)
 (h : binX Θ op t x y = some (r, true)) (w : World) : ∃ z, (do eqGuard op t ox oy u v; binOp op t u v : Sem Value).run P w = .ok z w ∧ VR φ r z := by
 unfold binX at h
 split at h
 ·rename_i k a k' b
  rw [VR_int] at hu hv; subst hu; subst hv
  simp only [Sem.run_bind, run_eqGuard_other (P := P) (op := op) (t := t) (ox := ox) (oy := oy) (b := .int k' b) w (a := .int k a) (by simp) (by simp), Result.andThen]
  cases hs : isShift op
  ·rw [hs] at h
   simp only [cond_false] at h
   split at h
   ·rename_i e; subst e
    obtain ⟨z, hz, hr⟩ := binI_ok (P := P) (t := t) hs h w
    exact ⟨z, hz, hr φ⟩
   ·cases h
  ·rw [hs] at h
   simp only [cond_true] at h
   obtain ⟨z, hz, hr⟩ := shI_ok (P := P) (t := t) (k' := k') h w
   exact ⟨z, hz, hr φ⟩
 ·rename_i a b
  rw [VR_str] at hu hv; subst hu; subst hv
  simp only [Sem.run_bind, run_eqGuard_other (P := P) (op := op) (t := t) (ox := ox) (oy := oy) (b := .string ⟨List.toArray b⟩) w (a := .string ⟨List.toArray a⟩) (by simp) (by simp), Result.andThen]
  obtain ⟨z, hz, hr⟩ := binS_ok (P := P) (t := t) h w
  exact ⟨z, hz, hr φ⟩
 ·rename_i b
  rw [VR_nilptr] at hu; subst hu
  split at h
  ·rename_i e ti he hti
   cases hty : decide (ti.ty = .ptr) <;> rw [hty] at h
   ·cases h
   ·simp only [cond_true, Option.some.injEq, Prod.mk.injEq, and_true] at h
    subst h
    obtain ⟨d, hd, hdu, _⟩ := (hΘ.get hti).run_underlying
    simp only [decide_eq_true_eq] at hty
    have := desc_ptr hd hty
    obtain ⟨el, rfl⟩ := this
    have hb : ∃ b' : Option Addr, v = .pointer b' ∧ b'.isNone = b.isNone := by
     cases b with
     | none => rw [VR_nilptr] at hv; exact ⟨none, hv, rfl⟩
     | some p => obtain ⟨a, _, e⟩ := VR_ptr.1 hv; exact ⟨some a, e, rfl⟩
    obtain ⟨b', rfl, hbb⟩ := hb
    simp only [Sem.run_bind, run_eqGuard_other (P := P) (op := op) (t := t) (ox := ox) (oy := oy) w (a := .pointer none) (by simp) (by simp), Result.andThen]
    rw [run_binOp_equal he (by simp) (by simp) (by simp) (by simp) (run_equal_nilptr hdu)]
    exact ⟨_, rfl, VR_bool.2 (by rw [hbb])⟩
  ·cases h
 ·rename_i p
  obtain ⟨a, _, rfl⟩ := VR_ptr.1 hu
  rw [VR_nilptr] at hv; subst hv
  split at h
  ·rename_i e ti he hti
   cases hty : decide (ti.ty = .ptr) <;> rw [hty] at h
   ·cases h
   ·simp only [cond_true, Option.some.injEq, Prod.mk.injEq, and_true] at h
    subst h
    obtain ⟨d, hd, hdu, _⟩ := (hΘ.get hti).run_underlying
    simp only [decide_eq_true_eq] at hty
    have := desc_ptr hd hty
    obtain ⟨el, rfl⟩ := this
    simp only [Sem.run_bind, run_eqGuard_other (P := P) (op := op) (t := t) (ox := ox) (oy := oy) w (a := .pointer (some a)) (by simp) (by simp), Result.andThen]
    rw [run_binOp_equal he (by simp) (by simp) (by simp) (by simp) (run_equal_ptrnil hdu)]
    exact ⟨_, rfl, VR_bool.2 (by cases e <;> rfl)⟩
  ·cases h
 ·rename_i a
  rw [VR_nilslice] at hv; subst hv
  split at h
  ·rename_i e ti he hti
   cases hty : decide (slT ti.ty = .slice) <;> rw [hty] at h
   ·cases h
   ·simp only [cond_true, Option.some.injEq, Prod.mk.injEq] at h
    obtain ⟨rfl, h⟩ := h
    obtain ⟨d, hd, hdu, _⟩ := (hΘ.get hti).run_underlying
    simp only [decide_eq_true_eq] at hty
    obtain ⟨el, rfl, _⟩ := desc_slice hd hty
    have hb : ∃ b' l c, u = .slice b' l c ∧ b'.isNone = a.isNone := by
     cases a with
     | none => rw [VR_nilslice] at hu; exact ⟨none, _, _, hu, rfl⟩
     | some p =>
      rcases VR_slice.1 hu with ⟨h1, h2, _⟩ | ⟨b, c, e, _⟩
      ·simp only [h1, h2] at h; simp at h
      ·exact ⟨some b, _, _, e, rfl⟩
    obtain ⟨b', l, c, rfl, hbb⟩ := hb
    simp only [Sem.run_bind, run_eqGuard_other (P := P) (op := op) (t := t) (ox := ox) (oy := oy) w (a := .slice b' l c) (by simp) (by simp), Result.andThen]
    rw [run_binOp_equal he (by simp) (by simp) (by simp) (by simp) (run_equal_slicenil hdu)]
    exact ⟨_, rfl, VR_bool.2 (by rw [hbb])⟩
  ·cases h
 ·split at h
  ·rename_i e ti he hti
   cases hty : (ti.cmp && (eqC ti.ty && (Nat.blt (hgt ti.ty) 60 && (GX.isAgg ti.ty || decide (ti.ty = .bool))))) <;> rw [hty] at h
   ·cases h
   ·simp only [cond_true] at h
    simp only [Bool.and_eq_true, Bool.or_eq_true, decide_eq_true_eq] at hty
    obtain ⟨hcm, heq, hlt, hkd⟩ := hty
    have hlt : hgt ti.ty < 60 := Nat.le_of_ble_eq_true hlt
    have hT := hΘ.get hti
    split at h
    ·rename_i a b ha hb
     have ea := asT_eq ha; have eb := asT_eq hb
     subst ea; subst eb
     simp only [Option.some.injEq, Prod.mk.injEq, and_true] at h
     subst h
     have h1 := V1_of_VR hT.tup hu
     have h2 := V1_of_VR hT.tup hv
     have key := run_equalIn hΘ (w := w) 10000 t ti a b u v hT hcm heq (by omega) h1 h2
     by_cases hag : GX.isAgg ti.ty = true
     ·obtain ⟨l1, rfl, _⟩ := V1_agg hag h1
      obtain ⟨l2, rfl, _⟩ := V1_agg hag h2
      have hg : P.eqGuardType P.depth t = false := by
       have := hT.cmp; simp only [cmpOK, hcm, Bool.not_true, Bool.false_or, Bool.and_eq_true, Bool.not_eq_true'] at this; exact this.1
      simp only [Sem.run_bind, run_eqGuard_agg w hg, Result.andThen]
      rw [run_binOp_equal he (by simp) (by simp) (by simp) (by simp) (r := eqb ti.ty a b) (by simpa only [Op.equal, Op.maxDepth] using key)]
      exact ⟨_, rfl, VR_bool.2 rfl⟩
     ·have hkd := hkd.resolve_left hag
      obtain ⟨ty, by_, sub, cmp⟩ := ti
      simp only at hkd
      subst hkd
      rw [V1_bool h1, V1_bool h2] at key ⊢
      simp only [Sem.run_bind, run_eqGuard_other (P := P) (op := op) (t := t) (ox := ox) (oy := oy) w (a := .bool a) (by simp) (by simp), Result.andThen]
      rw [run_binOp_equal he (by simp) (by simp) (by simp) (by simp) (r := eqb .bool a b) (by simpa only [Op.equal, Op.maxDepth] using key)]
      exact ⟨_, rfl, VR_bool.2 rfl⟩
    ·cases h
  ·cases h
end Go.GX

namespace Go.GX
set_option linter.unusedSimpArgs false
set_option linter.unusedVariables false
open Go.RowKit (Below)
def tyAt : Ty → List Nat → Option Ty
 | t, [] => some t
 | t, i :: r => match t with
  | .pair a b => (match i with
   | 0 => tyAt a r
   | j + 1 => tyAt b (j :: r))
  | .arr _ e => tyAt e r
  | _ => none
theorem nav_tyAt : ∀ {t : Ty} {x : t.den} {p : List Nat} {v : V}, nav t x p = some v → tyAt t p = some v.t
 | t, x, [], v, h => by
  have h' : some (V.mk t x) = some v := by cases t <;> simpa [nav] using h
  cases h'
  cases t <;> rfl
 | .pair a b, x, 0 :: r, v, h => by simpa [tyAt] using nav_tyAt (t := a) (x := x.1) (p := r) (v := v) (by simpa [nav] using h)
 | .pair a b, x, (j + 1) :: r, v, h => by simpa [tyAt] using nav_tyAt (t := b) (x := x.2) (p := j :: r) (v := v) (by simpa [nav] using h)
 | .arr n e, x, i :: r, v, h => by simpa [tyAt] using nav_tyAt (t := e) (x := x.getD i (dflt e)) (p := r) (v := v) (by simpa [nav] using h)
 | .bool, _, _ :: _, _, h | .int _, _, _ :: _, _, h | .str, _, _ :: _, _, h | .ptr, _, _ :: _, _, h | .slice, _, _ :: _, _, h
 | .func, _, _ :: _, _, h | .iface, _, _ :: _, _, h | .map, _, _ :: _, _, h | .vsl _, _, _ :: _, _, h | .vptr _, _, _ :: _, _, h | .unit, _, _ :: _, _, h | .tnil, _, _ :: _, _, h | .tup _ _, _, _ :: _, _, h => by simp [nav] at h
theorem offs_app : ∀ {t : Ty} {p q : List Nat} {u : Ty}, tyAt t p = some u → q ≠ [] → offs t (p ++ q) = (offs t p).bind fun o => (offs u q).map (o + ·)
 | t, [], q, u, h, hq => by
  have h' : some t = some u := by cases t <;> simpa [tyAt] using h
  cases h'
  have h0 : offs t [] = some 0 := by cases t <;> rfl
  rw [h0]
  simp
 | .pair a b, 0 :: r, q, u, h, hq => by
  have := offs_app (t := a) (p := r) (q := q) (u := u) (by simpa [tyAt] using h) hq
  simpa [offs] using this
 | .pair a b, (j + 1) :: r, q, u, h, hq => by
  have := offs_app (t := b) (p := j :: r) (q := q) (u := u) (by simpa [tyAt] using h) hq
  simp only [List.cons_append, offs] at this ⊢
  rw [this]
  cases offs b (j :: r) <;> simp
  cases offs u q <;> simp [Nat.add_assoc]
 | .arr n e, i :: r, q, u, h, hq => by
  have := offs_app (t := e) (p := r) (q := q) (u := u) (by simpa [tyAt] using h) hq
  simp only [List.cons_append, offs] at this ⊢
  rw [this]
  cases offs e r <;> simp
  cases offs u q <;> simp [Nat.add_assoc]
 | .bool, _ :: _, _, _, h, _ | .int _, _ :: _, _, _, h, _ | .str, _ :: _, _, _, h, _ | .ptr, _ :: _, _, _, h, _ | .slice, _ :: _, _, _, h, _
 | .func, _ :: _, _, _, h, _ | .iface, _ :: _, _, _, h, _ | .map, _ :: _, _, _, h, _ | .vsl _, _ :: _, _, _, h, _ | .vptr _, _ :: _, _, _, h, _ | .unit, _ :: _, _, _, h, _ | .tnil, _ :: _, _, _, h, _ | .tup _ _, _ :: _, _, _, h, _ => by simp [tyAt] at h
theorem offs_arr0 (n : Nat) (t : Ty) (p : List Nat) : offs (.arr n t) p = offs (.arr 0 t) p := by cases p <;> simp [offs]
def tyOf (mem : Mem) (id : Nat) (p : List Nat) : Option Ty := match Mem.get mem id with | some b => tyAt (.arr b.n b.t) p | none => none
theorem addr_app {base : Nat} {φ : Phi} {mem : Mem} {nxt : Nat} {w : World} (hm : MemRel base φ mem nxt w) {id : Nat} {p q : List Nat} {u : Ty} (ht : tyOf mem id p = some u) (hq : q ≠ []) {a : Addr}
 (ha : addr φ ⟨id, p⟩ = some a) {o : Nat} (ho : offs u q = some o) : addr φ ⟨id, p ++ q⟩ = some (a.add o) := by
 unfold tyOf at ht
 cases hb : Mem.get mem id with
 | none => rw [hb] at ht; cases ht
 | some b =>
  rw [hb] at ht
  simp only at ht
  obtain ⟨ph, hp⟩ := addr_phys ha
  simp only at hp
  have hr := hm.blkAt hb hp
  unfold addr at ha ⊢
  simp only [hp] at ha ⊢
  simp only [Option.map_eq_some_iff] at ha ⊢
  obtain ⟨o1, h1, rfl⟩ := ha
  refine ⟨o1 + o, ?_, ?_⟩
  ·rw [hr.t, ← offs_arr0 b.n, offs_app ht hq, offs_arr0, ← hr.t, h1]
   simp [ho]
  ·rw [add_off]; simp [Nat.add_assoc]
def loadX (mem : Mem) (t : Ty) (p : PA) : Option (V × Bool) :=
 match Mem.getC mem p.id with
 | some b => match nav (.arr b.n b.t) b.val p.path with
  | some v => if v.t = t then some (v, inb (.arr b.n b.t) p.path) else none
  | none => none
 | none => none
theorem loadX_ok {P : Program} {Θ : Tab} {t : Nat} {ti : TI} (ht : TIOK P Θ t ti) {base : Nat} {φ : Phi} {mem : Mem} {nxt : Nat} {w : World} (hm : MemRel base φ mem nxt w) {p : PA} {v : V}
 (h : loadX mem ti.ty p = some (v, true)) {a : Addr} (ha : addr φ p = some a) : ∃ x, (loadVar t a).run P w = .ok x w ∧ VR φ v x := by
 unfold loadX at h
 split at h
 ·rename_i b hb
  obtain ⟨hb, hbt⟩ := Mem.getC_spec hb
  split at h
  ·rename_i v' hv'
   split at h
   ·rename_i hty
    simp only [Option.some.injEq, Prod.mk.injEq] at h
    obtain ⟨rfl, hin⟩ := h
    obtain ⟨ph, hp⟩ := addr_phys ha
    have hr := hm.blkAt hb hp
    obtain ⟨o, ha', _, hc⟩ := cells_at hr hbt hp hv' hin
    obtain ⟨t', x'⟩ := v'
    simp only at hty
    subst hty
    rw [show (⟨p.id, p.path⟩ : PA) = p from rfl, ha] at ha'
    cases ha'
    obtain ⟨x, hx, hvr⟩ := run_loadVar (P := P) ht (x := x') hc
    exact ⟨x, hx, VR_of_V1 ht.tup hvr⟩
   ·cases h
  ·cases h
 ·cases h
def coeV (t : Ty) (v : V) : V := match v with
 | ⟨.slice, none⟩ => (match t with | .vsl e => ⟨.vsl e, []⟩ | _ => v)
 | _ => v
def coeP (t : Ty) (l : List (Nat × V)) : List (Nat × V) := l.map fun p => (p.1, match tyAt t [p.1] with | some g => coeV g p.2 | none => p.2)
theorem coeV_ok {φ : Phi} {t : Ty} {v : V} {x : Value} (h : VR φ v x) : VR φ (coeV t v) x := by
 unfold coeV
 split
 ·split
  ·rw [VR_nilslice] at h
   subst h
   exact VR_cell (t := .vsl _) rfl rfl rfl (by unfold CR; exact .inl ⟨rfl, rfl⟩)
  ·exact h
 ·exact h
def buildX : (t : Ty) → t.den → List (Nat × V) → Option t.den
 | t, x, [] => some x
 | t, x, (i, v) :: r => match upd t x [i] v with | some y => bif inb t [i] then buildX t y r else none | none => none
def bytesAt (l : List Int) (i n : Nat) : List UInt8 := (List.range n).map fun j => UInt8.ofNat (l.getD (i + j) 0).toNat
def rowOf (mem : Mem) (e : Ty) (s : SL) : Option (List e.den × Nat × Bool) :=
 match Mem.getC mem s.id with
 | some b => match nav (.arr b.n b.t) b.val s.path with
  | some ⟨.arr n t, x⟩ => if h : t = e then some (h ▸ x, n, inb (.arr b.n b.t) s.path) else none
  | _ => none
 | none => none
def u8 : Ty := .int .u8
def dropTake (s : List UInt8) (l h : Nat) : List UInt8 := (s.drop l).take (h - l)
def optI (tm : TM) : Option Operand → Option (Option Int × Bool)
 | none => some (none, true)
 | some x => match rd tm x with | some (v, c) => (asI v).map fun p => (some p.2, c) | none => none
def isPair : Ty → Bool
 | .pair _ _ => true
 | _ => false
theorem desc_struct {Θ : Tab} {ti : TI} {d : TypeDesc} (hd : descOK Θ ti d = true) (ht : isPair ti.ty = true) : ∃ fs, d = .struct fs ∧ structOK Θ ti.ty 0 fs.toList = true := by
 have h9 : kt ti.ty = 9 := by revert ht; cases ti.ty <;> simp [isPair, kt]
 have := desc_kind hd
 rw [h9] at this
 cases d <;> simp [kd] at this
 simp only [descOK, Bool.and_eq_true] at hd
 exact ⟨_, rfl, hd.2.1⟩
def tupGet : (t : Ty) → t.den → Nat → Option V
 | .tup a _, x, 0 => some ⟨a, x.1⟩
 | .tup _ b, x, i + 1 => tupGet b x.2 i
 | _, _, _ => none
def low0 (c : Cell) : Option Cell0 := match c with | .c0 c => some c | _ => none
def lows : List Cell → Option (List Cell0)
 | [] => some []
 | c :: r => match low0 c, lows r with | some c, some r => some (c :: r) | _, _ => none
def packV (v : V) : Option (Ty × List Cell0) := bif isTup v.t then none else (lows (flat v.t v.x)).map fun l => (v.t, l)
def packs : List V → Option (List (Ty × List Cell0))
 | [] => some []
 | v :: r => match packV v, packs r with | some c, some r => some (c :: r) | _, _ => none
def rds (tm : TM) : List Operand → Option (List V × Bool)
 | [] => some ([], true)
 | x :: r => match rd tm x, rds tm r with | some (v, c), some (l, d) => some (v :: l, c && d) | _, _ => none
def rdp (tm : TM) : List (Nat × Operand) → Option (List (Nat × V) × Bool)
 | [] => some ([], true)
 | (i, x) :: r => match rd tm x, rdp tm r with | some (v, c), some (l, d) => some ((i, v) :: l, c && d) | _, _ => none
def pickX (c : V × Bool) (a b : Option (V × Bool)) : Option (V × Bool) :=
 match c with
 | (⟨.bool, x⟩, cc) => match a, b with
  | some (va, ca), some (vb, cb) =>
   if h : vb.t = va.t then some (⟨va.t, bif x then va.x else h ▸ vb.x⟩, cc && (bif x then ca else cb))
   else bif ca then some (va, cc && x) else some (vb, cc && (!x && cb))
  | some (va, ca), none => some (va, cc && (x && ca))
  | none, some (vb, cb) => some (vb, cc && (!x && cb))
  | none, none => none
 | _ => none
def lenX (Θ : Tab) (t : Nat) (v : V) : Option Int :=
 match Θ t with
 | some ti => match slT ti.ty, v with
  | .str, ⟨.str, s⟩ => some (s.length : Int)
  | .arr n _, _ => some (n : Int)
  | .slice, ⟨.slice, none⟩ => some 0
  | .slice, ⟨.slice, some s⟩ => some (s.len : Int)
  | _, _ => none
 | none => none
def minX (mx : Bool) : V → List V → Option V
 | v, [] => some v
 | ⟨.int k, x⟩, ⟨.int k', y⟩ :: r => if k = k' then minX mx ⟨.int k, bif mx then (if y > x then y else x) else (if y < x then y else x)⟩ r else none
 | _, _ => none
def opv0 (Θ : Tab) (tm : TM) (mem : Mem) (o : Oper) : Option (V × Bool) :=
 match o.op with
 | .move x => rd tm x
 | .assign x => rd tm x
 | .pick c a b => match rd tm c with | some c => pickX c (rd tm a) (rd tm b) | none => none
 | .build t ps => match Θ t, rdp tm ps.toList with
  | some ti, some (l, c) => bif GX.isAgg ti.ty then (buildX ti.ty (dflt ti.ty) (coeP ti.ty l)).map fun x => (⟨ti.ty, x⟩, c) else none
  | _, _ => none
 | .load t a => match Θ t, rd tm a with
  | some ti, some (⟨.ptr, some p⟩, c) => (loadX mem ti.ty p).map fun r => (r.1, c && r.2)
  | _, _ => none
 | .nilCheck x => match rd tm x with
  | some (⟨.ptr, some p⟩, c) => some (⟨.ptr, some p⟩, c)
  | some (⟨.func, .fn f a b⟩, c) => some (⟨.func, .fn f a b⟩, c)
  | _ => none
 | .binOp op t x y _ => match rd tm x, rd tm y with
  | some (x, c), some (y, d) => (binX Θ op t x y).map fun r => (r.1, c && (d && r.2))
  | _, _ => none
 | .unOp op _ x => match rd tm x with
  | some (x, c) => (unX op x).map fun r => (r.1, c && r.2)
  | none => none
 | .convert s d x => match Θ s, Θ d, rd tm x with
  | some si, some di, some (x, c) => match di.ty, x with
   | .int k, ⟨.int _, n⟩ => some (⟨.int k, k.wrap n⟩, c)
   | .str, ⟨.str, s⟩ => some (⟨.str, s⟩, c)
   | .str, ⟨.slice, none⟩ => bif decide (slT si.ty = .slice) && (match si.sub with | [e] => (match Θ e with | some te => decide (te.ty = u8) | none => false) | _ => false) then some (⟨.str, []⟩, c) else none
   | .str, ⟨.slice, some s⟩ => bif decide (slT si.ty = .slice) && (match si.sub with | [e] => (match Θ e with | some te => decide (te.ty = u8) | none => false) | _ => false) then
    (rowOf mem u8 s).map fun r => (⟨.str, bytesAt r.1 s.start s.len⟩, c && (r.2.2 && decide (s.start + s.len ≤ r.2.1))) else none
   | _, _ => none
  | _, _, _ => none
 | .makeFunc (.func f) first captured => match rds tm first.toList, rds tm captured.toList with
  | some (a, c), some (b, d) => match packs a, packs b with | some a, some b => some (⟨.func, .fn f a b⟩, c && d) | _, _ => none
  | _, _ => none
 | .slice t x lo hi mx => match Θ t, rd tm x, optI tm lo, optI tm hi, optI tm mx with
  | some ti, some (x, c), some (lo, c1), some (hi, c2), some (mx, c3) => match slT ti.ty, x with
   | .str, ⟨.str, s⟩ => match mx with
    | none => let h := hi.getD s.length; let l := lo.getD 0
     some (⟨.str, dropTake s l.toNat h.toNat⟩, c && (c1 && (c2 && (decide (0 ≤ h) && (decide (h ≤ s.length) && (decide (0 ≤ l) && decide (l ≤ h)))))))
    | some _ => none
   | .slice, ⟨.slice, none⟩ =>
    let m := mx.getD 0; let h := hi.getD 0; let l := lo.getD 0
    bif (match ti.sub with | [e] => (Θ e).isSome | _ => false) then some (⟨.slice, none⟩, c && (c1 && (c2 && (c3 && ((mx.isNone || hi.isSome) && (decide (m = 0) && (decide (h = 0) && decide (l = 0)))))))) else none
   | .slice, ⟨.slice, some s⟩ => match ti.sub with
    | [e] => match Θ e, tyOf mem s.id s.path with
     | some te, some (.arr _ u) => bif decide (u = te.ty) then
      let cp : Nat := s.cap.getD s.len; let m : Int := mx.getD cp; let h : Int := hi.getD s.len; let l : Int := lo.getD 0
      some (⟨.slice, some ⟨s.id, s.path, s.start + l.toNat, (h - l).toNat, match mx with | some m => some (m - l).toNat | none => s.cap.map fun k => k - l.toNat⟩⟩,
       c && (c1 && (c2 && (c3 && (((mx.isNone || hi.isSome) && (mx.isNone || (s.cap.isSome || decide (0 < s.len)))) && (decide (m ≤ cp) && (decide (0 ≤ h) && (decide (h ≤ m) && (decide (0 ≤ l) && decide (l ≤ h))))))))))
      else none
     | _, _ => none
    | _ => none
   | .arr n u, ⟨.ptr, some p⟩ => match tyOf mem p.id p.path with
    | some (.arr n' u') => bif Nat.beq n n' && decide (u = u') then
     let m : Int := mx.getD n; let h : Int := hi.getD n; let l : Int := lo.getD 0
     some (⟨.slice, some ⟨p.id, p.path, l.toNat, (h - l).toNat, some (m - l).toNat⟩⟩,
      c && (c1 && (c2 && (c3 && ((mx.isNone || hi.isSome) && (decide (m ≤ n) && (decide (0 ≤ h) && (decide (h ≤ m) && (decide (0 ≤ l) && decide (l ≤ h))))))))))
     else none
    | _ => none
   | _, _ => none
  | _, _, _, _, _ => none
 | .fieldAddr t x f => match Θ t, rd tm x with
  | some ti, some (⟨.ptr, some p⟩, c) => match tyOf mem p.id p.path, tyAt ti.ty [f] with
   | some u, some g => bif decide (u = ti.ty) && (!(Nat.beq (size g) 0) && isPair ti.ty) then some (⟨.ptr, some ⟨p.id, p.path ++ [f]⟩⟩, c) else none
   | _, _ => none
  | _, _ => none
 | .field t x f => match Θ t, rd tm x with
  | some ti, some (x, c) => match asT ti.ty x with
   | some x => bif inb ti.ty [f] then (match ti.ty, x with | .pair a b, x => (nav (.pair a b) x [f]).map fun v => (v, c) | _, _ => none) else none
   | none => none
  | _, _ => none
 | .indexAddr t x i => match Θ t, rd tm x, rd tm i with
  | some ti, some (x, c), some (i, d) => match asI i with
   | some (_, i) => match slT ti.ty, x with
    | .arr n u, ⟨.ptr, some p⟩ => match tyOf mem p.id p.path with
     | some (.arr n' u') => bif Nat.beq n n' && decide (u = u') then some (⟨.ptr, some ⟨p.id, p.path ++ [i.toNat]⟩⟩, c && (d && (decide (0 ≤ i) && decide (i < n)))) else none
     | _ => none
    | .slice, ⟨.slice, some s⟩ => match ti.sub with
     | [e] => match Θ e, tyOf mem s.id s.path with
      | some te, some (.arr _ u) => bif decide (u = te.ty) then some (⟨.ptr, some ⟨s.id, s.path ++ [s.start + i.toNat]⟩⟩, c && (d && (decide (0 ≤ i) && decide (i < s.len)))) else none
      | _, _ => none
     | _ => none
    | _, _ => none
   | none => none
  | _, _, _ => none
 | .index t x i => match Θ t, rd tm x, rd tm i with
  | some ti, some (x, c), some (i, d) => match asI i with
   | some (_, i) => match ti.ty, x with
    | .arr n u, x => match asT (.arr n u) x with
     | some x => some (⟨u, x.getD i.toNat (dflt u)⟩, c && (d && (decide (0 ≤ i) && decide (i < n))))
     | none => none
    | .str, ⟨.str, s⟩ => some (⟨u8, ((s.getD i.toNat 0).toNat : Int)⟩, c && (d && (decide (0 ≤ i) && decide (i < s.length))))
    | _, _ => none
   | none => none
  | _, _, _ => none
 | .extract x i => match rd tm x with
  | some (⟨t, x⟩, c) => match tupGet t x i with | some v => bif isTup v.t then none else some (v, c) | none => none
  | none => none
 | .call ⟨.builtin .len, args, ts⟩ => match args.toList, ts.toList with
  | [x], [t] => match rd tm x with | some (x, c) => (lenX Θ t x).map fun n => (⟨.int .i64, n⟩, c) | none => none
  | _, _ => none
 | .call ⟨.builtin .max, args, _⟩ => match rds tm args.toList with | some (v :: l, c) => (minX true v l).map fun v => (v, c) | _ => none
 | .call ⟨.builtin .min, args, _⟩ => match rds tm args.toList with | some (v :: l, c) => (minX false v l).map fun v => (v, c) | _ => none
 | _ => none
end Go.GX

namespace Go.GX
set_option linter.unusedSimpArgs false
set_option linter.unusedVariables false
open Go.RowKit (Below)
theorem run_v {P : Program} {s : Sem Value} {w w' : World} {x : Value} (h : s.run P w = .ok x w') : (do pure (Next.value (← s)) : Sem Next).run P w = .ok (.value x) w' := by
 simp only [Sem.run_bind, h, Result.andThen]; rfl
theorem and_split {a b : Bool} (h : (a && b) = true) : a = true ∧ b = true := by simpa using h
theorem rds_ok {φ : Phi} {tm : TM} {a : Act} (h : TmR φ tm a.tmps) : ∀ {xs : List Operand} {l : List V} {c : Bool}, rds tm xs = some (l, c) → c = true → l.length = xs.length ∧ ∀ (i : Nat) v, l[i]? = some v → ∃ x, xs[i]? = some x ∧ VR φ v (a.eval x)
 | [], l, c, hr, hc => by simp [rds] at hr; obtain ⟨rfl, _⟩ := hr; exact ⟨rfl, fun i v h => by simp at h⟩
 | x :: r, l, c, hr, hc => by
  simp only [rds] at hr
  split at hr
  ·rename_i v c1 l1 d h1 h2
   simp only [Option.some.injEq, Prod.mk.injEq] at hr
   obtain ⟨rfl, rfl⟩ := hr
   obtain ⟨hc1, hd⟩ := and_split hc
   subst hc1; subst hd
   obtain ⟨hl, hg⟩ := rds_ok h h2 rfl
   refine ⟨by simp [hl], fun i u hu => ?_⟩
   cases i with
   | zero => simp at hu; subst hu; exact ⟨x, rfl, rd_ok h h1⟩
   | succ i => simpa using hg i u (by simpa using hu)
  ·cases hr
theorem rdp_ok {φ : Phi} {tm : TM} {a : Act} (h : TmR φ tm a.tmps) : ∀ {xs : List (Nat × Operand)} {l : List (Nat × V)} {c : Bool}, rdp tm xs = some (l, c) → c = true →
 ∃ us : List (Nat × Value), xs.map (fun p => (p.1, a.eval p.2)) = us ∧ us.length = l.length ∧ ∀ (i : Nat) k v, l[i]? = some (k, v) → ∃ u, us[i]? = some (k, u) ∧ VR φ v u
 | [], l, c, hr, hc => by simp [rdp] at hr; obtain ⟨rfl, _⟩ := hr; exact ⟨[], rfl, rfl, fun i k v h => by simp at h⟩
 | (k, x) :: r, l, c, hr, hc => by
  simp only [rdp] at hr
  split at hr
  ·rename_i v c1 l1 d h1 h2
   simp only [Option.some.injEq, Prod.mk.injEq] at hr
   obtain ⟨rfl, rfl⟩ := hr
   obtain ⟨hc1, hd⟩ := and_split hc
   subst hc1; subst hd
   obtain ⟨us, hus, hl, hg⟩ := rdp_ok h h2 rfl
   refine ⟨(k, a.eval x) :: us, by simp [hus], by simp [hl], fun i k' u hu => ?_⟩
   cases i with
   | zero => simp at hu; obtain ⟨rfl, rfl⟩ := hu; exact ⟨_, rfl, rd_ok h h1⟩
   | succ i => simpa using hg i k' u (by simpa using hu)
  ·cases hr
theorem pickX_ok {φ : Phi} {tm : TM} {a : Act} (h : TmR φ tm a.tmps) {c x y : Operand} {cv : V × Bool} (hc : rd tm c = some cv) {v : V} (hp : pickX cv (rd tm x) (rd tm y) = some (v, true)) :
 ∃ b, a.eval c = .bool b ∧ VR φ v (if b then a.eval x else a.eval y) := by
 obtain ⟨⟨t, cx⟩, cc⟩ := cv
 cases t <;> simp only [pickX] at hp <;> try (cases hp; done)
 have key : ∀ d, (cc && d) = true → a.eval c = .bool cx := fun d hd => by
  have : cc = true := (and_split hd).1
  subst this
  exact VR_bool.1 (rd_ok h hc)
 split at hp
 ·rename_i va ca vb cb hx hy
  split at hp
  ·rename_i ht
   simp only [Option.some.injEq, Prod.mk.injEq] at hp
   obtain ⟨rfl, hok⟩ := hp
   refine ⟨cx, key _ hok, ?_⟩
   have hok := (and_split hok).2
   obtain ⟨tb, xb⟩ := vb
   simp only at ht
   subst ht
   cases cx
   ·simp only [cond_false] at hok ⊢
    subst hok
    exact rd_ok h hy
   ·simp only [cond_true] at hok ⊢
    subst hok
    exact rd_ok h hx
  ·cases hca : ca <;> rw [hca] at hp <;> simp only [cond_true, cond_false, Option.some.injEq, Prod.mk.injEq] at hp <;> obtain ⟨rfl, hok⟩ := hp <;> refine ⟨cx, key _ hok, ?_⟩ <;> have hok := (and_split hok).2
   ·obtain ⟨h1, h2⟩ := and_split hok
    simp at h1; subst h1; subst h2
    exact rd_ok h hy
   ·subst hok; subst hca
    exact rd_ok h hx
 ·rename_i va ca hx hy
  simp only [Option.some.injEq, Prod.mk.injEq] at hp
  obtain ⟨rfl, hok⟩ := hp
  refine ⟨cx, key _ hok, ?_⟩
  obtain ⟨h1, h2⟩ := and_split (and_split hok).2
  subst h1; subst h2
  exact rd_ok h hx
 ·rename_i vb cb hx hy
  simp only [Option.some.injEq, Prod.mk.injEq] at hp
  obtain ⟨rfl, hok⟩ := hp
  refine ⟨cx, key _ hok, ?_⟩
  obtain ⟨h1, h2⟩ := and_split (and_split hok).2
  simp at h1; subst h1; subst h2
  exact rd_ok h hy
 ·cases hp
theorem struct_fields {Θ : Tab} : ∀ {ty : Ty} {o : Nat} {fs : List Field}, structOK Θ ty o fs = true → ∀ {j : Nat} {g : Ty}, tyAt ty [j] = some g →
 ∃ f tf, fs[j]? = some f ∧ Θ f.type = some tf ∧ fldOK tf.ty g = true ∧ isTup g = false ∧ offs ty [j] = some (f.offset - o) ∧ o ≤ f.offset
 | .unit, _, [], _, j, g, h => by simp [tyAt] at h
 | .pair a b, o, f :: fs, hs, j, g, h => by
  simp only [structOK, Bool.and_eq_true] at hs
  obtain ⟨⟨h1, h2⟩, h3⟩ := hs
  have h1 := Nat.eq_of_beq_eq_true h1
  split at h2
  ·rename_i tf htf
   simp only [Bool.and_eq_true, decide_eq_true_eq, Bool.not_eq_true'] at h2
   cases j with
   | zero =>
    have hg : some a = some g := by cases a <;> simpa [tyAt] using h
    cases hg
    exact ⟨f, tf, rfl, htf, h2.1, h2.2, by rw [h1]; simp [offs], by omega⟩
   | succ j =>
    obtain ⟨f', tf', hf, ht, hg, hu, ho, hle⟩ := struct_fields h3 (j := j) (g := g) (by simpa [tyAt] using h)
    exact ⟨f', tf', by simpa using hf, ht, hg, hu, by simp [offs, ho]; omega, by omega⟩
  ·cases h2
theorem upd_tyAt : ∀ {t : Ty} {x : t.den} {p : List Nat} {v : V} {y : t.den}, upd t x p v = some y → tyAt t p = some v.t
 | t, x, [], v, y, h => by
  have h' : (if h : v.t = t then some (h ▸ v.x) else none) = some y := by cases t <;> simpa [upd] using h
  have e : v.t = t := by
   by_cases e : v.t = t
   ·exact e
   ·rw [dif_neg e] at h'; cases h'
  subst e
  cases v.t <;> rfl
 | .pair a b, x, 0 :: r, v, y, h => by
  simp only [upd, Option.map_eq_some_iff] at h
  obtain ⟨z, hz, _⟩ := h
  simpa [tyAt] using upd_tyAt hz
 | .pair a b, x, (j + 1) :: r, v, y, h => by
  simp only [upd, Option.map_eq_some_iff] at h
  obtain ⟨z, hz, _⟩ := h
  simpa [tyAt] using upd_tyAt hz
 | .arr n e, x, i :: r, v, y, h => by
  simp only [upd, Option.map_eq_some_iff] at h
  obtain ⟨z, hz, _⟩ := h
  simpa [tyAt] using upd_tyAt hz
 | .bool, _, _ :: _, _, _, h | .int _, _, _ :: _, _, _, h | .str, _, _ :: _, _, _, h | .ptr, _, _ :: _, _, _, h | .slice, _, _ :: _, _, _, h
 | .func, _, _ :: _, _, _, h | .iface, _, _ :: _, _, _, h | .map, _, _ :: _, _, _, h | .vsl _, _, _ :: _, _, _, h | .vptr _, _, _ :: _, _, _, h | .unit, _, _ :: _, _, _, h | .tnil, _, _ :: _, _, _, h | .tup _ _, _, _ :: _, _, _, h => by simp [upd] at h
theorem buildX_ok {φ : Phi} {t : Ty} {place : Nat → Option (Nat × Nat)} (hpl : ∀ i o g, offs t [i] = some o → tyAt t [i] = some g → inb t [i] = true → place i = some (o, size g) ∧ isTup g = false) :
 ∀ {l : List (Nat × V)} {us : List (Nat × Value)} {x x' : t.den} {cs : Array Value}, buildX t x l = some x' → us.length = l.length → (∀ (i : Nat) k v, l[i]? = some (k, v) → ∃ u, us[i]? = some (k, u) ∧ VR φ v u) →
  CL φ (flat t x) cs.toList → ∃ cs', Instr.fill place cs us = some cs' ∧ CL φ (flat t x') cs'.toList
 | [], us, x, x', cs, h, hl, _, hc => by
  simp [buildX] at h; subst h
  have : us = [] := List.length_eq_zero_iff.1 (by simpa using hl)
  subst this
  exact ⟨cs, rfl, hc⟩
 | (i, v) :: r, us, x, x', cs, h, hl, hv, hc => by
  match us, hl with
  | (k, u) :: us, hl =>
  obtain ⟨u', hu', hur⟩ := hv 0 i v rfl
  simp at hu'
  obtain ⟨rfl, rfl⟩ := hu'
  simp only [buildX] at h
  split at h
  ·rename_i y hy
   cases hib : inb t [k] <;> rw [hib] at h
   ·cases h
   ·simp only [cond_true] at h
    obtain ⟨o, ho, hs, hg⟩ := upd_spec t x [k] v y hy hib
    have hty : tyAt t [k] = some v.t := upd_tyAt hy
    obtain ⟨hp, htp⟩ := hpl k o v.t ho hty hib
    have hv1 := V1_of_VR htp hur
    have hcu := V1_cells hv1
    have hsz : u.cells.size = size v.t := by have := hcu.1; rw [length_flat] at this; simpa using this
    have hcs : cs.size = size t := by have := hc.1; rw [length_flat] at this; simpa using this
    have hfold : ∀ (ul : List Value) (n : Nat) (c0 : Array Value), o + n + ul.length ≤ c0.size → ∀ j, ((ul.zipIdx n).foldl (fun cs (p : Value × Nat) => cs.setIfInBounds (o + p.2) p.1) c0)[j]? = if o + n ≤ j ∧ j < o + n + ul.length then ul[j - (o + n)]? else c0[j]? := by
     intro ul
     induction ul with
     | nil => intro n c0 _ j; simp; omega
     | cons z ul ih =>
      intro n c0 hle j
      simp only [List.length_cons] at hle
      simp only [List.zipIdx_cons, List.foldl_cons]
      rw [ih (n + 1) _ (by simp; omega)]
      by_cases h1 : o + (n + 1) ≤ j ∧ j < o + (n + 1) + ul.length
      ·rw [if_pos h1, if_pos (by simp only [List.length_cons]; omega)]
       rw [show j - (o + n) = (j - (o + (n + 1))) + 1 from by omega]
       simp
      ·rw [if_neg h1]
       by_cases h2 : j = o + n
       ·subst h2
        rw [if_pos (by simp only [List.length_cons]; omega), Array.getElem?_setIfInBounds, if_pos rfl, if_pos (by omega), Nat.sub_self]
        rfl
       ·rw [if_neg (by simp only [List.length_cons]; omega)]
        rw [Array.getElem?_setIfInBounds, if_neg (by omega)]
    simp only [Instr.fill, hp]
    rw [if_neg (by rw [hsz, hcs]; simp; omega)]
    have hnew : CL φ (flat t y) (u.cells.zipIdx.foldl (fun cs (c, j) => cs.setIfInBounds (o + j) c) cs).toList := by
     have he : u.cells.zipIdx.foldl (fun cs (c, j) => cs.setIfInBounds (o + j) c) cs = (u.cells.toList.zipIdx 0).foldl (fun cs (p : Value × Nat) => cs.setIfInBounds (o + p.2) p.1) cs := by
      rw [← Array.foldl_toList, Array.toList_zipIdx]
     rw [he]
     have hget := hfold u.cells.toList 0 cs (by simp [hsz, hcs]; omega)
     refine ⟨?_, fun j c hj => ?_⟩
     ·have : ∀ (ul : List (Value × Nat)) (c0 : Array Value), (ul.foldl (fun cs (p : Value × Nat) => cs.setIfInBounds (o + p.2) p.1) c0).size = c0.size := by
       intro ul; induction ul with
       | nil => intro c0; rfl
       | cons z ul ih => intro c0; simp [ih]
      rw [Array.length_toList, this, hcs, length_flat]
     ·rw [hg] at hj
      rw [Array.getElem?_toList, hget]
      simp only [Nat.add_zero, Array.length_toList, hsz]
      by_cases hr : o ≤ j ∧ j < o + size v.t
      ·rw [if_pos hr] at hj ⊢
       exact hcu.2 _ c hj
      ·rw [if_neg hr] at hj ⊢
       simpa using hc.2 j c hj
    exact buildX_ok hpl h (by simpa using hl) (fun j k' v' hj => by simpa using hv (j + 1) k' v' (by simpa using hj)) hnew
  ·cases h
end Go.GX

namespace Go.GX
set_option linter.unusedSimpArgs false
set_option linter.unusedVariables false
open Go.RowKit (Below)
theorem optI_ok {φ : Phi} {tm : TM} {a : Act} (h : TmR φ tm a.tmps) {x : Option Operand} {i : Option Int} (hx : optI tm x = some (i, true)) :
 (x = none ∧ i = none) ∨ ∃ y k n, x = some y ∧ i = some n ∧ a.eval y = .int k n := by
 unfold optI at hx
 split at hx
 ·cases hx; exact .inl ⟨rfl, rfl⟩
 ·rename_i y
  split at hx
  ·rename_i v c hv
   simp only [Option.map_eq_some_iff] at hx
   obtain ⟨⟨k, n⟩, hk, he⟩ := hx
   cases he
   have := asI_eq hk
   subst this
   exact .inr ⟨y, k, n, rfl, rfl, VR_int.1 (rd_ok h hv)⟩
  ·cases hx
theorem run_sliceBound {P : Program} {k : IntKind} {i : Int} {y : Nat} {c : BoundsCode} {w : World} (h0 : 0 ≤ i) (h1 : i ≤ y) : (Instr.sliceBound (.int k i) y c).run P w = .ok i.toNat w := by
 simp only [Instr.sliceBound, asIntOf, Sem.run_bind, Sem.run_pure, Result.andThen]
 rw [if_pos ⟨h0, h1⟩]; rfl
theorem run_sliceBounds {P : Program} {φ : Phi} {tm : TM} {a : Act} (ht : TmR φ tm a.tmps) {lo hi mx : Option Operand} {l h m : Option Int} (hl : optI tm lo = some (l, true)) (hh : optI tm hi = some (h, true)) (hm : optI tm mx = some (m, true))
 {is : Bool} {len cap : Nat} {w : World} (h0 : (m.isNone || h.isSome) = true) (h1 : m.getD cap ≤ cap) (h2 : 0 ≤ h.getD len) (h3 : h.getD len ≤ m.getD cap) (h4 : 0 ≤ l.getD 0) (h5 : l.getD 0 ≤ h.getD len) :
 (Instr.sliceBounds is len cap (lo.map a.eval) (hi.map a.eval) (mx.map a.eval)).run P w = .ok ((l.getD 0).toNat, (h.getD len).toNat, (m.getD cap).toNat) w := by
 rcases optI_ok ht hl with ⟨rfl, rfl⟩ | ⟨y1, k1, n1, rfl, rfl, e1⟩ <;> rcases optI_ok ht hh with ⟨rfl, rfl⟩ | ⟨y2, k2, n2, rfl, rfl, e2⟩ <;> rcases optI_ok ht hm with ⟨rfl, rfl⟩ | ⟨y3, k3, n3, rfl, rfl, e3⟩ <;>
  simp only [Option.isNone_none, Option.isNone_some, Option.isSome_none, Option.isSome_some, Bool.or_false, Bool.or_true, Bool.false_or, Option.getD_none, Option.getD_some] at h0 h1 h2 h3 h4 h5 <;> try (cases h0; done)
 all_goals
  simp only [Instr.sliceBounds, Option.map_none, Option.map_some, Sem.run_bind, Sem.run_pure, Result.andThen, Option.getD_none, Option.getD_some, *]
  repeat (rw [run_sliceBound (by omega) (by first | omega | (simp; omega))]; try simp only [Sem.run_bind, Sem.run_pure, Result.andThen])
  try rfl
theorem extract_bytes (s : List UInt8) (l h : Nat) (hh : h ≤ s.length) (hl : l ≤ h) : (⟨s.toArray⟩ : ByteArray).extract l h = ⟨(dropTake s l h).toArray⟩ := by
 apply ByteArray.ext
 rw [ByteArray.data_extract]
 apply Array.ext'
 simp [dropTake]
theorem tupGet_ok {φ : Phi} : ∀ {t : Ty} {x : t.den} {l : List Value} {i : Nat} {v : V}, TR φ t x l → tupGet t x i = some v → ∃ u, l[i]? = some u ∧ V1 φ v.t v.x u
 | .tup a b, x, l, 0, v, ⟨u, r, e, h1, h2⟩, h => by
  simp [tupGet] at h; subst h; subst e; exact ⟨u, rfl, h1⟩
 | .tup a b, x, l, i + 1, v, ⟨u, r, e, h1, h2⟩, h => by
  subst e
  simpa using tupGet_ok h2 (by simpa [tupGet] using h)
 | .tnil, _, _, _, _, _, h => by simp [tupGet] at h
theorem lows_eq : ∀ {l : List Cell} {m : List Cell0}, lows l = some m → l = m.map Cell.c0
 | [], m, h => by simp [lows] at h; subst h; rfl
 | c :: r, m, h => by
  simp only [lows] at h
  split at h
  ·rename_i c' r' h1 h2
   cases h
   cases c <;> simp [low0] at h1
   subst h1
   simp [lows_eq h2]
  ·cases h
theorem packV_ok {φ : Phi} {v : V} {c : Ty × List Cell0} (h : packV v = some c) {x : Value} (hx : VR φ v x) : VC0 φ c x := by
 unfold packV at h
 cases ht : isTup v.t <;> rw [ht] at h
 ·simp only [cond_false, Option.map_eq_some_iff] at h
  obtain ⟨l, hl, rfl⟩ := h
  have hf := lows_eq hl
  have h1 := V1_of_VR ht hx
  unfold V1 at h1
  unfold VC0
  split at h1
  ·rename_i ha
   rw [if_pos ha]
   obtain ⟨l', e, hc⟩ := h1
   refine ⟨l', e, ?_⟩
   rw [hf] at hc
   refine ⟨by simpa using hc.1, fun i c hi => ?_⟩
   exact hc.2 i (.c0 c) (by simp [hi])
  ·rename_i ha
   rw [if_neg ha]
   obtain ⟨c, hc, hr⟩ := h1
   rw [hf] at hc
   match l, hc with
   | [c0], hc => simp at hc; subst hc; exact ⟨c0, rfl, hr⟩
 ·cases h
theorem packs_ok {φ : Phi} : ∀ {l : List V} {m : List (Ty × List Cell0)} {xs : List Value}, packs l = some m → xs.length = l.length → (∀ (i : Nat) v, l[i]? = some v → ∃ x, xs[i]? = some x ∧ VR φ v x) → VL0 φ m xs
 | [], m, xs, h, hl, _ => by simp [packs] at h; subst h; exact ⟨by simpa using hl, fun i c h => by simp at h⟩
 | v :: r, m, x :: xs, h, hl, hv => by
  simp only [packs] at h
  split at h
  ·rename_i c r' h1 h2
   cases h
   obtain ⟨h3, h4⟩ := packs_ok h2 (xs := xs) (by simpa using hl) (fun i v hi => by simpa using hv (i + 1) v (by simpa using hi))
   refine ⟨by simp [h3], fun i c' hi => ?_⟩
   cases i with
   | zero =>
    simp at hi; subst hi
    obtain ⟨x', hx', hr⟩ := hv 0 v rfl
    simp at hx'; subst hx'
    exact ⟨x, rfl, packV_ok h1 hr⟩
   | succ i => simpa using h4 i c' (by simpa using hi)
  ·cases h
theorem rowOf_ok {base : Nat} {φ : Phi} {mem : Mem} {nxt : Nat} {w : World} (hm : MemRel base φ mem nxt w) {e : Ty} {s : SL} {l : List e.den} {n : Nat} (h : rowOf mem e s = some (l, n, true)) {ph : Phys} (hp : φ s.id = some ph) :
 ∃ k o, addr φ ⟨s.id, s.path⟩ = some ⟨k, o, none⟩ ∧ tyOf mem s.id s.path = some (.arr n e) ∧ ∀ i, i < n → ∀ (j : Nat) c, (flat e (l.getD i (dflt e)))[j]? = some c → ∃ v, w.cell? ⟨k, o + (i * size e + j), none⟩ = some v ∧ CR φ c v := by
 unfold rowOf at h
 split at h
 ·rename_i b hb
  obtain ⟨hb, hbt⟩ := Mem.getC_spec hb
  split at h
  ·rename_i n' t x hn
   split at h
   ·rename_i ht
    subst ht
    simp only [Option.some.injEq, Prod.mk.injEq] at h
    obtain ⟨rfl, rfl, hin⟩ := h
    have hr := hm.blkAt hb hp
    obtain ⟨o, ha, hs, hc⟩ := cells_at hr hbt hp hn hin
    refine ⟨ph.blk, ph.off + o, ha, ?_, fun i hi j c hj => ?_⟩
    ·unfold tyOf; rw [hb]; exact nav_tyAt hn
    ·have hjs : j < size t := by rw [← length_flat t (x.getD i (dflt t))]; exact (List.getElem?_eq_some_iff.1 hj).1
     have := hc (i * size t + j) c (by rw [flat, get_flatMap_const _ (size t) (fun i => length_flat t _) n' i j hi hjs]; exact hj)
     simpa [Nat.add_assoc] using this
   ·cases h
  ·cases h
 ·cases h
end Go.GX

namespace Go.GX
set_option linter.unusedSimpArgs false
set_option linter.unusedVariables false
set_option linter.unusedSectionVars false
open Go.RowKit (Below)
theorem fields_mapM {P : Program} {Θ : Tab} (hΘ : TabOK P Θ) : ∀ {ty : Ty} {o : Nat} {l : List Field}, structOK Θ ty o l = true →
 ∃ places, l.mapM (fun f => (P.info? f.type).map fun i => (f.offset, i.size)) = some places ∧ ∀ i p g, offs ty [i] = some p → tyAt ty [i] = some g → places[i]? = some (o + p, size g) ∧ isTup g = false
 | .unit, _, [], _ => ⟨[], rfl, fun i p g h => by simp [offs] at h⟩
 | .pair a b, o, f :: fs, hs => by
  simp only [structOK, Bool.and_eq_true] at hs
  obtain ⟨⟨h1, h2⟩, h3⟩ := hs
  have h1 := Nat.eq_of_beq_eq_true h1
  split at h2
  ·rename_i tf htf
   simp only [Bool.and_eq_true, decide_eq_true_eq, Bool.not_eq_true'] at h2
   obtain ⟨h2e, h2⟩ := h2
   have hse := fldOK_size h2e
   obtain ⟨ii, z, hi, hsz, _⟩ := (hΘ.get htf).info
   obtain ⟨places, hp, hpl⟩ := fields_mapM hΘ h3
   refine ⟨(f.offset, size a) :: places, ?_, fun i p g hi' hg => ?_⟩
   ·rw [List.mapM_cons, hi, hp]; simp [hsz, hse]
   ·cases i with
    | zero =>
     have e1 : some 0 = some p := by rw [← hi']; cases a <;> simp [offs]
     have e2 : some a = some g := by rw [← hg]; cases a <;> simp [tyAt]
     cases e1; cases e2
     exact ⟨by simp [h1], h2⟩
    | succ i =>
     simp only [offs, Option.map_eq_some_iff] at hi'
     obtain ⟨q, hq, rfl⟩ := hi'
     obtain ⟨h5, h6⟩ := hpl i q g hq (by simpa [tyAt] using hg)
     exact ⟨by simpa [Nat.add_assoc] using h5, h6⟩
  ·cases h2
theorem coeP_ok {φ : Phi} {t : Ty} {l : List (Nat × V)} {us : List (Nat × Value)} (hl : us.length = l.length) (hv : ∀ (i : Nat) k v, l[i]? = some (k, v) → ∃ u, us[i]? = some (k, u) ∧ VR φ v u) :
 us.length = (coeP t l).length ∧ ∀ (i : Nat) k v, (coeP t l)[i]? = some (k, v) → ∃ u, us[i]? = some (k, u) ∧ VR φ v u := by
 refine ⟨by simp [coeP, hl], fun i k v hi => ?_⟩
 simp only [coeP, List.getElem?_map, Option.map_eq_some_iff] at hi
 obtain ⟨⟨k', v'⟩, h1, h2⟩ := hi
 simp only [Prod.mk.injEq] at h2
 obtain ⟨rfl, rfl⟩ := h2
 obtain ⟨u, hu, hr⟩ := hv i _ _ h1
 refine ⟨u, hu, ?_⟩
 split
 ·exact coeV_ok hr
 ·exact hr
def Quiet (P : Program) (φ : Phi) (w : World) (a : Act) (o : Oper) (v : V) : Prop := ∃ x, (execOp a.eval o).run P w = .ok (.value x) w ∧ VR φ v x
section
variable {P : Program} {Θ : Tab} {base : Nat} {φ : Phi} {mem : Mem} {nxt : Nat} {w : World} {tm : TM} {a : Act} {v : V}
variable (hΘ : TabOK P Θ) (hm : MemRel base φ mem nxt w) (ht : TmR φ tm a.tmps)
variable {dst : Option Tmp} {type : TypeId} {pos : String} {after : Array Edge} {guard : Option (Nat × Bool)}
include hΘ hm ht
theorem quiet_move {x : Operand} (h : rd tm x = some (v, true)) : Quiet P φ w a ⟨dst, .move x, type, pos, after, guard⟩ v := ⟨_, rfl, rd_ok ht h⟩
theorem quiet_assign {x : Operand} (h : rd tm x = some (v, true)) : Quiet P φ w a ⟨dst, .assign x, type, pos, after, guard⟩ v := ⟨_, rfl, rd_ok ht h⟩
theorem quiet_pick {c x y : Operand} (h : (match rd tm c with | some c => pickX c (rd tm x) (rd tm y) | none => none) = some (v, true)) : Quiet P φ w a ⟨dst, .pick c x y, type, pos, after, guard⟩ v := by
 split at h
 ·rename_i cv hc
  obtain ⟨b, hb, hv⟩ := pickX_ok ht hc h
  refine ⟨_, ?_, hv⟩
  simp only [execOp, hb, asBool, Sem.run_bind, Sem.run_pure, Result.andThen]
 ·cases h
theorem quiet_build {t : Nat} {ps : Array (Nat × Operand)} (h : (match Θ t, rdp tm ps.toList with
 | some ti, some (l, c) => bif GX.isAgg ti.ty then (buildX ti.ty (dflt ti.ty) (coeP ti.ty l)).map fun x => ((⟨ti.ty, x⟩ : V), c) else none
 | _, _ => none) = some (v, true)) : Quiet P φ w a ⟨dst, .build t ps, type, pos, after, guard⟩ v := by
 split at h
 ·rename_i ti l c hti hl
  cases hag : GX.isAgg ti.ty <;> rw [hag] at h
  ·cases h
  ·simp only [cond_true, Option.map_eq_some_iff] at h
   obtain ⟨x, hx, he⟩ := h
   simp only [Prod.mk.injEq] at he
   obtain ⟨rfl, rfl⟩ := he
   have hT := hΘ.get hti
   obtain ⟨us, hus, hlen0, hv0⟩ := rdp_ok ht hl rfl
   obtain ⟨hlen, hv⟩ := coeP_ok (t := ti.ty) hlen0 hv0
   obtain ⟨d, hd, hdu, hdr⟩ := hT.run_underlying
   have hps : (ps.map fun p => (p.1, a.eval p.2)).toList = us := by rw [← hus]; simp
   have hagd := desc_agg hd
   rw [hag] at hagd
   obtain ⟨it, z, hit, hsz, hby, hzz, hzo⟩ := hT.info
   have hz1 := V1_cells (zeroOK_ok φ hT.tup hzo)
   have fin : ∀ cs', P.built t us = some cs' → CL φ (flat ti.ty x) cs'.toList → Quiet P φ w a ⟨dst, .build t ps, type, pos, after, guard⟩ ⟨ti.ty, x⟩ := fun cs' h hc =>
    ⟨.agg cs', run_v (run_build w t _ cs' (by rw [hps]; exact h)), VR_of_V1 hT.tup (V1_of_cells hc hag)⟩
   cases d <;> simp only [aggD] at hagd <;> try (cases hagd; done)
   ·rename_i n e
    simp only [descOK, Bool.and_eq_true] at hd
    obtain ⟨_, hd⟩ := hd
    split at hd
    ·rename_i te hte
     simp only [Bool.and_eq_true, decide_eq_true_eq, Bool.not_eq_true'] at hd
     obtain ⟨ie, _, hie, hes, _⟩ := (hΘ.get hte).info
     obtain ⟨cs', hf, hc⟩ := buildX_ok (φ := φ) (t := ti.ty) (place := fun i => some (i * size te.ty, size te.ty)) (fun i o g ho hg hi => by
      rw [hd.1] at ho hg
      simp [offs, tyAt] at ho hg
      subst hg; subst ho
      exact ⟨rfl, hd.2.1⟩) hx hlen hv hz1
     exact fin cs' (by simp only [Program.built, hit, hdu, hzz, hie, hes]; exact hf) hc
    ·cases hd
   ·rename_i fs
    simp only [descOK, Bool.and_eq_true] at hd
    obtain ⟨places, hp, hpl⟩ := fields_mapM hΘ hd.2.1
    obtain ⟨cs', hf, hc⟩ := buildX_ok (φ := φ) (t := ti.ty) (place := (places.toArray[·]?)) (fun i o g ho hg hi => by
     obtain ⟨h1, h2⟩ := hpl i o g ho hg
     exact ⟨by simpa using h1, h2⟩) hx hlen hv hz1
    exact fin cs' (by simp only [Program.built, hit, hdu, hzz, hp]; exact hf) hc
 ·cases h
theorem quiet_load {t : Nat} {x : Operand} (h : (match Θ t, rd tm x with
 | some ti, some (⟨.ptr, some p⟩, c) => (loadX mem ti.ty p).map fun r => (r.1, c && r.2)
 | _, _ => none) = some (v, true)) : Quiet P φ w a ⟨dst, .load t x, type, pos, after, guard⟩ v := by
 split at h
 ·rename_i ti p c hti hx
  simp only [Option.map_eq_some_iff] at h
  obtain ⟨⟨u, ok⟩, hl, he⟩ := h
  simp only [Prod.mk.injEq] at he
  obtain ⟨rfl, hok⟩ := he
  obtain ⟨rfl, rfl⟩ := and_split hok
  obtain ⟨ad, had, hav⟩ := VR_ptr.1 (rd_ok ht hx)
  obtain ⟨z, hz, hzr⟩ := loadX_ok (hΘ.get hti) hm hl had
  refine ⟨z, run_v ?_, hzr⟩
  simp only [Instr.loadAt, hav, Instr.sureAddr, Sem.run_bind, Sem.run_pure, Result.andThen]
  exact hz
 ·cases h
theorem quiet_nilCheck {x : Operand} (h : (match rd tm x with
 | some (⟨.ptr, some p⟩, c) => some ((⟨.ptr, some p⟩ : V), c)
 | some (⟨.func, .fn f a b⟩, c) => some (⟨.func, .fn f a b⟩, c)
 | _ => none) = some (v, true)) : Quiet P φ w a ⟨dst, .nilCheck x, type, pos, after, guard⟩ v := by
 split at h
 ·rename_i p c hx
  simp only [Option.some.injEq, Prod.mk.injEq] at h
  obtain ⟨rfl, rfl⟩ := h
  have hv := rd_ok ht hx
  obtain ⟨ad, had, hav⟩ := VR_ptr.1 hv
  refine ⟨a.eval x, ?_, hv⟩
  simp only [execOp, hav]; rfl
 ·rename_i f b d c hx
  simp only [Option.some.injEq, Prod.mk.injEq] at h
  obtain ⟨rfl, rfl⟩ := h
  have hv := rd_ok ht hx
  obtain ⟨y, z, hav, _⟩ := VR_func.1 hv
  refine ⟨a.eval x, ?_, hv⟩
  simp only [execOp, hav]; rfl
 ·cases h
theorem quiet_binOp {op : BinOp} {t t' : Nat} {x y : Operand} (h : (match rd tm x, rd tm y with
 | some (x, c), some (y, d) => (binX Θ op t x y).map fun r => (r.1, c && (d && r.2))
 | _, _ => none) = some (v, true)) : Quiet P φ w a ⟨dst, .binOp op t x y t', type, pos, after, guard⟩ v := by
 split at h
 ·rename_i xv c yv d hx hy
  simp only [Option.map_eq_some_iff] at h
  obtain ⟨⟨u, ok⟩, hl, he⟩ := h
  simp only [Prod.mk.injEq] at he
  obtain ⟨rfl, hok⟩ := he
  obtain ⟨rfl, hok2⟩ := and_split hok
  obtain ⟨rfl, rfl⟩ := and_split hok2
  obtain ⟨z, hz, hr⟩ := binX_ok hΘ (ox := x) (oy := y) (rd_ok ht hx) (rd_ok ht hy) hl w
  exact ⟨z, run_v hz, hr⟩
 ·cases h
theorem quiet_unOp {op : UnOp} {t : Nat} {x : Operand} (h : (match rd tm x with
 | some (x, c) => (unX op x).map fun r => (r.1, c && r.2)
 | none => none) = some (v, true)) : Quiet P φ w a ⟨dst, .unOp op t x, type, pos, after, guard⟩ v := by
 split at h
 ·rename_i xv c hx
  simp only [Option.map_eq_some_iff] at h
  obtain ⟨⟨u, ok⟩, hl, he⟩ := h
  simp only [Prod.mk.injEq] at he
  obtain ⟨rfl, hok⟩ := he
  obtain ⟨rfl, rfl⟩ := and_split hok
  obtain ⟨z, hz, hr⟩ := unX_ok (P := P) (rd_ok ht hx) hl w
  exact ⟨z, run_v hz, hr⟩
 ·cases h
theorem quiet_makeFunc {f : Nat} {xs ys : Array Operand} (h : (match rds tm xs.toList, rds tm ys.toList with
 | some (a, c), some (b, d) => match packs a, packs b with | some a, some b => some ((⟨.func, .fn f a b⟩ : V), c && d) | _, _ => none
 | _, _ => none) = some (v, true)) : Quiet P φ w a ⟨dst, .makeFunc (.func f) xs ys, type, pos, after, guard⟩ v := by
 split at h
 ·rename_i l c m d hl hm'
  split at h
  ·rename_i pa pb ha hb
   simp only [Option.some.injEq, Prod.mk.injEq] at h
   obtain ⟨rfl, hok⟩ := h
   obtain ⟨rfl, rfl⟩ := and_split hok
   obtain ⟨h1, h2⟩ := rds_ok ht hl rfl
   obtain ⟨h3, h4⟩ := rds_ok ht hm' rfl
   refine ⟨_, rfl, VR_func.2 ⟨_, _, rfl, ?_, ?_⟩⟩
   ·refine packs_ok ha (by simp [h1]) (fun i v hi => ?_)
    obtain ⟨x, hx, hr⟩ := h2 i v hi
    exact ⟨a.eval x, by simp at hx ⊢; exact ⟨x, hx, rfl⟩, hr⟩
   ·refine packs_ok hb (by simp [h3]) (fun i v hi => ?_)
    obtain ⟨x, hx, hr⟩ := h4 i v hi
    exact ⟨a.eval x, by simp at hx ⊢; exact ⟨x, hx, rfl⟩, hr⟩
  ·cases h
 ·cases h
theorem quiet_fieldAddr {t : Nat} {x : Operand} {f : Nat} (h : (match Θ t, rd tm x with
 | some ti, some (⟨.ptr, some p⟩, c) => match tyOf mem p.id p.path, tyAt ti.ty [f] with
  | some u, some g => bif decide (u = ti.ty) && (!(Nat.beq (size g) 0) && isPair ti.ty) then some ((⟨.ptr, some ⟨p.id, p.path ++ [f]⟩⟩ : V), c) else none
  | _, _ => none
 | _, _ => none) = some (v, true)) : Quiet P φ w a ⟨dst, .fieldAddr t x f, type, pos, after, guard⟩ v := by
 split at h
 ·rename_i ti p c hti hx
  split at h
  ·rename_i u g hu hg
   cases hb : decide (u = ti.ty) && (!(Nat.beq (size g) 0) && isPair ti.ty) <;> rw [hb] at h
   ·cases h
   ·simp only [cond_true, Option.some.injEq, Prod.mk.injEq] at h
    obtain ⟨rfl, rfl⟩ := h
    obtain ⟨h1, h23⟩ := and_split hb
    obtain ⟨h2, hpr⟩ := and_split h23
    simp only [decide_eq_true_eq] at h1
    subst h1
    obtain ⟨ad, had, hav⟩ := VR_ptr.1 (rd_ok ht hx)
    have hT := hΘ.get hti
    obtain ⟨d, hd, hdu, hdr⟩ := hT.run_underlying
    obtain ⟨fs, rfl, hso⟩ := desc_struct hd hpr
    simp only [descOK, Bool.and_eq_true] at hd
    obtain ⟨fd, tf, hf, htf, hty, htu, ho, _⟩ := struct_fields hd.2.1 hg
    have hTf := hΘ.get htf
    have h3 : size tf.ty ≠ 0 := by
     rw [fldOK_size hty]; intro e; rw [e] at h2; simp at h2
    refine ⟨.pointer (some (ad.add fd.offset)), run_v ?_, VR_ptr.2 ⟨_, addr_app hm hu (by simp) had (by rw [ho]; rfl), rfl⟩⟩
    have hf' : fs[f]? = some fd := by simpa using hf
    simp only [Instr.fieldAt, hdr, Sem.run_bind, Result.andThen, hf', hav, Instr.sureAddr, Sem.run_pure, fieldPlace, hTf.run_sizeOf]
    rw [if_neg h3]; rfl
  ·cases h
 ·cases h
end
end Go.GX

namespace Go.GX
set_option linter.unusedSimpArgs false
set_option linter.unusedVariables false
set_option linter.unusedSectionVars false
open Go.RowKit (Below)
theorem ba_get (s : List UInt8) (i : Nat) (h : i < s.length) : (⟨s.toArray⟩ : ByteArray)[i]? = some (s.getD i 0) := by
 have h1 : i < (⟨s.toArray⟩ : ByteArray).size := by show i < s.toArray.size; simpa using h
 have : (⟨s.toArray⟩ : ByteArray)[i]? = some ((⟨s.toArray⟩ : ByteArray)[i]'h1) := getElem?_pos (⟨s.toArray⟩ : ByteArray) i h1
 rw [this]
 apply congrArg some
 show s.toArray[i] = _
 simp [List.getD, List.getElem?_eq_getElem h]
theorem addr_step {base : Nat} {φ : Phi} {mem : Mem} {nxt : Nat} {w : World} (hm : MemRel base φ mem nxt w) {id : Nat} {p : List Nat} {n : Nat} {u : Ty} (ht : tyOf mem id p = some (.arr n u)) {i : Nat}
 {a : Addr} (ha : addr φ ⟨id, p⟩ = some a) : addr φ ⟨id, p ++ [i]⟩ = some (a.add (i * size u)) :=
 addr_app hm ht (by simp) ha (by simp [offs])
theorem addr_back {base : Nat} {φ : Phi} {mem : Mem} {nxt : Nat} {w : World} (hm : MemRel base φ mem nxt w) {id : Nat} {p : List Nat} {n : Nat} {u : Ty} (ht : tyOf mem id p = some (.arr n u)) {s i : Nat}
 {a : Addr} (ha : addr φ ⟨id, p ++ [s]⟩ = some a) : addr φ ⟨id, p ++ [s + i]⟩ = some (a.add (i * size u)) := by
 unfold tyOf at ht
 cases hb : Mem.get mem id with
 | none => rw [hb] at ht; cases ht
 | some b =>
  rw [hb] at ht
  simp only at ht
  obtain ⟨ph, hp⟩ := addr_phys ha
  simp only at hp
  have hr := hm.blkAt hb hp
  have h0 : offs u [] = some 0 := by cases u <;> rfl
  have key : ∀ k, offs (.arr 0 ph.t) (p ++ [k]) = (offs (.arr b.n b.t) p).map fun o => o + k * size u := by
   intro k
   rw [hr.t, ← offs_arr0 b.n, offs_app ht (by simp)]
   cases offs (.arr b.n b.t) p <;> simp [offs, h0]
  unfold addr at ha ⊢
  simp only [hp, key] at ha ⊢
  cases ho : offs (.arr b.n b.t) p with
  | none => rw [ho] at ha; cases ha
  | some o =>
   rw [ho] at ha
   simp only [Option.map_some, Option.some.injEq] at ha ⊢
   subst ha
   rw [add_off, Nat.add_mul]
   simp [Nat.add_assoc]
section
variable {P : Program} {Θ : Tab} {base : Nat} {φ : Phi} {mem : Mem} {nxt : Nat} {w : World} {tm : TM} {a : Act} {v : V}
variable (hΘ : TabOK P Θ) (hm : MemRel base φ mem nxt w) (ht : TmR φ tm a.tmps)
variable {dst : Option Tmp} {type : TypeId} {pos : String} {after : Array Edge} {guard : Option (Nat × Bool)}
include hΘ hm ht
theorem quiet_field {t : Nat} {x : Operand} {f : Nat} (h : (match Θ t, rd tm x with
 | some ti, some (x, c) => match asT ti.ty x with
  | some x => bif inb ti.ty [f] then (match ti.ty, x with | .pair a b, x => (nav (.pair a b) x [f]).map fun v => (v, c) | _, _ => none) else none
  | none => none
 | _, _ => none) = some (v, true)) : Quiet P φ w a ⟨dst, .field t x f, type, pos, after, guard⟩ v := by
 split at h
 ·rename_i ti xv c hti hx
  split at h
  ·rename_i y hy
   have := asT_eq hy
   subst this
   cases hb : inb ti.ty [f] <;> rw [hb] at h
   ·cases h
   ·simp only [cond_true] at h
    have hT := hΘ.get hti
    obtain ⟨d, hd, hdu, hdr⟩ := hT.run_underlying
    obtain ⟨ty, by_, sub, cmp⟩ := ti
    simp only at *
    cases ty <;> simp only at h <;> try (cases h; done)
    rename_i A B
    simp only [Option.map_eq_some_iff, Prod.mk.injEq] at h
    obtain ⟨v', hv', rfl, rfl⟩ := h
    obtain ⟨fs, rfl, hso⟩ := desc_struct hd rfl
    obtain ⟨fd, tf, hf, htf, hty, htu, ho, _⟩ := struct_fields hso (nav_tyAt hv')
    obtain ⟨o, ho', hs, hg⟩ := nav_spec _ _ _ _ hv' hb
    rw [ho] at ho'
    simp at ho'
    subst ho'
    obtain ⟨l, hl, hcl⟩ := V1_agg rfl (V1_of_VR hT.tup (rd_ok ht hx))
    obtain ⟨tv, xv⟩ := v'
    simp only at hty hs hg htu
    by_cases hsl : tv = .slice
    ·subst hsl
     obtain ⟨v0, hv0, hr0⟩ := hcl.2 (fd.offset + 0) (.c0 (.slice xv)) (by rw [hg 0 (by simp [size])]; rfl)
     have hTf := hΘ.get htf
     have hag : GX.isAgg tf.ty = false := by
      unfold fldOK at hty
      rcases Bool.or_eq_true_iff.1 hty with h | h
      ·rw [of_decide_eq_true h]; rfl
      ·obtain ⟨_, h2⟩ := Bool.and_eq_true_iff.1 h
       cases hu : tf.ty <;> rw [hu] at h2 <;> first | rfl | (cases h2)
     refine ⟨v0, run_v ?_, VR_cell (t := .slice) rfl rfl rfl hr0⟩
     have hf' : fs[f]? = some fd := by simpa using hf
     have hl0 : l[fd.offset]? = some v0 := by simpa using hv0
     simp only [Instr.field, hdr, Sem.run_bind, Result.andThen, hf', hl, asAgg, Sem.run_pure, part, hTf.run_isAgg, hag, Bool.false_eq_true, if_false, hl0]
    have hty := fldOK_ne hty hsl
    subst hty
    obtain ⟨z, hz, hzr⟩ := run_part (P := P) (hΘ.get htf) (x := xv) (cs := l) (o := fd.offset) (φ := φ) (fun i c hc => by
     have hi : i < size tf.ty := by rw [← length_flat tf.ty xv]; exact (List.getElem?_eq_some_iff.1 hc).1
     simpa using hcl.2 (fd.offset + i) c (by rw [hg i hi]; exact hc)) w
    refine ⟨z, run_v ?_, VR_of_V1 htu hzr⟩
    have hf' : fs[f]? = some fd := by simpa using hf
    simp only [Instr.field, hdr, Sem.run_bind, Result.andThen, hf', hl, asAgg, Sem.run_pure]
    exact hz
  ·cases h
 ·cases h
theorem quiet_indexAddr {t : Nat} {x i : Operand} (h : (match Θ t, rd tm x, rd tm i with
 | some ti, some (x, c), some (i, d) => match asI i with
  | some (_, i) => match slT ti.ty, x with
   | .arr n u, ⟨.ptr, some p⟩ => match tyOf mem p.id p.path with
    | some (.arr n' u') => bif Nat.beq n n' && decide (u = u') then some ((⟨.ptr, some ⟨p.id, p.path ++ [i.toNat]⟩⟩ : V), c && (d && (decide (0 ≤ i) && decide (i < n)))) else none
    | _ => none
   | .slice, ⟨.slice, some s⟩ => match ti.sub with
    | [e] => match Θ e, tyOf mem s.id s.path with
     | some te, some (.arr _ u) => bif decide (u = te.ty) then some (⟨.ptr, some ⟨s.id, s.path ++ [s.start + i.toNat]⟩⟩, c && (d && (decide (0 ≤ i) && decide (i < s.len)))) else none
     | _, _ => none
    | _ => none
   | _, _ => none
  | none => none
 | _, _, _ => none) = some (v, true)) : Quiet P φ w a ⟨dst, .indexAddr t x i, type, pos, after, guard⟩ v := by
 split at h
 ·rename_i ti xv c iv d hti hx hi
  split at h
  ·rename_i k n hk
   have := asI_eq hk
   subst this
   have hT := hΘ.get hti
   obtain ⟨ds, hd, hdu, hdr⟩ := hT.run_underlying
   split at h
   ·rename_i n1 u p hty
    split at h
    ·rename_i n' u' hu
     cases hb : Nat.beq n1 n' && decide (u = u') <;> rw [hb] at h
     ·cases h
     ·simp only [cond_true, Option.some.injEq, Prod.mk.injEq] at h
      obtain ⟨rfl, hok⟩ := h
      obtain ⟨hb1, hb2⟩ := and_split hb
      have hb1 := Nat.eq_of_beq_eq_true hb1
      simp only [decide_eq_true_eq] at hb2
      subst hb1; subst hb2
      obtain ⟨rfl, hok2⟩ := and_split hok
      obtain ⟨rfl, hok3⟩ := and_split hok2
      simp only [Bool.and_eq_true, decide_eq_true_eq] at hok3
      obtain ⟨ad, had, hav⟩ := VR_ptr.1 (rd_ok ht hx)
      have hiv := VR_int.1 (rd_ok ht hi)
      obtain ⟨e, te, rfl, hte, rfl⟩ := desc_arr hd (slT_ne hty (by simp))
      refine ⟨.pointer (some (ad.add (n.toNat * size te.ty))), run_v ?_, VR_ptr.2 ⟨_, addr_step hm hu had, rfl⟩⟩
      simp only [Instr.indexAt, hiv, hav, asIntOf, hdr, Instr.sureAddr, Sem.run_bind, Sem.run_pure, Result.andThen]
      rw [if_pos hok3]
      simp only [Sem.run_bind, (hΘ.get hte).run_sizeOf, Sem.run_pure, Result.andThen]
    ·cases h
   ·rename_i s hty
    split at h
    ·rename_i e hsub
     split at h
     ·rename_i te n' u hte hu
      cases hb : decide (u = te.ty) <;> rw [hb] at h
      ·cases h
      ·simp only [cond_true, Option.some.injEq, Prod.mk.injEq] at h
       obtain ⟨rfl, hok⟩ := h
       simp only [decide_eq_true_eq] at hb
       subst hb
       obtain ⟨rfl, hok2⟩ := and_split hok
       obtain ⟨rfl, hok3⟩ := and_split hok2
       simp only [Bool.and_eq_true, decide_eq_true_eq] at hok3
       obtain ⟨ad, cc, hav, hlc, _, _, had⟩ := (VR_slice.1 (rd_ok ht hx)).resolve_left (fun h => by omega)
       have hiv := VR_int.1 (rd_ok ht hi)
       obtain ⟨e', rfl, hsub'⟩ := desc_slice hd hty
       rw [hsub] at hsub'; cases hsub'
       have had := had (by omega) (VD.not (by omega))
       refine ⟨.pointer (some (ad.add (n.toNat * size te.ty))), run_v ?_, VR_ptr.2 ⟨_, addr_back hm hu had, rfl⟩⟩
       simp only [Instr.indexAt, hiv, hav, asIntOf, hdr, Sem.run_bind, Sem.run_pure, Result.andThen]
       rw [if_pos hok3]
       simp only [Sem.run_bind, (hΘ.get hte).run_sizeOf, Sem.run_pure, Result.andThen]
     ·cases h
    ·cases h
   ·cases h
  ·cases h
 ·cases h
theorem quiet_index {t : Nat} {x i : Operand} (h : (match Θ t, rd tm x, rd tm i with
 | some ti, some (x, c), some (i, d) => match asI i with
  | some (_, i) => match ti.ty, x with
   | .arr n u, x => match asT (.arr n u) x with
    | some x => some ((⟨u, x.getD i.toNat (dflt u)⟩ : V), c && (d && (decide (0 ≤ i) && decide (i < n))))
    | none => none
   | .str, ⟨.str, s⟩ => some (⟨u8, ((s.getD i.toNat 0).toNat : Int)⟩, c && (d && (decide (0 ≤ i) && decide (i < s.length))))
   | _, _ => none
  | none => none
 | _, _, _ => none) = some (v, true)) : Quiet P φ w a ⟨dst, .index t x i, type, pos, after, guard⟩ v := by
 split at h
 ·rename_i ti xv c iv d hti hx hi
  split at h
  ·rename_i k n hk
   have := asI_eq hk
   subst this
   have hT := hΘ.get hti
   obtain ⟨ds, hd, hdu, hdr⟩ := hT.run_underlying
   split at h
   ·rename_i n1 u hty
    split at h
    ·rename_i y hy
     have := asT_eq hy
     subst this
     simp only [Option.some.injEq, Prod.mk.injEq] at h
     obtain ⟨rfl, hok⟩ := h
     obtain ⟨rfl, hok2⟩ := and_split hok
     obtain ⟨rfl, hok3⟩ := and_split hok2
     simp only [Bool.and_eq_true, decide_eq_true_eq] at hok3
     have hiv := VR_int.1 (rd_ok ht hi)
     obtain ⟨e, te, rfl, hte, rfl⟩ := desc_arr hd hty
     have hTe := hΘ.get hte
     obtain ⟨l, hl, hcl⟩ := V1_agg rfl (V1_of_VR rfl (rd_ok ht hx))
     obtain ⟨z, hz, hzr⟩ := run_part (P := P) hTe (x := y.getD n.toNat (dflt te.ty)) (cs := l) (o := n.toNat * size te.ty) (φ := φ) (fun j c hc => by
      have hj : j < size te.ty := by rw [← length_flat te.ty (y.getD n.toNat (dflt te.ty))]; exact (List.getElem?_eq_some_iff.1 hc).1
      have := hcl.2 (n.toNat * size te.ty + j) c (by rw [flat, get_flatMap_const _ (size te.ty) (fun i => length_flat te.ty _) n1 n.toNat j (by omega) hj]; exact hc)
      simpa using this) w
     refine ⟨z, run_v ?_, VR_of_V1 hTe.tup hzr⟩
     simp only [Instr.index, hiv, hl, asIntOf, hdr, Sem.run_bind, Sem.run_pure, Result.andThen]
     rw [if_pos hok3]
     simp only [Sem.run_bind, hTe.run_sizeOf, Result.andThen]
     exact hz
    ·cases h
   ·rename_i s hty
    simp only [Option.some.injEq, Prod.mk.injEq] at h
    obtain ⟨rfl, hok⟩ := h
    obtain ⟨rfl, hok2⟩ := and_split hok
    obtain ⟨rfl, hok3⟩ := and_split hok2
    simp only [Bool.and_eq_true, decide_eq_true_eq] at hok3
    have hiv := VR_int.1 (rd_ok ht hi)
    have hxv := VR_str.1 (rd_ok ht hx)
    have := desc_str hd hty
    subst this
    have hlt : n.toNat < s.length := by omega
    have hb := ba_get s n.toNat hlt
    refine ⟨.int .u8 ((s.getD n.toNat 0).toNat : Int), run_v ?_, VR_int.2 rfl⟩
    simp only [Instr.index, hiv, hxv, asIntOf, hdr, Sem.run_bind, Sem.run_pure, Result.andThen]
    rw [if_pos hok3.1, hb]
    rfl
   ·cases h
  ·cases h
 ·cases h
theorem quiet_extract {x : Operand} {i : Nat} (h : (match rd tm x with
 | some (⟨t, x⟩, c) => match tupGet t x i with | some v => bif isTup v.t then none else some (v, c) | none => none
 | none => none) = some (v, true)) : Quiet P φ w a ⟨dst, .extract x i, type, pos, after, guard⟩ v := by
 split at h
 ·rename_i t y c hx
  split at h
  ·rename_i v' hv'
   cases hnt : isTup v'.t <;> rw [hnt] at h
   ·simp only [cond_false, Option.some.injEq, Prod.mk.injEq] at h
    obtain ⟨rfl, rfl⟩ := h
    have hv := rd_ok ht hx
    have htup : isTup t = true := by cases t <;> first | rfl | (simp [tupGet] at hv')
    unfold VR at hv
    rw [if_pos htup] at hv
    obtain ⟨l, hl, hr⟩ := hv
    obtain ⟨u, hu, hur⟩ := tupGet_ok hr hv'
    refine ⟨u, run_v ?_, VR_of_V1 hnt hur⟩
    simp only [hl, Instr.extract]
    have : l[i]? = some u := by simpa using hu
    rw [this]; rfl
   ·cases h
  ·cases h
 ·cases h
theorem quiet_len {x : Array Operand} {ts : Array Nat} (h : (match x.toList, ts.toList with
 | [x], [t] => match rd tm x with | some (x, c) => (lenX Θ t x).map fun n => ((⟨.int .i64, n⟩ : V), c) | none => none
 | _, _ => none) = some (v, true)) : Quiet P φ w a ⟨dst, .call ⟨.builtin .len, x, ts⟩, type, pos, after, guard⟩ v := by
 split at h
 ·rename_i y t hx hts
  split at h
  ·rename_i yv c hy
   simp only [Option.map_eq_some_iff, Prod.mk.injEq] at h
   obtain ⟨n, hn, rfl, rfl⟩ := h
   have e1 : x = #[y] := by apply Array.ext'; simpa using hx
   have e2 : ts = #[t] := by apply Array.ext'; simpa using hts
   subst e1; subst e2
   have hv := rd_ok ht hy
   unfold lenX at hn
   split at hn
   ·rename_i ti hti
    have hT := hΘ.get hti
    obtain ⟨d, hd, hdu, hdr⟩ := hT.run_underlying
    refine ⟨.int .i64 n, ?_, VR_int.2 rfl⟩
    have fin : (Builtin.len_ #[t] type #[a.eval y]).run P w = .ok (.int .i64 n) w → (execOp a.eval ⟨dst, .call ⟨.builtin .len, #[y], #[t]⟩, type, pos, after, guard⟩).run P w = .ok (.value (.int .i64 n)) w := by
     intro hl
     simp only [execOp, resolve, invoke, builtin, Sem.run_bind, Sem.run_pure, Result.andThen, List.map_toArray, List.map_cons, List.map_nil]
     rw [hl]
    apply fin
    split at hn
    ·rename_i s hty
     cases hn
     have := desc_str hd (slT_ne hty (by simp))
     subst this
     rw [VR_str] at hv
     simp only [Builtin.len_, Sem.run_bind, hdr, Result.andThen, hv, List.getElem?_toArray, List.getElem?_cons_zero]
     rfl
    ·rename_i hty
     cases hn
     obtain ⟨e, te, rfl, _, _⟩ := desc_arr hd (slT_ne hty (by simp))
     simp only [Builtin.len_, Sem.run_bind, hdr, Result.andThen, List.getElem?_toArray, List.getElem?_cons_zero]
     rfl
    ·rename_i hty
     cases hn
     obtain ⟨e, rfl, _⟩ := desc_slice hd hty
     rw [VR_nilslice] at hv
     simp only [Builtin.len_, Sem.run_bind, hdr, Result.andThen, hv, List.getElem?_toArray, List.getElem?_cons_zero]
     rfl
    ·rename_i s hty
     cases hn
     obtain ⟨e, rfl, _⟩ := desc_slice hd hty
     rcases VR_slice.1 hv with ⟨h0, _, hav⟩ | ⟨ad, cc, hav, _⟩
     ·simp only [Builtin.len_, Sem.run_bind, hdr, Result.andThen, hav, List.getElem?_toArray, List.getElem?_cons_zero, h0]
      rfl
     ·simp only [Builtin.len_, Sem.run_bind, hdr, Result.andThen, hav, List.getElem?_toArray, List.getElem?_cons_zero]
      rfl
    ·cases hn
   ·cases hn
  ·cases h
 ·cases h
omit hΘ hm ht in
theorem minX_ok {mx : Bool} : ∀ {l : List V} {v r : V} {u : Value} {us : List Value}, minX mx v l = some r → VR φ v u → us.length = l.length → (∀ (i : Nat) v, l[i]? = some v → ∃ x, us[i]? = some x ∧ VR φ v x) →
 ∃ z, (us.foldlM (if mx then Builtin.max2 else Builtin.min2) u : Sem Value).run P w = .ok z w ∧ VR φ r z
 | [], v, r, u, us, h, hu, hl, _ => by
  have : us = [] := List.length_eq_zero_iff.1 (by simpa using hl)
  subst this
  have : some v = some r := by cases v with | mk t x => cases t <;> simpa [minX] using h
  cases this
  exact ⟨u, rfl, hu⟩
 | y :: l, v, r, u, y' :: us, h, hu, hl, hv => by
  obtain ⟨t, x⟩ := v
  obtain ⟨t', z⟩ := y
  obtain ⟨y2, hy2, hyr⟩ := hv 0 _ rfl
  simp at hy2; subst hy2
  cases t with
  | int k =>
   cases t' with
   | int k' =>
    simp only [minX] at h
    split at h
    ·rename_i hk; subst hk
     rw [VR_int] at hu hyr; subst hu; subst hyr
     cases mx
     ·obtain ⟨q, hq, hqr⟩ := minX_ok (us := us) (u := .int k (if z < x then z else x)) h (VR_int.2 rfl) (by simpa using hl) (fun i v hi => by simpa using hv (i + 1) v (by simpa using hi))
      refine ⟨q, ?_, hqr⟩
      simp only [List.foldlM_cons, Bool.false_eq_true, if_false, Builtin.min2, Sem.run_bind, Sem.run_pure, Result.andThen] at hq ⊢
      exact hq
     ·obtain ⟨q, hq, hqr⟩ := minX_ok (us := us) (u := .int k (if z > x then z else x)) h (VR_int.2 rfl) (by simpa using hl) (fun i v hi => by simpa using hv (i + 1) v (by simpa using hi))
      refine ⟨q, ?_, hqr⟩
      simp only [List.foldlM_cons, if_true, Builtin.max2, Sem.run_bind, Sem.run_pure, Result.andThen] at hq ⊢
      exact hq
    ·cases h
   | _ => simp [minX] at h
  | _ => simp [minX] at h
theorem quiet_min {xs : Array Operand} {ts : Array Nat} (mx : Bool) (h : (match rds tm xs.toList with | some (v :: l, c) => (minX mx v l).map fun v => (v, c) | _ => none) = some (v, true)) :
 Quiet P φ w a ⟨dst, .call ⟨.builtin (if mx then .max else .min), xs, ts⟩, type, pos, after, guard⟩ v := by
 split at h
 ·rename_i v0 l c hr
  simp only [Option.map_eq_some_iff, Prod.mk.injEq] at h
  obtain ⟨r, hr', rfl, rfl⟩ := h
  obtain ⟨h1, h2⟩ := rds_ok ht hr rfl
  obtain ⟨x0, hx0, hv0⟩ := h2 0 v0 rfl
  match hxs : xs.toList, h1 with
  | x :: r', h1 =>
   rw [hxs] at hx0 h2
   simp at hx0; subst hx0
   obtain ⟨z, hz, hzr⟩ := minX_ok (P := P) (w := w) (us := r'.map a.eval) hr' hv0 (by simpa using h1.symm) (fun i v hi => by
    obtain ⟨x, hx, hxr⟩ := h2 (i + 1) v (by simpa using hi)
    exact ⟨a.eval x, by simp at hx ⊢; exact ⟨x, hx, rfl⟩, hxr⟩)
   refine ⟨z, ?_, hzr⟩
   have e1 : xs = (x :: r').toArray := by apply Array.ext'; simpa using hxs
   subst e1
   cases mx
   ·simp only [execOp, resolve, invoke, builtin, Builtin.min_, Sem.run_bind, Sem.run_pure, Result.andThen, List.map_toArray, List.map_cons, Bool.false_eq_true, if_false] at hz ⊢
    rw [hz]
   ·simp only [execOp, resolve, invoke, builtin, Builtin.max_, Sem.run_bind, Sem.run_pure, Result.andThen, List.map_toArray, List.map_cons, if_true] at hz ⊢
    rw [hz]
 ·cases h
end
end Go.GX

namespace Go.GX
set_option linter.unusedSimpArgs false
set_option linter.unusedVariables false
set_option linter.unusedSectionVars false
open Go.RowKit (Below)
theorem run_pushBytes {P : Program} {w : World} {f : Value → ByteArray → Sem (ForInStep ByteArray)} (hf : ∀ n r, f (.int .u8 n) r = pure (ForInStep.yield (r.push (UInt8.ofNat n.toNat)))) : ∀ (l : List Int) (s : ByteArray),
 (forIn (l.map fun n => Value.int .u8 n) s f : Sem ByteArray).run P w = .ok ⟨(s.data.toList ++ l.map fun n => UInt8.ofNat n.toNat).toArray⟩ w
 | [], s => by simp [Sem.run_pure]
 | n :: l, s => by
  rw [List.map_cons, List.forIn_cons, hf]
  simp only [Sem.run_bind, Sem.run_pure, Result.andThen]
  rw [run_pushBytes hf l]
  congr 2
  simp [ByteArray.push]
theorem run_bytesToString {P : Program} {w : World} {ad : Addr} {l : List Int} {c : Nat} (h : (loadCells ad l.length).run P w = .ok (l.map fun n => Value.int .u8 n).toArray w) :
 (Conv.bytesToString (.slice (some ad) l.length c)).run P w = .ok (.string ⟨(l.map fun n => UInt8.ofNat n.toNat).toArray⟩) w := by
 simp only [Conv.bytesToString, Sem.run_bind, h, Result.andThen]
 rw [← Array.forIn_toList]
 rw [show ((l.map fun n => Value.int .u8 n).toArray).toList = l.map fun n => Value.int .u8 n from by simp]
 rw [run_pushBytes (fun n r => rfl)]
 simp [Sem.run_pure]
section
variable {P : Program} {Θ : Tab} {base : Nat} {φ : Phi} {mem : Mem} {nxt : Nat} {w : World} {tm : TM} {a : Act} {v : V}
variable (hΘ : TabOK P Θ) (hm : MemRel base φ mem nxt w) (ht : TmR φ tm a.tmps)
variable {dst : Option Tmp} {type : TypeId} {pos : String} {after : Array Edge} {guard : Option (Nat × Bool)}
include hΘ hm ht
theorem loadCells_ok {s : SL} {e : Ty} {l : List e.den} {n : Nat} {ad : Addr} {cc : Nat} (hr : rowOf mem e s = some (l, n, true)) (hle : s.start + s.len ≤ n) (hlc : s.len ≤ cc)
 (had : 0 < cc → ¬ VD s → addr φ ⟨s.id, s.path ++ [s.start]⟩ = some ad) : ∃ vs : List Value, (loadCells ad (s.len * size e)).run P w = .ok vs.toArray w ∧
  vs.length = s.len * size e ∧ ∀ i, i < s.len → ∀ (j : Nat) c, (flat e (l.getD (s.start + i) (dflt e)))[j]? = some c → ∃ v, vs[i * size e + j]? = some v ∧ CR φ c v := by
 rcases Nat.eq_zero_or_pos s.len with h0 | hpos
 ·exact ⟨[], by simp [h0, loadCells, loadCellsFrom, Sem.run_pure], by simp [h0], fun i hi => by omega⟩
 ·have hnv : ¬ VD s := VD.not hpos
  obtain ⟨ph, hph⟩ := addr_phys (had (by omega) hnv)
  obtain ⟨k, o, ha, hty, hc⟩ := rowOf_ok hm hr hph
  have hst := addr_step hm hty (i := s.start) ha
  rw [had (by omega) hnv] at hst
  cases hst
  let f : Nat → Value := fun j => (w.cell? ⟨k, o + (s.start * size e + j), none⟩).getD undef
  have hcell : ∀ j, j < s.len * size e → w.cell? ((⟨k, o, none⟩ : Addr).add (s.start * size e) |>.add j) = some (f j) := by
   intro j hj
   have hp : 0 < size e := by rcases Nat.eq_zero_or_pos (size e) with h | h; · rw [h] at hj; omega
                              ·exact h
   have hq : j / size e < s.len := Nat.div_lt_of_lt_mul (by rw [Nat.mul_comm]; exact hj)
   have hr' : j % size e < size e := Nat.mod_lt _ hp
   have hjj : j = j / size e * size e + j % size e := by rw [Nat.mul_comm]; exact (Nat.div_add_mod j (size e)).symm
   obtain ⟨v, hv, _⟩ := hc (s.start + j / size e) (by omega) (j % size e) _ (List.getElem?_eq_getElem (by rw [length_flat]; exact hr'))
   have he : (s.start + j / size e) * size e + j % size e = s.start * size e + j := by rw [Nat.add_mul]; omega
   rw [he] at hv
   rw [add_off, add_off, Nat.add_assoc]
   simp only [f, hv, Option.getD_some]
  refine ⟨(List.range (s.len * size e)).map f, run_loadCells (P := P) w _ _ f hcell, by simp, fun i hi j c hj => ?_⟩
  have hjs : j < size e := by rw [← length_flat e (l.getD (s.start + i) (dflt e))]; exact (List.getElem?_eq_some_iff.1 hj).1
  obtain ⟨v, hv, hvr⟩ := hc (s.start + i) (by omega) j c hj
  have hlt : i * size e + j < s.len * size e := calc
   i * size e + j < i * size e + size e := by omega
   _ = (i + 1) * size e := by rw [Nat.succ_mul]
   _ ≤ s.len * size e := Nat.mul_le_mul_right _ hi
  refine ⟨v, ?_, hvr⟩
  have he : (s.start + i) * size e + j = s.start * size e + (i * size e + j) := by rw [Nat.add_mul]; omega
  rw [he] at hv
  simp [hlt, f, hv]
theorem bytes_ok {s : SL} {l : List Int} {n : Nat} {u : Value} (hr : rowOf mem u8 s = some (l, n, true)) (hle : s.start + s.len ≤ n) (hu : SR φ s u) :
 (Conv.bytesToString u).run P w = .ok (.string ⟨(bytesAt l s.start s.len).toArray⟩) w := by
 rcases hu with ⟨h0, _, rfl⟩ | ⟨ad, cc, rfl, hlc, _, _, had⟩
 ·rw [h0]; simp [Conv.bytesToString, bytesAt, Sem.run_pure]; rfl
 obtain ⟨vs, hv, hlen, hget⟩ := loadCells_ok hΘ hm ht hr hle hlc had
 have e1 : size u8 = 1 := rfl
 rw [e1, Nat.mul_one] at hv hlen
 have hvs : vs = ((List.range s.len).map fun i => l.getD (s.start + i) 0).map fun n => Value.int .u8 n := by
  apply List.ext_getElem?
  intro i
  by_cases hi : i < s.len
  ·obtain ⟨v, hv', hr'⟩ := hget i hi 0 (.c0 (.int .u8 (l.getD (s.start + i) 0))) rfl
   rw [e1] at hv'
   simp only [Nat.mul_one, Nat.add_zero] at hv'
   rw [hv']
   have : v = .int .u8 (l.getD (s.start + i) 0) := hr'
   subst this
   simp [hi]
  ·rw [List.getElem?_eq_none (by omega), List.getElem?_eq_none (by simp; omega)]
 have := run_bytesToString (P := P) (w := w) (ad := ad) (l := (List.range s.len).map fun i => l.getD (s.start + i) 0) (c := cc) (by rw [← hvs]; simpa using hv)
 simp only [List.length_map, List.length_range] at this
 rw [this]
 simp [bytesAt, List.map_map, Function.comp_def]
theorem quiet_convert {s d : Nat} {x : Operand} (h : (match Θ s, Θ d, rd tm x with
 | some si, some di, some (x, c) => match di.ty, x with
  | .int k, ⟨.int _, n⟩ => some ((⟨.int k, k.wrap n⟩ : V), c)
  | .str, ⟨.str, s⟩ => some (⟨.str, s⟩, c)
  | .str, ⟨.slice, none⟩ => bif decide (slT si.ty = .slice) && (match si.sub with | [e] => (match Θ e with | some te => decide (te.ty = u8) | none => false) | _ => false) then some (⟨.str, []⟩, c) else none
  | .str, ⟨.slice, some s⟩ => bif decide (slT si.ty = .slice) && (match si.sub with | [e] => (match Θ e with | some te => decide (te.ty = u8) | none => false) | _ => false) then
   (rowOf mem u8 s).map fun r => (⟨.str, bytesAt r.1 s.start s.len⟩, c && (r.2.2 && decide (s.start + s.len ≤ r.2.1))) else none
  | _, _ => none
 | _, _, _ => none) = some (v, true)) : Quiet P φ w a ⟨dst, .convert s d x, type, pos, after, guard⟩ v := by
 split at h
 ·rename_i si di xv c hsi hdi hx
  have hS := hΘ.get hsi
  have hD := hΘ.get hdi
  obtain ⟨sd, hsd, hsdu, hsdr⟩ := hS.run_underlying
  obtain ⟨dd, hdd, hddu, hddr⟩ := hD.run_underlying
  have hbyte : ∀ b, (decide (slT si.ty = .slice) && (match si.sub with | [e] => (match Θ e with | some te => decide (te.ty = u8) | none => false) | _ => false)) = b → b = true →
   ∃ e te, sd = .slice e ∧ Θ e = some te ∧ te.ty = u8 := by
   intro b hb hb'
   subst hb
   obtain ⟨h1, h2⟩ := and_split hb'
   simp only [decide_eq_true_eq] at h1
   obtain ⟨e, rfl, hsub⟩ := desc_slice hsd h1
   rw [hsub] at h2
   simp only at h2
   split at h2
   ·rename_i te hte
    simp only [decide_eq_true_eq] at h2
    exact ⟨e, te, rfl, hte, h2⟩
   ·cases h2
  have fin : ∀ {u : V} {z : Value}, (convert s d (a.eval x)).run P w = .ok z w → VR φ u z → Quiet P φ w a ⟨dst, .convert s d x, type, pos, after, guard⟩ u := fun hz hr => ⟨_, run_v hz, hr⟩
  split at h
  ·rename_i k k' n hty
   cases h
   have hv := VR_int.1 (rd_ok ht hx)
   have := desc_int hdd hty
   subst this
   refine fin (z := .int k (k.wrap n)) ?_ (VR_int.2 rfl)
   simp only [convert, hsdr, hddr, hv, Sem.run_bind, Result.andThen]
   cases sd <;> rfl
  ·rename_i st hty
   cases h
   have hv := VR_str.1 (rd_ok ht hx)
   have := desc_str hdd hty
   subst this
   refine fin (z := a.eval x) ?_ (rd_ok ht hx)
   simp only [convert, hsdr, hddr, hv, Sem.run_bind, Result.andThen]
   cases sd <;> rfl
  ·rename_i hty
   cases hb : (decide (slT si.ty = .slice) && (match si.sub with | [e] => (match Θ e with | some te => decide (te.ty = u8) | none => false) | _ => false)) <;> rw [hb] at h
   ·cases h
   ·simp only [cond_true, Option.some.injEq, Prod.mk.injEq] at h
    obtain ⟨rfl, rfl⟩ := h
    obtain ⟨e, te, rfl, hte, hte'⟩ := hbyte _ hb rfl
    have hv := VR_nilslice.1 (rd_ok ht hx)
    have := desc_str hdd hty
    subst this
    obtain ⟨ed, hed, _, hedr⟩ := (hΘ.get hte).run_underlying
    have := desc_int hed hte'
    subst this
    refine fin (z := .string ⟨#[]⟩) ?_ (VR_str.2 rfl)
    simp only [convert, hsdr, hddr, hv, hedr, Sem.run_bind, Result.andThen]
    rfl
  ·rename_i sl hty
   cases hb : (decide (slT si.ty = .slice) && (match si.sub with | [e] => (match Θ e with | some te => decide (te.ty = u8) | none => false) | _ => false)) <;> rw [hb] at h
   ·cases h
   ·simp only [cond_true, Option.map_eq_some_iff, Prod.mk.injEq] at h
    obtain ⟨⟨l, n, ok⟩, hrow, rfl, hok⟩ := h
    obtain ⟨rfl, hok2⟩ := and_split hok
    obtain ⟨hok3, hok4⟩ := and_split hok2
    simp only at hok3
    subst hok3
    simp only [decide_eq_true_eq] at hok4
    obtain ⟨e, te, rfl, hte, hte'⟩ := hbyte _ hb rfl
    have hsr := VR_slice.1 (rd_ok ht hx)
    have := desc_str hdd hty
    subst this
    obtain ⟨ed, hed, _, hedr⟩ := (hΘ.get hte).run_underlying
    have := desc_int hed hte'
    subst this
    have hz := bytes_ok hΘ hm ht hrow hok4 hsr
    have hav : ∃ p q r, a.eval x = Value.slice p q r := by
     rcases hsr with ⟨_, _, hav⟩ | ⟨ad, cc, hav, _⟩ <;> exact ⟨_, _, _, hav⟩
    obtain ⟨ad, ll, cc, hav⟩ := hav
    refine fin ?_ (VR_str.2 rfl)
    rw [hav] at hz ⊢
    simp only [convert, hsdr, hddr, hedr, Sem.run_bind, Result.andThen]
    exact hz
  ·cases h
 ·cases h
end
end Go.GX

namespace Go.GX
set_option linter.unusedSimpArgs false
set_option linter.unusedVariables false
set_option linter.unusedSectionVars false
open Go.RowKit (Below)
section
variable {P : Program} {Θ : Tab} {base : Nat} {φ : Phi} {mem : Mem} {nxt : Nat} {w : World} {tm : TM} {a : Act} {v : V}
variable (hΘ : TabOK P Θ) (hm : MemRel base φ mem nxt w) (ht : TmR φ tm a.tmps)
variable {dst : Option Tmp} {type : TypeId} {pos : String} {after : Array Edge} {guard : Option (Nat × Bool)}
include hΘ hm ht
theorem quiet_slice {t : Nat} {x : Operand} {lo hi mx : Option Operand} (h : opv0 Θ tm mem ⟨dst, .slice t x lo hi mx, type, pos, after, guard⟩ = some (v, true)) : Quiet P φ w a ⟨dst, .slice t x lo hi mx, type, pos, after, guard⟩ v := by
 simp only [opv0] at h
 split at h
 ·rename_i ti xv c lo' c1 hi' c2 mx' c3 hti hx hlo hhi hmx
  have hT := hΘ.get hti
  obtain ⟨d, hd, hdu, hdr⟩ := hT.run_underlying
  have fin : ∀ {u : V} {z : Value}, (Instr.sliceAt t (a.eval x) (lo.map a.eval) (hi.map a.eval) (mx.map a.eval)).run P w = .ok z w → VR φ u z → Quiet P φ w a ⟨dst, .slice t x lo hi mx, type, pos, after, guard⟩ u := fun hz hr => ⟨_, run_v hz, hr⟩
  split at h
  ·
   rename_i s hty
   split at h
   ·simp only [Option.some.injEq, Prod.mk.injEq, Bool.and_eq_true, decide_eq_true_eq] at h
    obtain ⟨rfl, rfl, rfl, rfl, g1, g2, g3, g4⟩ := h
    have hmxn : mx = none := by
     unfold optI at hmx
     split at hmx
     ·rfl
     ·split at hmx
      ·simp only [Option.map_eq_some_iff] at hmx
       obtain ⟨_, _, e⟩ := hmx; cases e
      ·cases hmx
    subst hmxn
    have hv := VR_str.1 (rd_ok ht hx)
    have := desc_str hd (slT_ne hty (by simp))
    subst this
    have hmx' : optI tm none = some (none, true) := rfl
    have hsz : (⟨List.toArray s⟩ : ByteArray).size = s.length := by show (List.toArray s).size = _; simp
    have key := run_sliceBounds (P := P) ht hlo hhi hmx' (is := false) (len := s.length) (cap := s.length) (w := w) (by rfl) (by simp) g1 (by simpa using g2) g3 g4
    refine fin (z := .string ⟨(dropTake s (lo'.getD 0).toNat (hi'.getD s.length).toNat).toArray⟩) ?_ (VR_str.2 rfl)
    simp only [Instr.sliceAt, hdr, Sem.run_bind, Result.andThen, Instr.slice, hv, Option.map_none, Option.isSome_none, Bool.false_eq_true, if_false, hsz] at key ⊢
    rw [key]
    simp only [Sem.run_pure]
    rw [extract_bytes s _ _ (by omega) (by omega)]
   ·cases h
  ·
   rename_i hty
   obtain ⟨e, rfl, hsub⟩ := desc_slice hd hty
   rw [hsub] at h
   simp only at h
   cases hte : Θ e with
   | none => rw [hte] at h; simp at h
   | some te =>
   rw [hte] at h
   simp only [Option.isSome_some, cond_true] at h
   simp only [Option.some.injEq, Prod.mk.injEq, Bool.and_eq_true, decide_eq_true_eq] at h
   obtain ⟨rfl, rfl, rfl, rfl, rfl, g0, g1, g2, g3⟩ := h
   have hv := VR_nilslice.1 (rd_ok ht hx)
   have key := run_sliceBounds (P := P) ht hlo hhi hmx (is := true) (len := 0) (cap := 0) (w := w) g0 (by simp [g1]) (by simp [g2]) (by simp [g1, g2]) (by simp [g3]) (by simp [g2, g3])
   have hsz := (hΘ.get hte).run_sizeOf w
   refine fin (z := .slice none 0 0) ?_ (VR_nilslice.2 rfl)
   simp only [Instr.sliceAt, hdr, Sem.run_bind, Result.andThen, Instr.slice, hv] at key ⊢
   rw [key]
   simp only [hsz, Sem.run_pure]
   simp [g1, g2, g3]
  ·
   rename_i s hty
   split at h
   ·rename_i e hsub
    split at h
    ·rename_i te n' u hte hu
     cases hb : decide (u = te.ty) <;> rw [hb] at h
     ·cases h
     ·simp only [decide_eq_true_eq] at hb
      subst hb
      simp only [cond_true, Option.some.injEq, Prod.mk.injEq, Bool.and_eq_true, decide_eq_true_eq] at h
      obtain ⟨rfl, rfl, rfl, rfl, rfl, ⟨g0, g00⟩, g1, g2, g3, g4, g5⟩ := h
      obtain ⟨e', rfl, hsub'⟩ := desc_slice hd hty
      rw [hsub] at hsub'; cases hsub'
      rcases VR_slice.1 (rd_ok ht hx) with ⟨k0, k1, hav⟩ | ⟨ad, cc, hav, hlc, hcap, hnc, had⟩
      ·
       have hmn : mx' = none := by
        cases mx' with
        | none => rfl
        | some m => simp [k0, k1] at g00
       subst hmn
       simp only [k0, k1, Option.getD_none] at g1 g2 g3 g4 g5
       have q1 : hi'.getD ((0 : Nat) : Int) ≤ 0 := by simpa using g3
       have q2 : lo'.getD 0 ≤ hi'.getD ((0 : Nat) : Int) := g5
       have key := run_sliceBounds (P := P) ht hlo hhi hmx (is := true) (len := 0) (cap := 0) (w := w) g0 (by simp) g2 (by simpa using g3) g4 g5
       have hsz := (hΘ.get hte).run_sizeOf w
       refine fin (z := .slice none 0 0) ?_ (VR_slice.2 (.inl ⟨?_, ?_, rfl⟩))
       ·simp only [Instr.sliceAt, hdr, Sem.run_bind, Result.andThen, Instr.slice, hav] at key ⊢
        rw [key]
        simp only [hsz, Sem.run_pure]
        have e1 : (hi'.getD ((0 : Nat) : Int)).toNat = 0 := by omega
        have e2 : (lo'.getD 0).toNat = 0 := by omega
        simp only [e1, e2]
        simp
       ·show (hi'.getD ((s.len : Nat) : Int) - lo'.getD 0).toNat = 0
        rw [k0]; omega
       ·simp only [k1, Option.map_none]
      have hcp : (s.cap.getD s.len) ≤ cc := by
       cases hc : s.cap with
       | none => simpa using hlc
       | some k => rw [hcap k hc]; simp
      have hmx1 : mx'.getD (cc : Int) ≤ cc := by
       cases mx' with
       | none => simp
       | some m => simp at g1 ⊢; omega
      have hmx2 : hi'.getD (s.len : Int) ≤ mx'.getD (cc : Int) := by
       cases mx' with
       | none => simp at g3 ⊢; omega
       | some m => simpa using g3
      have key := run_sliceBounds (P := P) ht hlo hhi hmx (is := true) (len := s.len) (cap := cc) (w := w) g0 hmx1 g2 hmx2 g4 g5
      have hTe := hΘ.get hte
      have hvd : VD s → mx' = none ∧ lo'.getD 0 = 0 ∧ hi'.getD ((s.len : Nat) : Int) = 0 := fun hv => by
       obtain ⟨_, k0, k1⟩ := hv
       have hmn : mx' = none := by
        cases mx' with
        | none => rfl
        | some m => simp [k0, k1] at g00
       subst hmn
       simp only [k0, k1, Option.getD_none] at g3 g5
       have q1 : hi'.getD ((0 : Nat) : Int) ≤ 0 := by simpa using g3
       have q2 : lo'.getD 0 ≤ hi'.getD ((0 : Nat) : Int) := g5
       rw [k0]
       exact ⟨rfl, by omega, by omega⟩
      refine fin (z := .slice (if (mx'.getD (cc : Int)).toNat = (lo'.getD 0).toNat then some ad else (some ad).map (·.add ((lo'.getD 0).toNat * size te.ty))) ((hi'.getD (s.len : Int)).toNat - (lo'.getD 0).toNat) ((mx'.getD (cc : Int)).toNat - (lo'.getD 0).toNat)) ?_ ?_
      ·simp only [Instr.sliceAt, hdr, Sem.run_bind, Result.andThen, Instr.slice, hav] at key ⊢
       rw [key]
       simp only [hTe.run_sizeOf, Sem.run_pure]
      ·rw [VR_slice]
       refine .inr ⟨if (mx'.getD (cc : Int)).toNat = (lo'.getD 0).toNat then ad else ad.add ((lo'.getD 0).toNat * size te.ty), (mx'.getD (cc : Int)).toNat - (lo'.getD 0).toNat, ?_, ?_, ?_, ?_, ?_⟩
       ·have : (hi'.getD (s.len : Int)).toNat - (lo'.getD 0).toNat = ((hi'.getD (s.len : Int)) - lo'.getD 0).toNat := by omega
        simp only [this]
        split <;> rfl
       ·simp only; omega
       ·intro k hk
        simp only at hk
        cases mx' with
        | some m => simp at hk ⊢; omega
        | none =>
         simp only [Option.map_eq_some_iff] at hk
         obtain ⟨k', hk', rfl⟩ := hk
         have := hcap k' hk'
         simp; omega
       ·intro hk hc0 hnv
        have hnv' : ¬ VD s := fun hv => hnv (by
         obtain ⟨v1, v2, v3⟩ := hvd hv
         exact ⟨by simp only [v2]; simpa using hv.1, by simp only [v2, v3]; rfl, hk⟩)
        simp only at hk
        cases mx' with
        | some m => simp at hk
        | none =>
         simp only [Option.map_eq_none_iff] at hk
         obtain ⟨ph, hp, hpt, hpc⟩ := hnc hk (by omega) hnv'
         refine ⟨ph, hp, hpt, ?_⟩
         simp only [Option.getD_none] at *
         omega
       ·intro hpos hnv
        rw [if_neg (by omega)]
        refine addr_back hm hu (had (by omega) (fun hv => hnv ?_))
        obtain ⟨v1, v2, v3⟩ := hvd hv
        exact ⟨by simp only [v2]; simpa using hv.1, by simp only [v2, v3]; rfl, by simp only [v1, hv.2.2]; rfl⟩
    ·cases h
   ·cases h
  ·
   rename_i n u p hty
   split at h
   ·rename_i n' u' hu
    cases hb : Nat.beq n n' && decide (u = u') <;> rw [hb] at h
    ·cases h
    ·obtain ⟨hb1, hb2⟩ := and_split hb
     have hb1 := Nat.eq_of_beq_eq_true hb1
     simp only [decide_eq_true_eq] at hb2
     subst hb1; subst hb2
     simp only [cond_true, Option.some.injEq, Prod.mk.injEq, Bool.and_eq_true, decide_eq_true_eq] at h
     obtain ⟨rfl, rfl, rfl, rfl, rfl, g0, g1, g2, g3, g4, g5⟩ := h
     obtain ⟨ad, had, hav⟩ := VR_ptr.1 (rd_ok ht hx)
     obtain ⟨e, te, rfl, hte, rfl⟩ := desc_arr hd (slT_ne hty (by simp))
     have key := run_sliceBounds (P := P) ht hlo hhi hmx (is := false) (len := n) (cap := n) (w := w) g0 g1 g2 g3 g4 g5
     have hTe := hΘ.get hte
     refine fin (z := .slice (some (if (mx'.getD (n : Int)).toNat = (lo'.getD 0).toNat then ad else ad.add ((lo'.getD 0).toNat * size te.ty))) ((hi'.getD (n : Int)).toNat - (lo'.getD 0).toNat) ((mx'.getD (n : Int)).toNat - (lo'.getD 0).toNat)) ?_ ?_
     ·simp only [Instr.sliceAt, hdr, Sem.run_bind, Result.andThen, hav, Instr.sureAddr, Sem.run_pure] at key ⊢
      rw [key]
      simp only [hTe.run_sizeOf, Sem.run_pure]
     ·rw [VR_slice]
      refine .inr ⟨if (mx'.getD (n : Int)).toNat = (lo'.getD 0).toNat then ad else ad.add ((lo'.getD 0).toNat * size te.ty), (mx'.getD (n : Int)).toNat - (lo'.getD 0).toNat, ?_, ?_, ?_, ?_, ?_⟩
      ·have : (hi'.getD (n : Int)).toNat - (lo'.getD 0).toNat = ((hi'.getD (n : Int)) - lo'.getD 0).toNat := by omega
       simp only [this]
      ·simp only; omega
      ·intro k hk
       simp only [Option.some.injEq] at hk
       omega
      ·intro hk; simp at hk
      ·intro hpos _
       rw [if_neg (by omega)]
       exact addr_step hm hu had
   ·cases h
  ·cases h
 ·cases h
theorem opv0_ok {o : Oper} (h : opv0 Θ tm mem o = some (v, true)) : Quiet P φ w a o v := by
 obtain ⟨dst, op, type, pos, after, guard⟩ := o
 cases op <;> try (simp [opv0] at h; done)
 case move => exact quiet_move hΘ hm ht h
 case assign => exact quiet_assign hΘ hm ht h
 case pick => exact quiet_pick hΘ hm ht h
 case build => exact quiet_build hΘ hm ht h
 case load => exact quiet_load hΘ hm ht h
 case nilCheck => exact quiet_nilCheck hΘ hm ht h
 case binOp => exact quiet_binOp hΘ hm ht h
 case unOp => exact quiet_unOp hΘ hm ht h
 case convert => exact quiet_convert hΘ hm ht h
 case makeFunc fn _ _ =>
  cases fn <;> try (simp [opv0] at h; done)
  exact quiet_makeFunc hΘ hm ht h
 case slice => exact quiet_slice hΘ hm ht h
 case fieldAddr => exact quiet_fieldAddr hΘ hm ht h
 case field => exact quiet_field hΘ hm ht h
 case indexAddr => exact quiet_indexAddr hΘ hm ht h
 case index => exact quiet_index hΘ hm ht h
 case extract => exact quiet_extract hΘ hm ht h
 case call c =>
  obtain ⟨callee, args, ts⟩ := c
  cases callee <;> try (simp [opv0] at h; done)
  rename_i b
  cases b <;> try (simp [opv0] at h; done)
  ·exact quiet_len hΘ hm ht h
  ·exact quiet_min hΘ hm ht true h
  ·exact quiet_min hΘ hm ht false h
end
end Go.GX

namespace Go.GX
set_option linter.unusedSimpArgs false
set_option linter.unusedVariables false
set_option linter.unusedSectionVars false
open Go.RowKit (Below)
theorem VR_vsl {φ : Phi} {e : Ty} {l : List e.den} {v : Value} : VR φ ⟨.vsl e, l⟩ v ↔ CR φ (.vs l.length (flat (.arr l.length e) l)) v := ⟨fun h => cell_of_VR (t := .vsl e) rfl rfl rfl h, fun h => VR_cell (t := .vsl e) rfl rfl rfl h⟩
theorem VR_vptr {φ : Phi} {e : Ty} {x : e.den} {v : Value} : VR φ ⟨.vptr e, x⟩ v ↔ CR φ (.vp (flat e x)) v := ⟨fun h => cell_of_VR (t := .vptr e) rfl rfl rfl h, fun h => VR_cell (t := .vptr e) rfl rfl rfl h⟩
theorem CRs_sub {φ : Phi} {cs ds : List Cell} {vs : List Value} {o : Nat} (h : CRs φ cs vs) (hd : ∀ (i : Nat) c, ds[i]? = some c → cs[o + i]? = some c) : CRs φ ds (vs.drop o) := by
 rw [CRs_iff] at h ⊢
 intro i c hi
 obtain ⟨v, hv, hr⟩ := h _ _ (hd i c hi)
 exact ⟨v, by rw [List.getElem?_drop]; exact hv, hr⟩
theorem imm_cell {base : Nat} {φ : Phi} {mem : Mem} {nxt : Nat} {w : World} (hm : MemRel base φ mem nxt w) {a : Addr} {os : Array Value} {el : TypeId} {fr : Nat × Nat} (h : φ.imm a.block = some (.cells os el fr)) (hs : a.spot = none) (i : Nat) :
 w.cell? ⟨a.block, a.off + i, none⟩ = os[a.off + i]? := by
 have := hm.imm _ _ h
 simp only [World.cell?, this]
 rfl
def bytesOf (l : List Int) : List UInt8 := l.map fun n => UInt8.ofNat n.toNat
def rdI (tm : TM) (x : Operand) : Option (Int × Bool) := match rd tm x with
 | some (v, c) => (match asI v with | some (_, n) => some (n, c) | none => none)
 | none => none
theorem rdI_eq {tm : TM} {x : Operand} {n : Int} {c : Bool} (h : rdI tm x = some (n, c)) : ∃ k, rd tm x = some (⟨.int k, n⟩, c) := by
 unfold rdI at h
 split at h
 ·rename_i v c' hv
  split at h
  ·rename_i k n' hn
   cases h
   rw [hv, asI_eq hn]
   exact ⟨_, rfl⟩
  ·cases h
 ·cases h
def opn (Θ : Tab) (tm : TM) (o : Oper) : Option (V × Bool) :=
 match o.op with
 | .load t a => match Θ t, rd tm a with
  | some ti, some (⟨.vptr e, x⟩, c) => if e = ti.ty then some (⟨e, x⟩, c) else none
  | _, _ => none
 | .nilCheck a => match rd tm a with
  | some (⟨.vptr e, x⟩, c) => some (⟨.vptr e, x⟩, c)
  | _ => none
 | .fieldAddr t a f => match Θ t, rd tm a with
  | some ti, some (⟨.vptr e, x⟩, c) => if e = ti.ty then (match nav e x [f] with
   | some g => bif inb e [f] && (isPair e && !(Nat.beq (size g.t) 0)) then some (⟨.vptr g.t, g.x⟩, c) else none
   | none => none) else none
  | _, _ => none
 | .indexAddr t a i => match Θ t, rd tm a, rdI tm i with
  | some ti, some (⟨.vsl e, l⟩, c), some (i, d) => if .vsl e = ti.ty then some (⟨.vptr e, l.getD i.toNat (dflt e)⟩, c && (d && (decide (0 ≤ i) && decide (i < l.length)))) else none
  | some ti, some (⟨.vptr (.arr n e), l⟩, c), some (i, d) => if .arr n e = ti.ty then some (⟨.vptr e, (show List e.den from l).getD i.toNat (dflt e)⟩, c && (d && (decide (0 ≤ i) && decide (i < n)))) else none
  | _, _, _ => none
 | .slice t a lo hi mx => match Θ t, rd tm a, optI tm lo, optI tm hi, mx with
  | some ti, some (⟨.vsl e, l⟩, c), some (lo, c1), some (hi, c2), none => if .vsl e = ti.ty then
   (let h := hi.getD l.length; let k := lo.getD 0
   some (⟨.vsl e, (l.drop k.toNat).take (h - k).toNat⟩, c && (c1 && (c2 && (decide (0 ≤ h) && (decide (h ≤ l.length) && (decide (0 ≤ k) && decide (k ≤ h)))))))) else none
  | _, _, _, _, _ => none
 | .convert s d a => match Θ s, Θ d, rd tm a with
  | some si, some di, some (⟨.vsl (.int .u8), l⟩, c) => if si.ty = .vsl (.int .u8) then (if di.ty = .str then some (⟨.str, bytesOf l⟩, c) else none) else none
  | _, _, _ => none
 | .call ⟨.builtin .len, args, ts⟩ => match args.toList, ts.toList with
  | [a], [t] => match Θ t, rd tm a with
   | some ti, some (⟨.vsl e, l⟩, c) => if .vsl e = ti.ty then some (⟨.int .i64, (l.length : Int)⟩, c) else none
   | _, _ => none
  | _, _ => none
 | _ => none
section
variable {P : Program} {Θ : Tab} {base : Nat} {φ : Phi} {mem : Mem} {nxt : Nat} {w : World} {tm : TM} {a : Act} {v : V}
variable (hΘ : TabOK P Θ) (hm : MemRel base φ mem nxt w) (ht : TmR φ tm a.tmps)
variable {dst : Option Tmp} {type : TypeId} {pos : String} {after : Array Edge} {guard : Option (Nat × Bool)}
include hΘ hm ht
theorem vq_load {t : Nat} {x : Operand} (h : opn Θ tm ⟨dst, .load t x, type, pos, after, guard⟩ = some (v, true)) : Quiet P φ w a ⟨dst, .load t x, type, pos, after, guard⟩ v := by
 simp only [opn] at h
 split at h
 ·rename_i ti e y c hti hx
  split at h
  ·rename_i he
   cases h
   subst he
   have hT := hΘ.get hti
   have hv := VR_vptr.1 (rd_ok ht hx)
   unfold CR at hv
   obtain ⟨ad, hav, hsp, os, el, fr, him, hcs⟩ := hv
   obtain ⟨b, o, sp⟩ := ad
   simp only at hsp him hcs
   subst hsp
   rw [CRs_iff] at hcs
   obtain ⟨z, hz, hzr⟩ := run_loadVar (P := P) hT (x := y) (w := w) (k := b) (o := o) (φ := φ) (fun i c hc => by
    obtain ⟨u, hu, hr⟩ := hcs i c hc
    refine ⟨u, ?_, hr⟩
    rw [imm_cell hm (a := ⟨b, o, none⟩) him rfl i]
    rw [List.getElem?_drop] at hu
    simpa using hu)
   refine ⟨z, run_v ?_, VR_of_V1 hT.tup hzr⟩
   simp only [Instr.loadAt, hav, Instr.sureAddr, Sem.run_bind, Sem.run_pure, Result.andThen]
   exact hz
  ·cases h
 ·cases h
theorem vq_nilCheck {x : Operand} (h : opn Θ tm ⟨dst, .nilCheck x, type, pos, after, guard⟩ = some (v, true)) : Quiet P φ w a ⟨dst, .nilCheck x, type, pos, after, guard⟩ v := by
 simp only [opn] at h
 split at h
 ·rename_i e y c hx
  cases h
  have hv := rd_ok ht hx
  have hv' := VR_vptr.1 hv
  unfold CR at hv'
  obtain ⟨ad, hav, _⟩ := hv'
  refine ⟨a.eval x, ?_, hv⟩
  simp only [execOp, hav]; rfl
 ·cases h
theorem vq_fieldAddr {t : Nat} {x : Operand} {f : Nat} (h : opn Θ tm ⟨dst, .fieldAddr t x f, type, pos, after, guard⟩ = some (v, true)) : Quiet P φ w a ⟨dst, .fieldAddr t x f, type, pos, after, guard⟩ v := by
 simp only [opn] at h
 split at h
 ·rename_i ti e y c hti hx
  split at h
  ·rename_i he
   subst he
   split at h
   ·rename_i g hg
    cases hb : inb ti.ty [f] && (isPair ti.ty && !(Nat.beq (size g.t) 0)) <;> rw [hb] at h
    ·cases h
    ·simp only [cond_true, Option.some.injEq, Prod.mk.injEq] at h
     obtain ⟨rfl, rfl⟩ := h
     obtain ⟨h1, h23⟩ := and_split hb
     obtain ⟨hpr, h2⟩ := and_split h23
     have hT := hΘ.get hti
     obtain ⟨d, hd, hdu, hdr⟩ := hT.run_underlying
     obtain ⟨fs, rfl, hso⟩ := desc_struct hd hpr
     obtain ⟨fd, tf, hf, htf, hty, htu, ho, _⟩ := struct_fields hso (nav_tyAt hg)
     have hTf := hΘ.get htf
     have h3 : size tf.ty ≠ 0 := by
      rw [fldOK_size hty]; intro e; rw [e] at h2; simp at h2
     obtain ⟨o, ho', hs, hgg⟩ := nav_spec _ _ _ _ hg h1
     rw [ho] at ho'
     simp only [Option.some.injEq] at ho'
     subst ho'
     have hv := VR_vptr.1 (rd_ok ht hx)
     unfold CR at hv
     obtain ⟨ad, hav, hsp, os, el, fr, him, hcs⟩ := hv
     obtain ⟨b, o, sp⟩ := ad
     simp only at hsp him hcs
     subst hsp
     refine ⟨.pointer (some ⟨b, o + fd.offset, none⟩), run_v ?_, VR_vptr.2 ?_⟩
     ·have hf' : fs[f]? = some fd := by simpa using hf
      simp only [Instr.fieldAt, hdr, Sem.run_bind, Result.andThen, hf', hav, Instr.sureAddr, Sem.run_pure, fieldPlace, hTf.run_sizeOf]
      rw [if_neg h3, ← add_off]; rfl
     ·unfold CR
      refine ⟨⟨b, o + fd.offset, none⟩, rfl, rfl, os, el, fr, him, ?_⟩
      have := CRs_sub (o := fd.offset) (ds := flat g.t g.x) hcs (fun i c hi => by
       have hi' : i < size g.t := by rw [← length_flat g.t g.x]; exact (List.getElem?_eq_some_iff.1 hi).1
       simp only [Nat.sub_zero] at hgg
       rw [hgg i hi']; exact hi)
      rw [List.drop_drop] at this
      exact this
   ·cases h
  ·cases h
 ·cases h
theorem vq_indexAddr {t : Nat} {x i : Operand} (h : opn Θ tm ⟨dst, .indexAddr t x i, type, pos, after, guard⟩ = some (v, true)) : Quiet P φ w a ⟨dst, .indexAddr t x i, type, pos, after, guard⟩ v := by
 simp only [opn] at h
 split at h
 ·rename_i ti e l c n d hti hx hi
  obtain ⟨k, hi⟩ := rdI_eq hi
  split at h
  ·rename_i he
   simp only [Option.some.injEq, Prod.mk.injEq] at h
   obtain ⟨rfl, hok⟩ := h
   obtain ⟨rfl, hok2⟩ := and_split hok
   obtain ⟨rfl, hok3⟩ := and_split hok2
   simp only [Bool.and_eq_true, decide_eq_true_eq] at hok3
   have hT := hΘ.get hti
   obtain ⟨dd, hd, hdu, hdr⟩ := hT.run_underlying
   obtain ⟨e', te, rfl, hsub, hte, hty, htu⟩ := desc_vsl hd he.symm
   have hv := VR_vsl.1 (rd_ok ht hx)
   unfold CR at hv
   rcases hv with ⟨h0, _⟩ | ⟨ad, cc, hav, hlc, himm⟩
   ·omega
   ·obtain ⟨hsp, os, el, fr, him, hcs⟩ := himm (by omega)
    obtain ⟨b, o, sp⟩ := ad
    simp only at hsp him hcs
    subst hsp
    have hiv := VR_int.1 (rd_ok ht hi)
    refine ⟨.pointer (some (Addr.add ⟨b, o, none⟩ (n.toNat * size te.ty))), run_v ?_, VR_vptr.2 ?_⟩
    ·simp only [Instr.indexAt, hiv, hav, asIntOf, hdr, Sem.run_bind, Sem.run_pure, Result.andThen]
     rw [if_pos hok3]
     simp only [Sem.run_bind, (hΘ.get hte).run_sizeOf, Sem.run_pure, Result.andThen]
    ·unfold CR
     rw [add_off, hty]
     refine ⟨_, rfl, rfl, os, el, fr, him, ?_⟩
     have := CRs_sub (o := n.toNat * size e) (ds := flat e (l.getD n.toNat (dflt e))) hcs (fun i c hi => by
      have hi' : i < size e := by rw [← length_flat e (l.getD n.toNat (dflt e))]; exact (List.getElem?_eq_some_iff.1 hi).1
      rw [flat, get_flatMap_const _ (size e) (fun i => length_flat e _) l.length _ _ (by omega) hi']; exact hi)
     rw [List.drop_drop] at this
     exact this
  ·cases h
 ·rename_i ti n1 e l c n d hti hx hi
  obtain ⟨k, hi⟩ := rdI_eq hi
  split at h
  ·rename_i he
   simp only [Option.some.injEq, Prod.mk.injEq] at h
   obtain ⟨rfl, hok⟩ := h
   obtain ⟨rfl, hok2⟩ := and_split hok
   obtain ⟨rfl, hok3⟩ := and_split hok2
   simp only [Bool.and_eq_true, decide_eq_true_eq] at hok3
   have hT := hΘ.get hti
   obtain ⟨dd, hd, hdu, hdr⟩ := hT.run_underlying
   obtain ⟨e', te, rfl, hte, hty⟩ := desc_arr hd he.symm
   have hv := VR_vptr.1 (rd_ok ht hx)
   unfold CR at hv
   obtain ⟨ad, hav, hsp, os, el, fr, him, hcs⟩ := hv
   obtain ⟨b, o, sp⟩ := ad
   simp only at hsp him hcs
   subst hsp
   have hiv := VR_int.1 (rd_ok ht hi)
   refine ⟨.pointer (some (Addr.add ⟨b, o, none⟩ (n.toNat * size te.ty))), run_v ?_, VR_vptr.2 ?_⟩
   ·simp only [Instr.indexAt, hiv, hav, asIntOf, hdr, Instr.sureAddr, Sem.run_bind, Sem.run_pure, Result.andThen]
    rw [if_pos hok3]
    simp only [Sem.run_bind, (hΘ.get hte).run_sizeOf, Sem.run_pure, Result.andThen]
   ·unfold CR
    rw [add_off, hty]
    refine ⟨_, rfl, rfl, os, el, fr, him, ?_⟩
    have := CRs_sub (o := n.toNat * size e) (ds := flat e (List.getD (show List e.den from l) n.toNat (dflt e))) hcs (fun i c hi => by
     have hi' : i < size e := by rw [← length_flat e (List.getD (show List e.den from l) n.toNat (dflt e))]; exact (List.getElem?_eq_some_iff.1 hi).1
     rw [flat, get_flatMap_const _ (size e) (fun i => length_flat e _) n1 _ _ (by omega) hi']; exact hi)
    rw [List.drop_drop] at this
    exact this
  ·cases h
 ·cases h
theorem vq_len {x : Array Operand} {ts : Array Nat} (h : opn Θ tm ⟨dst, .call ⟨.builtin .len, x, ts⟩, type, pos, after, guard⟩ = some (v, true)) : Quiet P φ w a ⟨dst, .call ⟨.builtin .len, x, ts⟩, type, pos, after, guard⟩ v := by
 simp only [opn] at h
 split at h
 ·rename_i y t hx hts
  split at h
  ·rename_i ti e l c hti hy
   split at h
   ·rename_i he
    cases h
    have e1 : x = #[y] := by apply Array.ext'; simpa using hx
    have e2 : ts = #[t] := by apply Array.ext'; simpa using hts
    subst e1; subst e2
    have hT := hΘ.get hti
    obtain ⟨d, hd, hdu, hdr⟩ := hT.run_underlying
    obtain ⟨e', te, rfl, _⟩ := desc_vsl hd he.symm
    have hv := VR_vsl.1 (rd_ok ht hy)
    have hav : ∃ p c, a.eval y = .slice p l.length c := by
     unfold CR at hv
     rcases hv with ⟨h0, h1⟩ | ⟨ad, cc, h1, _⟩
     ·exact ⟨_, _, by rw [h1, h0]⟩
     ·exact ⟨_, _, h1⟩
    obtain ⟨p, c, hav⟩ := hav
    refine ⟨.int .i64 l.length, ?_, VR_int.2 rfl⟩
    simp only [execOp, resolve, invoke, builtin, Sem.run_bind, Sem.run_pure, Result.andThen, List.map_toArray, List.map_cons, List.map_nil]
    simp only [Builtin.len_, Sem.run_bind, hdr, Result.andThen, hav, List.getElem?_toArray, List.getElem?_cons_zero]
    rfl
   ·cases h
  ·cases h
 ·cases h
theorem vq_slice {t : Nat} {x : Operand} {lo hi mx : Option Operand} (h : opn Θ tm ⟨dst, .slice t x lo hi mx, type, pos, after, guard⟩ = some (v, true)) : Quiet P φ w a ⟨dst, .slice t x lo hi mx, type, pos, after, guard⟩ v := by
 simp only [opn] at h
 split at h
 ·rename_i ti e l c lo' c1 hi' c2 hti hx hlo hhi
  split at h
  ·rename_i he
   simp only [Option.some.injEq, Prod.mk.injEq, Bool.and_eq_true, decide_eq_true_eq] at h
   obtain ⟨rfl, rfl, rfl, rfl, g1, g2, g3, g4⟩ := h
   have hT := hΘ.get hti
   obtain ⟨d, hd, hdu, hdr⟩ := hT.run_underlying
   obtain ⟨e', te, rfl, hsub, hte, hty, htu⟩ := desc_vsl hd he.symm
   have hTe := hΘ.get hte
   have hmx' : optI tm none = some (none, true) := rfl
   have fin : ∀ {u : V} {z : Value}, (Instr.sliceAt t (a.eval x) (lo.map a.eval) (hi.map a.eval) none).run P w = .ok z w → VR φ u z → Quiet P φ w a ⟨dst, .slice t x lo hi none, type, pos, after, guard⟩ u := fun hz hr => ⟨_, run_v hz, hr⟩
   have hv := VR_vsl.1 (rd_ok ht hx)
   have hln : ((l.drop (lo'.getD 0).toNat).take (hi'.getD (l.length : Int) - lo'.getD 0).toNat).length = (hi'.getD (l.length : Int)).toNat - (lo'.getD 0).toNat := by
    rw [List.length_take, List.length_drop]; omega
   unfold CR at hv
   rcases hv with ⟨h0, hav⟩ | ⟨ad, cc, hav, hlc, himm⟩
   ·rw [h0] at g1 g2 g4 hln
    have key := run_sliceBounds (P := P) ht hlo hhi hmx' (is := true) (len := 0) (cap := 0) (w := w) rfl (by simp) g1 (by simpa using g2) g3 g4
    have e1 : (hi'.getD ((0 : Nat) : Int)).toNat = 0 := by omega
    have e2 : (lo'.getD 0).toNat = 0 := by omega
    refine fin (z := .slice none 0 0) ?_ (VR_vsl.2 ?_)
    ·simp only [Instr.sliceAt, hdr, Sem.run_bind, Result.andThen, Instr.slice, hav, Option.map_none] at key ⊢
     rw [key]
     simp only [hTe.run_sizeOf, Sem.run_pure, e1, e2]
     simp
    ·unfold CR
     refine .inl ⟨?_, rfl⟩
     rw [h0]; rw [hln]; omega
   ·have key := run_sliceBounds (P := P) ht hlo hhi hmx' (is := true) (len := l.length) (cap := cc) (w := w) rfl (by simp) g1 (by simp; omega) g3 g4
    refine fin (z := .slice (if cc = (lo'.getD 0).toNat then some ad else (some ad).map (·.add ((lo'.getD 0).toNat * size te.ty))) ((hi'.getD (l.length : Int)).toNat - (lo'.getD 0).toNat) (cc - (lo'.getD 0).toNat)) ?_ (VR_vsl.2 ?_)
    ·simp only [Instr.sliceAt, hdr, Sem.run_bind, Result.andThen, Instr.slice, hav, Option.map_none] at key ⊢
     rw [key]
     simp only [hTe.run_sizeOf, Sem.run_pure, Option.getD_none, Int.toNat_natCast]
    ·unfold CR
     refine .inr ⟨if cc = (lo'.getD 0).toNat then ad else ad.add ((lo'.getD 0).toNat * size te.ty), cc - (lo'.getD 0).toNat, ?_, ?_, fun hne => ?_⟩
     ·rw [hln]; split <;> rfl
     ·rw [hln]; omega
     ·rw [hln] at hne
      obtain ⟨hsp, os, el, fr, him, hcs⟩ := himm (by omega)
      obtain ⟨b, o, sp⟩ := ad
      simp only at hsp him hcs
      subst hsp
      rw [if_neg (by omega), add_off, hty]
      refine ⟨rfl, os, el, fr, him, ?_⟩
      have := CRs_sub (o := (lo'.getD 0).toNat * size e) (ds := flat (.arr ((l.drop (lo'.getD 0).toNat).take (hi'.getD (l.length : Int) - lo'.getD 0).toNat).length e) ((l.drop (lo'.getD 0).toNat).take (hi'.getD (l.length : Int) - lo'.getD 0).toNat)) hcs (fun i c hi => by
       have hi' := (List.getElem?_eq_some_iff.1 hi).1
       rw [length_flat, size] at hi'
       have hpos : 0 < size e := by
        rcases Nat.eq_zero_or_pos (size e) with h0 | h0
        ·rw [h0] at hi'; omega
        ·exact h0
       have hq : i / size e < ((l.drop (lo'.getD 0).toNat).take (_ - lo'.getD 0).toNat).length := Nat.div_lt_of_lt_mul (by rw [Nat.mul_comm]; exact hi')
       have hr : i % size e < size e := Nat.mod_lt _ hpos
       have hkk : i = i / size e * size e + i % size e := by rw [Nat.mul_comm]; exact (Nat.div_add_mod i (size e)).symm
       rw [flat, hkk, get_flatMap_const _ (size e) (fun i => length_flat e _) _ _ _ hq hr] at hi
       rw [show (lo'.getD 0).toNat * size e + i = ((lo'.getD 0).toNat + i / size e) * size e + i % size e from by rw [Nat.add_mul]; omega]
       rw [hln] at hq
       rw [flat, get_flatMap_const _ (size e) (fun i => length_flat e _) l.length _ _ (by omega) hr]
       rw [← hi]
       congr 1
       congr 1
       simp only [List.getD_eq_getElem?_getD]
       congr 1
       rw [List.getElem?_take_of_lt (by omega), List.getElem?_drop])
      rw [List.drop_drop] at this
      exact this
  ·cases h
 ·cases h
theorem vq_convert {s d : Nat} {x : Operand} (h : opn Θ tm ⟨dst, .convert s d x, type, pos, after, guard⟩ = some (v, true)) : Quiet P φ w a ⟨dst, .convert s d x, type, pos, after, guard⟩ v := by
 simp only [opn] at h
 split at h
 ·rename_i si di l0 c hsi hdi hx
  obtain ⟨l, hl0⟩ : ∃ l : List Int, l = l0 := ⟨l0, rfl⟩
  subst hl0
  split at h
  ·rename_i hs
   split at h
   ·rename_i hdd
    cases h
    have hS := hΘ.get hsi
    have hD := hΘ.get hdi
    obtain ⟨sd, hsd, hsdu, hsdr⟩ := hS.run_underlying
    obtain ⟨dd, hddd, hddu, hddr⟩ := hD.run_underlying
    obtain ⟨e', te, rfl, hsub, hte, hty, htu⟩ := desc_vsl hsd hs
    have := desc_str hddd hdd
    subst this
    obtain ⟨ed, hed, _, hedr⟩ := (hΘ.get hte).run_underlying
    have := desc_int hed hty
    subst this
    have hv := VR_vsl.1 (rd_ok ht hx)
    unfold CR at hv
    have hz : (Conv.bytesToString (a.eval x)).run P w = .ok (.string ⟨(bytesOf l).toArray⟩) w := by
     rcases hv with ⟨h0, hav⟩ | ⟨ad, cc, hav, hlc, himm⟩
     ·rw [hav]
      have : l = [] := List.length_eq_zero_iff.1 h0
      subst this
      simp [Conv.bytesToString, bytesOf, Sem.run_pure]; rfl
     ·rw [hav]
      refine run_bytesToString ?_
      rcases Nat.eq_zero_or_pos l.length with h0 | hpos
      ·have : l = [] := List.length_eq_zero_iff.1 h0
       subst this
       simp [loadCells, loadCellsFrom, Sem.run_pure]
      ·obtain ⟨hsp, os, el, fr, him, hcs⟩ := himm (by omega)
       obtain ⟨b, o, sp⟩ := ad
       simp only at hsp him hcs
       subst hsp
       rw [CRs_iff] at hcs
       have := run_loadCells_list (P := P) w ⟨b, o, none⟩ (l.map fun n => Value.int .u8 n) (fun j u hj => by
        simp only [List.getElem?_map, Option.map_eq_some_iff] at hj
        obtain ⟨n, hn, rfl⟩ := hj
        have hjl : j < l.length := (List.getElem?_eq_some_iff.1 hn).1
        obtain ⟨u, hu, hr⟩ := hcs j (.c0 (.int .u8 n)) (by
         have := get_flatMap_const (fun i => flat (.int .u8) (l.getD i (dflt (.int .u8)))) 1 (fun i => rfl) l.length j 0 hjl (by omega)
         rw [flat]
         rw [Nat.mul_one, Nat.add_zero] at this
         rw [this]
         have e : l.getD j (dflt (.int .u8)) = n := by rw [List.getD_eq_getElem?_getD, hn]; rfl
         rw [e]; rfl)
        rw [CR_c0] at hr
        simp only [CR0] at hr
        subst hr
        rw [add_off, imm_cell hm (a := ⟨b, o, none⟩) him rfl j]
        rw [List.getElem?_drop] at hu
        simpa using hu)
       simpa using this
    have hav : ∃ p q r, a.eval x = .slice p q r := by
     rcases hv with ⟨h0, hav⟩ | ⟨ad, cc, hav, hlc, him⟩ <;> exact ⟨_, _, _, hav⟩
    obtain ⟨p, q, r, hav⟩ := hav
    refine ⟨_, run_v ?_, VR_str.2 rfl⟩
    rw [hav] at hz ⊢
    simp only [convert, hsdr, hddr, hedr, Sem.run_bind, Result.andThen]
    exact hz
   ·cases h
  ·cases h
 ·cases h
theorem opn_ok {o : Oper} (h : opn Θ tm o = some (v, true)) : Quiet P φ w a o v := by
 obtain ⟨dst, op, type, pos, after, guard⟩ := o
 cases op <;> try (simp [opn] at h; done)
 case load => exact vq_load hΘ hm ht h
 case nilCheck => exact vq_nilCheck hΘ hm ht h
 case fieldAddr => exact vq_fieldAddr hΘ hm ht h
 case indexAddr => exact vq_indexAddr hΘ hm ht h
 case slice => exact vq_slice hΘ hm ht h
 case convert => exact vq_convert hΘ hm ht h
 case call c =>
  obtain ⟨callee, args, ts⟩ := c
  cases callee <;> try (simp [opn] at h; done)
  rename_i b
  cases b <;> try (simp [opn] at h; done)
  exact vq_len hΘ hm ht h
end
end Go.GX

namespace Go.GX
set_option linter.unusedSimpArgs false
set_option linter.unusedVariables false
set_option linter.unusedSectionVars false
open Go.RowKit (Below)
@[reducible] def MT (K E : Ty) : Ty := .tup K (.tup E .tnil)
def keyK : Ty → Bool
 | .bool | .int _ | .str => true
 | _ => false
def mget (K E : Ty) (d : E.den) : List (MT K E).den → K.den → E.den
 | [], _ => d
 | x :: r, k => bif eqb K k x.1 then x.2.1 else mget K E d r k
def mhas (K E : Ty) : List (MT K E).den → K.den → Bool
 | [], _ => false
 | x :: r, k => bif eqb K k x.1 then true else mhas K E r k
def mput (K E : Ty) : List (MT K E).den → K.den → E.den → List (MT K E).den
 | [], k, v => [(k, v, ())]
 | x :: r, k, v => bif eqb K k x.1 then (k, v, ()) :: r else x :: mput K E r k v
def mix (K E : Ty) : List (MT K E).den → K.den → Nat
 | [], _ => 0
 | x :: r, k => bif eqb K k x.1 then 0 else mix K E r k + 1
def mins (K E : Ty) (d : E.den) (row : List (MT K E).den) (k : K.den) : List (MT K E).den := bif mhas K E row k then row.set (mix K E row k) (k, mget K E d row k, ()) else row ++ [(k, d, ())]
def mset (K E : Ty) : List (MT K E).den → Nat → E.den → List (MT K E).den
 | [], _, _ => []
 | x :: r, 0, v => (x.1, v, ()) :: r
 | x :: r, j + 1, v => x :: mset K E r j v
def asBlk (t : Ty) (b : Blk) : Option (List t.den) := if h : b.t = t then some (h ▸ b.row) else none
theorem asBlk_eq {t : Ty} {b : Blk} {r : List t.den} (h : asBlk t b = some r) : b = ⟨t, b.n, r, b.wr⟩ := by
 unfold asBlk at h
 split at h
 ·rename_i e
  obtain ⟨t', n, row, wr⟩ := b
  simp only at e
  subst e
  cases h; rfl
 ·cases h
def mapB (mem : Mem) (K E : Ty) : Option Nat → Option (List (MT K E).den)
 | none => some []
 | some i => match Mem.get mem i with
  | some b => asBlk (MT K E) b
  | none => none
def opm (Θ : Tab) (tm : TM) (mem : Mem) (o : Oper) : Option (V × Bool) :=
 match o.op with
 | .lookup t m k ok => match Θ t, rd tm m, rd tm k with
  | some ti, some (⟨.map, mv⟩, c), some (kv, d) => match decide (ti.ty = .map), ti.sub with
   | true, [ke, ee] => match Θ ke, Θ ee with
    | some ki, some ei => bif keyK ki.ty then
     (match asT ki.ty kv, mapB mem ki.ty ei.ty mv with
     | some k, some row => some (bif ok then ⟨.tup ei.ty (.tup .bool .tnil), (mget ki.ty ei.ty (dflt ei.ty) row k, mhas ki.ty ei.ty row k, ())⟩ else ⟨ei.ty, mget ki.ty ei.ty (dflt ei.ty) row k⟩, c && d)
     | _, _ => none) else none
    | _, _ => none
   | _, _ => none
  | _, _, _ => none
 | .call ⟨.builtin .len, args, ts⟩ => match args.toList, ts.toList with
  | [x], [t] => match Θ t, rd tm x with
   | some ti, some (⟨.map, mv⟩, c) => match decide (ti.ty = .map), ti.sub with
    | true, [ke, ee] => match Θ ke, Θ ee with
     | some ki, some ei => (match mapB mem ki.ty ei.ty mv with | some row => some (⟨.int .i64, (row.length : Int)⟩, c) | none => none)
     | _, _ => none
    | _, _ => none
   | _, _ => none
  | _, _ => none
 | _ => none
def opv (Θ : Tab) (tm : TM) (mem : Mem) (o : Oper) : Option (V × Bool) :=
 match opn Θ tm o with
 | some r => some r
 | none => match opm Θ tm mem o with
  | some r => some r
  | none => opv0 Θ tm mem o
def ER (φ : Phi) (K E : Ty) : List (MT K E).den → List MapEntry → Prop
 | [], [] => True
 | x :: r, e :: es => (V1 φ K x.1 e.key ∧ V1 φ E x.2.1 e.val) ∧ ER φ K E r es
 | _, _ => False
theorem ER_iff {φ : Phi} {K E : Ty} : ∀ {row : List (MT K E).den} {es : List MapEntry}, ER φ K E row es ↔ es.length = row.length ∧ ∀ (i : Nat) x, row[i]? = some x → ∃ e, es[i]? = some e ∧ V1 φ K x.1 e.key ∧ V1 φ E x.2.1 e.val
 | [], [] => ⟨fun _ => ⟨rfl, fun i x h => by simp at h⟩, fun _ => trivial⟩
 | [], _ :: _ => ⟨fun h => h.elim, fun h => by simp at h⟩
 | _ :: _, [] => ⟨fun h => h.elim, fun h => by simp at h⟩
 | x :: r, e :: es => by
  unfold ER
  rw [ER_iff (row := r) (es := es)]
  constructor
  ·rintro ⟨h1, h2, h3⟩
   refine ⟨by simp [h2], fun i y hi => ?_⟩
   cases i with
   | zero => simp at hi; subst hi; exact ⟨e, rfl, h1⟩
   | succ i => simpa using h3 i y (by simpa using hi)
  ·rintro ⟨h1, h2⟩
   refine ⟨?_, by simpa using h1, fun i y hi => by simpa using h2 (i + 1) y (by simpa using hi)⟩
   obtain ⟨e', he, hr⟩ := h2 0 x rfl
   simp at he; subst he; exact hr
open Go.MapKept in
theorem key_is {Θ : Tab} {ti : TI} {d : TypeDesc} (hd : descOK Θ ti d = true) (hk : keyK ti.ty = true) {φ : Phi} {k : ti.ty.den} {v : Value} (h : V1 φ ti.ty k v) : IsKey d v := by
 obtain ⟨ty, by_, sub, cmp⟩ := ti
 simp only at hk k h
 cases ty <;> simp [keyK] at hk
 ·have := desc_bool hd rfl; subst this
  have := V1_bool h; subst this; exact trivial
 ·have := desc_int hd rfl; subst this
  have := V1_int h; subst this; exact rfl
 ·have := desc_str hd rfl; subst this
  have := V1_str h; subst this; exact trivial
theorem key_same {Θ : Tab} {ti : TI} {d : TypeDesc} (hd : descOK Θ ti d = true) (hk : keyK ti.ty = true) {φ : Phi} {k k' : ti.ty.den} {v v' : Value} (h : V1 φ ti.ty k v) (h' : V1 φ ti.ty k' v') :
 Instr.sameNow d v v' = some (eqb ti.ty k k') ∧ (eqb ti.ty k k' = true → v' = v) := by
 obtain ⟨ty, by_, sub, cmp⟩ := ti
 simp only at hk k k' h h' ⊢
 cases ty <;> simp [keyK] at hk
 ·have := desc_bool hd rfl; subst this
  have := V1_bool h; subst this
  have := V1_bool h'; subst this
  exact ⟨rfl, fun e => by simp only [eqb, beq_iff_eq] at e; rw [e]⟩
 ·have := desc_int hd rfl; subst this
  have := V1_int h; subst this
  have := V1_int h'; subst this
  refine ⟨?_, fun e => by simp only [eqb, decide_eq_true_eq] at e; rw [e]⟩
  simp only [Instr.sameNow, if_true, eqb]
  congr 1
 ·have := desc_str hd rfl; subst this
  have := V1_str h; subst this
  have := V1_str h'; subst this
  refine ⟨?_, fun e => by simp only [eqb, beq_iff_eq] at e; rw [e]⟩
  simp only [Instr.sameNow, ba_beq, eqb]
theorem find_row {Θ : Tab} {ki : TI} {d : TypeDesc} (hd : descOK Θ ki d = true) (hk : keyK ki.ty = true) {φ : Phi} {E : Ty} {k : ki.ty.den} {kv : Value} (hkv : V1 φ ki.ty k kv) (dv : E.den) :
 ∀ {row : List (MT ki.ty E).den} {es : List MapEntry} (n : Nat), ER φ ki.ty E row es →
  (mhas ki.ty E row k = false ∧ Instr.findNow d kv es n = some none ∧ mget ki.ty E dv row k = dv ∧ (∀ v, mput ki.ty E row k v = row ++ [(k, v, ())]) ∧ mix ki.ty E row k = row.length) ∨
  (mhas ki.ty E row k = true ∧ ∃ j e, Instr.findNow d kv es n = some (some (n + j, e.val)) ∧ es[j]? = some e ∧ e.key = kv ∧ V1 φ E (mget ki.ty E dv row k) e.val ∧ (∀ v, mput ki.ty E row k v = row.set j (k, v, ())) ∧ mix ki.ty E row k = j)
 | [], [], n, _ => .inl ⟨rfl, rfl, rfl, fun _ => rfl, rfl⟩
 | [], _ :: _, _, h => h.elim
 | _ :: _, [], _, h => h.elim
 | x :: r, e :: es, n, h => by
  obtain ⟨⟨h1, h2⟩, h3⟩ := h
  obtain ⟨hs, he⟩ := key_same hd hk hkv h1
  cases hb : eqb ki.ty k x.1 with
  | true =>
   rw [hb] at hs
   refine .inr ⟨by simp [mhas, hb], 0, e, by simp [Instr.findNow, hs], rfl, he hb, by simpa [mget, hb] using h2, fun v => by simp [mput, hb], by simp [mix, hb]⟩
  | false =>
   rw [hb] at hs
   rcases find_row hd hk hkv dv (n + 1) h3 with ⟨g1, g2, g3, g4, g9⟩ | ⟨g1, j, e', g2, g3, g4, g5, g6, g9⟩
   ·exact .inl ⟨by simp [mhas, hb, g1], by simp [Instr.findNow, hs, g2], by simp [mget, hb, g3], fun v => by simp [mput, hb, g4], by simp [mix, hb, g9]⟩
   ·exact .inr ⟨by simp [mhas, hb, g1], j + 1, e', by simp [Instr.findNow, hs, g2]; omega, by simpa using g3, g4, by simpa [mget, hb] using g5, fun v => by simp [mput, hb, g6], by simp [mix, hb, g9]⟩
theorem desc_map {Θ : Tab} {ti : TI} {d : TypeDesc} (hd : descOK Θ ti d = true) (ht : ti.ty = .map) {k e : Nat} (hs : ti.sub = [k, e]) : d = .map k e := by
 have := desc_kind hd
 rw [ht] at this
 cases d <;> simp [kd, kt] at this
 simp only [descOK, Bool.and_eq_true, decide_eq_true_eq] at hd
 rw [hs] at hd
 simp at hd
 rw [hd.2.1, hd.2.2]
theorem VR_map {φ : Phi} {m : Option Nat} {v : Value} : VR φ ⟨.map, m⟩ v ↔ CR0 φ (.map m) v := ⟨fun h => CR_c0.1 (cell_of_VR (t := .map) rfl rfl rfl h), fun h => VR_cell (t := .map) rfl rfl rfl (CR_c0.2 h)⟩
theorem mapB_ok {base : Nat} {φ : Phi} {mem : Mem} {nxt : Nat} {w : World} (hm : MemRel base φ mem nxt w) {K E : Ty} {m : Option Nat} {row : List (MT K E).den} (h : mapB mem K E m = some row) {v : Value} (hv : VR φ ⟨.map, m⟩ v) :
 (m = none ∧ v = .map none ∧ row = []) ∨ ∃ i ph b es clock, m = some i ∧ φ i = some ph ∧ Mem.get mem i = some b ∧ b = ⟨MT K E, b.n, row, b.wr⟩ ∧ v = .map (some ph.blk) ∧ w.heap[ph.blk]? = some (.map es clock) ∧ ER φ K E row es.toList ∧ Born es clock := by
 cases m with
 | none =>
  simp only [mapB, Option.some.injEq] at h
  exact .inl ⟨rfl, VR_nilmap.1 hv, h.symm⟩
 | some i =>
  simp only [mapB] at h
  split at h
  ·rename_i b hb
   have he := asBlk_eq h
   obtain ⟨ph, hp, hvv⟩ := VR_map.1 hv
   have hr := (hm.blkAt hb hp).mp
   rw [he] at hr
   obtain ⟨es, clock, h1, h2, h3, h4⟩ := hr
   exact .inr ⟨i, ph, b, es, clock, rfl, hp, hb, he, hvv, h1, ER_iff.2 ⟨by simpa using h2, fun i x hx => by simpa using h3 i x hx⟩, h4⟩
  ·cases h
section
variable {P : Program} {Θ : Tab} {base : Nat} {φ : Phi} {mem : Mem} {nxt : Nat} {w : World} {tm : TM} {a : Act} {v : V}
variable (hΘ : TabOK P Θ) (hm : MemRel base φ mem nxt w) (ht : TmR φ tm a.tmps)
variable {dst : Option Tmp} {type : TypeId} {pos : String} {after : Array Edge} {guard : Option (Nat × Bool)}
include hΘ hm ht
open Go.MapKept in
theorem vm_lookup {t : Nat} {x k : Operand} {ok : Bool} (h : opm Θ tm mem ⟨dst, .lookup t x k ok, type, pos, after, guard⟩ = some (v, true)) : Quiet P φ w a ⟨dst, .lookup t x k ok, type, pos, after, guard⟩ v := by
 simp only [opm] at h
 split at h
 ·rename_i ti mv c kv d hti hx hk
  split at h
  ·rename_i ke ee hty hsub
   split at h
   ·rename_i ki ei hki hei
    cases hkk : keyK ki.ty <;> rw [hkk] at h
    ·cases h
    ·simp only [cond_true] at h
     split at h
     ·rename_i k' row hk' hrow
      simp only [Option.some.injEq, Prod.mk.injEq] at h
      obtain ⟨rfl, hok⟩ := h
      obtain ⟨rfl, rfl⟩ := and_split hok
      have hty := of_decide_eq_true hty
      have hT := hΘ.get hti
      have hTk := hΘ.get hki
      have hTe := hΘ.get hei
      obtain ⟨dd, hd, hdu, hdr⟩ := hT.run_underlying
      obtain ⟨dk, hdk, hdku, hdkr⟩ := hTk.run_underlying
      have := desc_map hd hty hsub
      subst this
      obtain ⟨z, hz, hzr⟩ := hTe.run_zero
      have hkv := rd_ok ht hk
      rw [asT_eq hk'] at hkv
      have hkv := V1_of_VR hTk.tup hkv
      have hzz := zeroOK_ok φ hTe.tup hz
      have hik := key_is hdk hkk hkv
      have fin : ∀ {u : Value} {b : Bool} (e : ei.ty.den), V1 φ ei.ty e u → (Instr.lookup t (a.eval x) (a.eval k) ok).run P w = .ok (if ok then .tuple #[u, .bool b] else u) w →
       Quiet P φ w a ⟨dst, .lookup t x k ok, type, pos, after, guard⟩ (bif ok then ⟨.tup ei.ty (.tup .bool .tnil), (e, b, ())⟩ else ⟨ei.ty, e⟩) := by
       intro u b e hu hr
       refine ⟨_, run_v hr, ?_⟩
       cases ok
       ·exact VR_of_V1 hTe.tup hu
       ·simp only [cond_true, if_true]
        unfold VR
        rw [if_pos (by rfl)]
        exact ⟨_, rfl, u, [.bool b], rfl, hu, .bool b, [], rfl, V1_of_VR rfl (VR_bool.2 rfl), rfl⟩
      rcases mapB_ok hm hrow (rd_ok ht hx) with ⟨rfl, hv, rfl⟩ | ⟨i, ph, b, es, clock, rfl, hp, hb, he, hv, hh, hER, hbn⟩
      ·refine fin _ hzz ?_
       have hf := MapKept.run_findKey (P := P) (w := w) (kt := ke) (k := a.eval k) (l := []) (a := none) hdku rfl
       have hc := MapKept.run_checkKey (P := P) (w := w) hdku hik true 9999
       simp [Instr.lookup, hdr, hv, hc, hf, hzr, Result.andThen]
       cases ok <;> rfl
      ·have hc := MapKept.run_checkKey (P := P) (w := w) hdku hik es.isEmpty 9999
       have hg := MapKept.run_getObj_map (P := P) hh
       rcases find_row hdk hkk hkv (dflt ei.ty) 0 hER with ⟨g1, g2, g3, g4, g9⟩ | ⟨g1, j, e, g2, g3, g4, g5, g6, g9⟩
       ·rw [g1, g3]
        refine fin _ hzz ?_
        have hf := MapKept.run_findKey (P := P) (w := w) hdku g2
        simp [Instr.lookup, hdr, hv, hg, hc, hf, hzr, Result.andThen]
       ·rw [g1]
        refine fin _ g5 ?_
        have hf := MapKept.run_findKey (P := P) (w := w) hdku g2
        simp [Instr.lookup, hdr, hv, hg, hc, hf, Result.andThen]
     ·cases h
   ·cases h
  ·cases h
 ·cases h
theorem vm_len {x : Array Operand} {ts : Array Nat} (h : opm Θ tm mem ⟨dst, .call ⟨.builtin .len, x, ts⟩, type, pos, after, guard⟩ = some (v, true)) : Quiet P φ w a ⟨dst, .call ⟨.builtin .len, x, ts⟩, type, pos, after, guard⟩ v := by
 simp only [opm] at h
 split at h
 ·rename_i y t hx hts
  split at h
  ·rename_i ti mv c hti hy
   split at h
   ·rename_i ke ee hty hsub
    split at h
    ·rename_i ki ei hki hei
     split at h
     ·rename_i row hrow
      simp only [Option.some.injEq, Prod.mk.injEq] at h
      obtain ⟨rfl, rfl⟩ := h
      have e1 : x = #[y] := by apply Array.ext'; simpa using hx
      have e2 : ts = #[t] := by apply Array.ext'; simpa using hts
      subst e1; subst e2
      have hty := of_decide_eq_true hty
      obtain ⟨dd, hd, hdu, hdr⟩ := (hΘ.get hti).run_underlying
      have := desc_map hd hty hsub
      subst this
      refine ⟨.int .i64 row.length, ?_, VR_int.2 rfl⟩
      rcases mapB_ok hm hrow (rd_ok ht hy) with ⟨rfl, hv, rfl⟩ | ⟨i, ph, b, es, clock, rfl, hp, hb, he, hv, hh, hER, hbn⟩
      ·simp only [execOp, resolve, invoke, builtin, Sem.run_bind, Sem.run_pure, Result.andThen, List.map_toArray, List.map_cons, List.map_nil]
       simp only [Builtin.len_, Sem.run_bind, hdr, Result.andThen, hv, List.getElem?_toArray, List.getElem?_cons_zero]
       rfl
      ·have hg := MapKept.run_getObj_map (P := P) hh
       have hl : es.size = row.length := by have := (ER_iff.1 hER).1; simpa using this
       simp only [execOp, resolve, invoke, builtin, Sem.run_bind, Sem.run_pure, Result.andThen, List.map_toArray, List.map_cons, List.map_nil]
       simp only [Builtin.len_, Sem.run_bind, hdr, Result.andThen, hv, List.getElem?_toArray, List.getElem?_cons_zero, hg]
       rw [← hl]
       rfl
     ·cases h
    ·cases h
   ·cases h
  ·cases h
 ·cases h
theorem opm_ok {o : Oper} (h : opm Θ tm mem o = some (v, true)) : Quiet P φ w a o v := by
 obtain ⟨dst, op, type, pos, after, guard⟩ := o
 cases op <;> try (simp [opm] at h; done)
 case lookup => exact vm_lookup hΘ hm ht h
 case call c =>
  obtain ⟨f, x, ts⟩ := c
  cases f <;> try (simp [opm] at h; done)
  rename_i b
  cases b <;> try (simp [opm] at h; done)
  exact vm_len hΘ hm ht h
theorem opv_ok {o : Oper} (h : opv Θ tm mem o = some (v, true)) : Quiet P φ w a o v := by
 unfold opv at h
 split at h
 ·rename_i r hr
  cases h
  exact opn_ok hΘ hm ht hr
 ·split at h
  ·rename_i r hr
   cases h
   exact opm_ok hΘ hm ht hr
  ·exact opv0_ok hΘ hm ht h
end
end Go.GX

namespace Go.GX
set_option linter.unusedSimpArgs false
set_option linter.unusedVariables false
set_option linter.unusedSectionVars false
open Go.RowKit (Below)
structure R where
 v : Option V
 mem : Mem
 nxt : Nat
 ok : Bool
def sec {α : Type} (d : α) (l : List α) (start len : Nat) : List α := (List.range len).map fun i => l.getD (start + i) d
def srcX (mem : Mem) (te : Ty) (v : V) : Option (List te.den × Nat × Bool) :=
 match v with
 | ⟨.slice, none⟩ => some ([], 0, true)
 | ⟨.slice, some s⟩ => (rowOf mem te s).map fun r => (sec (dflt te) r.1 s.start s.len, s.len, r.2.2 && decide (s.start + s.len ≤ r.2.1))
 | ⟨.vsl e, l⟩ => if h : e = te then some (h ▸ l, l.length, true) else none
 | ⟨.str, s⟩ => if h : te = .int .u8 then some (h ▸ (s.map fun b => (b.toNat : Int) : List (Ty.int .u8).den), s.length, true) else none
 | _ => none
def baseX (mem : Mem) (te : Ty) (v : V) : Option (Option Nat × List te.den × Nat × Bool) :=
 match v with
 | ⟨.slice, none⟩ => some (none, [], 0, true)
 | ⟨.slice, some s⟩ => match s.path, Mem.getC mem s.id with
  | [], some b => if h : b.t = te then some (some s.id, h ▸ sec (dflt b.t) b.row s.start s.len, s.len, !(Nat.beq s.start MARK) && (b.wr && (decide (s.start + s.len ≤ b.n) && (match s.cap with | some k => decide (s.start + k ≤ b.n) | none => true)))) else none
  | _, _ => none
 | _ => none
def delO (mem : Mem) : Option Nat → Mem
 | some i => Mem.del mem i
 | none => mem
def appX (Θ : Tab) (tm : TM) (mem : Mem) (id nn : Nat) (args : List Operand) (ts : List Nat) : Option (V × Option Nat × Blk × Bool) :=
 match args, ts with
 | [s, x], [st, xt] => match Θ st, Θ xt, rd tm s, rd tm x with
  | some si, some xi, some (s, c), some (x, d) => match slT si.ty, si.sub with
   | .slice, [e] => match Θ e with
    | some te => match baseX mem te.ty s, srcX mem te.ty x with
     | some (i, old, m, c2), some (new, n, d2) =>
      some (⟨.slice, some ⟨id, [], 0, m + n, none⟩⟩, i, ⟨te.ty, m + n, old ++ new, true⟩, c && (d && (c2 && (d2 && (decide ((m + n) * te.bytes ≤ 140737488355328) && (Nat.blt 0 te.bytes && (decide (slT xi.ty = .slice) || decide (xi.ty = .str))))))))
     | _, _ => none
    | none => none
   | _, _ => none
  | _, _, _, _ => none
 | _, _ => none
def cutIn {α : Type} (d : α) (row : List α) (s : Nat) (new : List α) : List α := sec d row 0 s ++ (new ++ row.drop (s + new.length))
def copX (Θ : Tab) (tm : TM) (mem : Mem) (args : List Operand) (ts : List Nat) : Option (V × Option (Nat × Blk) × Bool) :=
 match args, ts with
 | [s, x], [st, _] => match Θ st, rd tm s, rd tm x with
  | some si, some (⟨.slice, some q⟩, c), some (x, d) => match slT si.ty, si.sub with
   | .slice, [e] => match Θ e, q.path, Mem.getC mem q.id with
    | some te, [], some b => if h : b.t = te.ty then
     (match srcX mem te.ty x with
     | some (new, n, d2) => some (⟨.int .i64, (n : Int)⟩, bif Nat.beq n 0 then none else some (q.id, ⟨te.ty, b.n, cutIn (dflt te.ty) (h ▸ b.row) q.start new, true⟩),
      c && (d && (d2 && (b.wr && (Nat.ble n q.len && Nat.ble (q.start + q.len) b.n)))))
     | none => none) else none
    | _, _, _ => none
   | _, _ => none
  | _, _, _ => none
 | _, _ => none
def clrN (te : TI) (b : Blk) (p : List Nat) (s len : Nat) : Option (Blk × Bool) :=
 match nav (.arr b.n b.t) b.row p with
 | some ⟨.arr n t, l⟩ => bif decide (t = te.ty) then
  (match upd (.arr b.n b.t) b.row p ⟨.arr n t, cutIn (dflt t) l s (List.replicate len (dflt t))⟩ with
  | some row => some (⟨b.t, b.n, row, true⟩, b.wr && (inb (.arr b.n b.t) p && Nat.ble (s + len) n))
  | none => none) else none
 | _ => none
def clrX (Θ : Tab) (tm : TM) (mem : Mem) (args : List Operand) (ts : List Nat) : Option (Option (Nat × Blk) × Bool) :=
 match args, ts with
 | [s], [st] => match Θ st, rd tm s with
  | some si, some (⟨.slice, some q⟩, c) => match slT si.ty, si.sub with
   | .slice, [e] => match Θ e, q.path, Mem.getC mem q.id with
    | some te, [], some b => if h : b.t = te.ty then
     some (some (q.id, ⟨te.ty, b.n, cutIn (dflt te.ty) (h ▸ b.row) q.start (List.replicate q.len (dflt te.ty)), true⟩), c && (b.wr && Nat.ble (q.start + q.len) b.n)) else none
    | some te, p, some b => (match clrN te b p q.start q.len with
     | some (b', e) => some (some (q.id, b'), c && e)
     | none => none)
    | _, _, _ => none
   | _, _ => none
  | _, _ => none
 | _, _ => none
def setO (mem : Mem) : Option (Nat × Blk) → Mem
 | some (i, b) => Mem.set mem i b
 | none => mem
def putX (Θ : Tab) (tm : TM) (mem : Mem) (t : Nat) (m k x : Operand) : Option (Nat × Blk × Bool) :=
 match Θ t, rd tm m, rd tm k, rd tm x with
 | some ti, some (⟨.map, some i⟩, c), some (kv, d), some (xv, e) => match decide (ti.ty = .map), ti.sub with
  | true, [ke, ee] => match Θ ke, Θ ee, Mem.get mem i with
   | some ki, some ei, some b => bif keyK ki.ty && b.wr then
    (match asT ki.ty kv, asT ei.ty (coeV ei.ty xv), asBlk (MT ki.ty ei.ty) b with
    | some k, some x, some row => some (i, ⟨MT ki.ty ei.ty, 0, mput ki.ty ei.ty row k x, true⟩, c && (d && e))
    | _, _, _ => none) else none
   | _, _, _ => none
  | _, _ => none
 | _, _, _, _ => none
def entX (Θ : Tab) (tm : TM) (mem : Mem) (t : Nat) (m k : Operand) : Option (Nat × Blk × V × Bool) :=
 match Θ t, rd tm m, rd tm k with
 | some ti, some (⟨.map, some i⟩, c), some (kv, d) => match decide (ti.ty = .map), ti.sub with
  | true, [ke, ee] => match Θ ke, Θ ee, Mem.get mem i with
   | some ki, some ei, some b => bif keyK ki.ty && b.wr then
    (match asT ki.ty kv, asBlk (MT ki.ty ei.ty) b with
    | some k, some row => some (i, ⟨MT ki.ty ei.ty, 0, mins ki.ty ei.ty (dflt ei.ty) row k, true⟩, ⟨.tup ei.ty (.tup (.int .i64) .tnil), (mget ki.ty ei.ty (dflt ei.ty) row k, ((mix ki.ty ei.ty row k : Nat) : Int), ())⟩, c && d)
    | _, _ => none) else none
   | _, _, _ => none
  | _, _ => none
 | _, _, _ => none
def estX (Θ : Tab) (tm : TM) (mem : Mem) (t : Nat) (m s x : Operand) : Option (Nat × Blk × Bool) :=
 match Θ t, rd tm m, rdI tm s, rd tm x with
 | some ti, some (⟨.map, some i⟩, c), some (n, d), some (xv, e) => match decide (ti.ty = .map), ti.sub with
  | true, [ke, ee] => match Θ ke, Θ ee, Mem.get mem i with
   | some ki, some ei, some b => bif b.wr then
    (match asT ei.ty (coeV ei.ty xv), asBlk (MT ki.ty ei.ty) b with
    | some x, some row => some (i, ⟨MT ki.ty ei.ty, 0, mset ki.ty ei.ty row n.toNat x, true⟩, c && (d && (e && (decide (0 ≤ n) && decide (n.toNat < row.length)))))
    | _, _ => none) else none
   | _, _, _ => none
  | _, _ => none
 | _, _, _, _ => none
def newMapX (Θ : Tab) (tm : TM) (t : Nat) (r : Option Operand) : Option (Blk × Bool) :=
 match Θ t, (match r with | none => some true | some x => (rdI tm x).map (fun p => p.2) : Option Bool) with
 | some ti, some c => match decide (ti.ty = .map), ti.sub with
  | true, [ke, ee] => match Θ ke, Θ ee with
   | some ki, some ei => some (⟨MT ki.ty ei.ty, 0, [], true⟩, c)
   | _, _ => none
  | _, _ => none
 | _, _ => none
theorem mset_len {K E : Ty} : ∀ {row : List (MT K E).den} {j : Nat} {v : E.den}, (mset K E row j v).length = row.length
 | [], _, _ => rfl
 | _ :: _, 0, _ => rfl
 | _ :: r, j + 1, v => by simp [mset, mset_len (row := r)]
theorem mset_get {K E : Ty} : ∀ {row : List (MT K E).den} {j n : Nat} {v : E.den} {y : (MT K E).den}, (mset K E row j v)[n]? = some y → ∃ x, row[n]? = some x ∧ y.1 = x.1 ∧ ((n = j ∧ y.2.1 = v) ∨ (n ≠ j ∧ y = x))
 | [], _, _, _, _, h => by simp [mset] at h
 | x :: r, 0, 0, v, y, h => by simp [mset] at h; subst h; exact ⟨x, rfl, rfl, .inl ⟨rfl, rfl⟩⟩
 | x :: r, 0, n + 1, v, y, h => ⟨y, by simpa [mset] using h, rfl, .inr ⟨by omega, rfl⟩⟩
 | x :: r, j + 1, 0, v, y, h => by simp [mset] at h; subst h; exact ⟨x, rfl, rfl, .inr ⟨by omega, rfl⟩⟩
 | x :: r, j + 1, n + 1, v, y, h => by
  obtain ⟨x', h1, h2, h3⟩ := mset_get (row := r) (j := j) (n := n) (v := v) (y := y) (by simpa [mset] using h)
  exact ⟨x', by simpa using h1, h2, h3.imp (fun ⟨a, b⟩ => ⟨by omega, b⟩) (fun ⟨a, b⟩ => ⟨by omega, b⟩)⟩
end Go.GX

namespace Go.GX
set_option linter.unusedSimpArgs false
set_option linter.unusedVariables false
set_option linter.unusedSectionVars false
open Go.RowKit (Below)
theorem desc_slice' {Θ : Tab} {ti : TI} {d : TypeDesc} (hd : descOK Θ ti d = true) (ht : slT ti.ty = .slice) : ∃ e, d = .slice e ∧ ti.sub = [e] := desc_slice hd ht
abbrev Sm := List V → Mem → Nat → Option (V × Mem × Nat × Bool)
def AR (φ : Phi) (args : List V) (xs : Array Value) : Prop := xs.size = args.length ∧ ∀ (i : Nat) v, args[i]? = some v → ∃ x, xs[i]? = some x ∧ VR φ v x
def SmOK (P : Program) (f : Nat) (g : Sm) : Prop :=
 ∀ args mem nxt v mem' nxt', g args mem nxt = some (v, mem', nxt', true) → ∀ base φ w xs, MemRel base φ mem nxt w → AR φ args xs →
  Calls P f xs w fun e w' => ∃ ψ x, e = .returned x ∧ φ.le ψ ∧ MemRel base ψ mem' nxt' w' ∧ Below base w w' ∧ VR ψ v x
abbrev Kn := Nat → Option Sm
def KOK (P : Program) (K : Kn) : Prop := ∀ f g, K f = some g → (∀ args w, (callFunc f args).run P w = .ok (.enter f args) w) ∧ SmOK P f g
def unflat : (t : Ty) → List Cell0 → Option (t.den × List Cell0)
 | .bool, .bool b :: r => some (b, r)
 | .int k, .int k' n :: r => if k = k' then some (n, r) else none
 | .str, .str s :: r => some (s, r)
 | .ptr, .ptr p :: r => some (p, r)
 | .slice, .slice s :: r => some (s, r)
 | .map, .map m :: r => some (m, r)
 | .unit, r => some ((), r)
 | .pair a b, l => match unflat a l with | some (x, l) => (match unflat b l with | some (y, l) => some ((x, y), l) | none => none) | none => none
 | _, _ => none
theorem unflat_ok : ∀ {t : Ty} {l r : List Cell0} {x : t.den}, unflat t l = some (x, r) → l.map Cell.c0 = flat t x ++ r.map Cell.c0
 | .bool, .bool _ :: r, _, _, h => by simp [unflat] at h; obtain ⟨rfl, rfl⟩ := h; rfl
 | .int k, .int k' n :: r, _, _, h => by
  simp only [unflat] at h
  split at h
  ·rename_i e; subst e; cases h; rfl
  ·cases h
 | .str, .str _ :: r, _, _, h => by simp [unflat] at h; obtain ⟨rfl, rfl⟩ := h; rfl
 | .ptr, .ptr _ :: r, _, _, h => by simp [unflat] at h; obtain ⟨rfl, rfl⟩ := h; rfl
 | .slice, .slice _ :: r, _, _, h => by simp [unflat] at h; obtain ⟨rfl, rfl⟩ := h; rfl
 | .map, .map _ :: r, _, _, h => by simp [unflat] at h; obtain ⟨rfl, rfl⟩ := h; rfl
 | .unit, r, _, _, h => by simp [unflat] at h; subst h; rfl
 | .pair a b, l, r, x, h => by
  simp only [unflat] at h
  split at h
  ·rename_i y l1 h1
   split at h
   ·rename_i z l2 h2
    cases h
    rw [unflat_ok h1, unflat_ok h2, flat, List.append_assoc]
   ·cases h
  ·cases h
def unpackV (c : Ty × List Cell0) : Option V := match unflat c.1 c.2 with | some (x, []) => some ⟨c.1, x⟩ | _ => none
def unpacks : List (Ty × List Cell0) → Option (List V)
 | [] => some []
 | c :: r => match unpackV c, unpacks r with | some c, some r => some (c :: r) | _, _ => none
theorem unpackV_ok {φ : Phi} {c : Ty × List Cell0} {v : V} {x : Value} (h : unpackV c = some v) (hx : VC0 φ c x) : VR φ v x := by
 obtain ⟨t, l⟩ := c
 unfold unpackV at h
 split at h
 ·rename_i y hy
  cases h
  have hf := unflat_ok hy
  simp only [List.map_nil, List.append_nil] at hf
  have htu : isTup t = false := by
   cases t <;> first | rfl | (simp [unflat] at hy)
  refine VR_of_V1 htu ?_
  unfold VC0 at hx
  unfold V1
  split at hx
  ·rename_i ha
   rw [if_pos ha]
   obtain ⟨vs, rfl, hc⟩ := hx
   refine ⟨vs, rfl, ?_⟩
   rw [← hf]
   refine ⟨by simpa using hc.1, fun i c hi => ?_⟩
   simp only [List.getElem?_map, Option.map_eq_some_iff] at hi
   obtain ⟨c0, h0, rfl⟩ := hi
   exact hc.2 i c0 h0
  ·rename_i ha
   rw [if_neg ha]
   obtain ⟨c, hc, hr⟩ := hx
   simp only at hc
   subst hc
   exact ⟨.c0 c, by rw [← hf]; rfl, hr⟩
 ·cases h
theorem unpacks_ok {φ : Phi} : ∀ {l : List (Ty × List Cell0)} {vs : List V} {xs : List Value}, unpacks l = some vs → VL0 φ l xs → xs.length = vs.length ∧ ∀ (i : Nat) v, vs[i]? = some v → ∃ x, xs[i]? = some x ∧ VR φ v x
 | [], vs, xs, h, hx => by simp [unpacks] at h; subst h; exact ⟨by simpa using hx.1, fun i v h => by simp at h⟩
 | c :: r, vs, xs, h, hx => by
  simp only [unpacks] at h
  split at h
  ·rename_i v vs' h1 h2
   cases h
   obtain ⟨hl, hg⟩ := hx
   match xs, hl with
   | x :: xs, hl =>
    obtain ⟨h3, h4⟩ := unpacks_ok (xs := xs) h2 ⟨by simpa using hl, fun i c hi => by simpa using hg (i + 1) c (by simpa using hi)⟩
    refine ⟨by simp [h3], fun i u hi => ?_⟩
    cases i with
    | zero =>
     simp at hi; subst hi
     obtain ⟨x', hx', hr⟩ := hg 0 c rfl
     simp at hx'; subst hx'
     exact ⟨x, rfl, unpackV_ok h1 hr⟩
    | succ i => simpa using h4 i u (by simpa using hi)
  ·cases h
def storeX (mem : Mem) (v : V) (p : PA) : Option (Mem × Bool) :=
 match Mem.getC mem p.id with
 | some b => bif b.wr then (upd (.arr b.n b.t) b.val p.path v).map fun row => (Mem.set mem p.id ⟨b.t, b.n, row, true⟩, inb (.arr b.n b.t) p.path) else none
 | none => none
def opxI (Θ : Tab) (K : Kn) (tm : TM) (mem : Mem) (id nn nxt : Nat) (o : Oper) : Option R :=
 match o.op with
 | .alloc e => match Θ e with
  | some ti => some ⟨some ⟨.ptr, some ⟨id, [0]⟩⟩, (id, ⟨ti.ty, 1, [dflt ti.ty], true⟩) :: mem, nn, true⟩
  | none => none
 | .box e x => match Θ e, rd tm x with
  | some ti, some (v, c) => (asT ti.ty (coeV ti.ty v)).map fun x => ⟨some ⟨.ptr, some ⟨id, [0]⟩⟩, (id, ⟨ti.ty, 1, [x], true⟩) :: mem, nn, c⟩
  | _, _ => none
 | .store t a x => match Θ t, rd tm a, rd tm x with
  | some ti, some (⟨.ptr, some p⟩, c), some (v, d) => bif decide ((coeV ti.ty v).t = ti.ty) then (storeX mem (coeV ti.ty v) p).map fun r => ⟨none, r.1, nxt, c && (d && r.2)⟩ else none
  | _, _, _ => none
 | .buildSlice t len ps => match Θ t, rdp tm ps.toList with
  | some ti, some (l, c) => match slT ti.ty, ti.sub with
   | .slice, [e] => match Θ e with
    | some te => bif Nat.ble (len * size te.ty) 16777216 then
     (buildX (.arr len te.ty) ([] : List te.ty.den) (coeP (.arr len te.ty) l)).map fun row => ⟨some ⟨.slice, some ⟨id, [], 0, len, some len⟩⟩, (id, ⟨te.ty, len, row, true⟩) :: mem, nn, c⟩
     else none
    | none => none
   | _, _ => none
  | _, _ => none
 | .makeSlice t n m => match Θ t, rd tm n, rd tm m with
  | some ti, some (n, c), some (m, d) => match slT ti.ty, ti.sub, asI n, asI m with
   | .slice, [e], some (_, n), some (_, m) => match Θ e with
    | some te => some ⟨some ⟨.slice, some ⟨id, [], 0, n.toNat, some m.toNat⟩⟩, (id, ⟨te.ty, m.toNat, [], true⟩) :: mem, nn,
     c && (d && (decide (0 ≤ n) && (decide (n ≤ m) && (decide (te.bytes * m ≤ 281474976710656) && decide (m ≤ 281474976710656)))))⟩
    | none => none
   | _, _, _, _ => none
  | _, _, _ => none
 | .makeMap t m => match newMapX Θ tm t m with
  | some (b, c) => some ⟨some ⟨.map, some id⟩, (id, b) :: mem, nn, c⟩
  | none => none
 | .mapUpdate t m k x => match putX Θ tm mem t m k x with
  | some (i, b, c) => some ⟨none, Mem.set mem i b, nxt, c⟩
  | none => none
 | .insert t m k x => match putX Θ tm mem t m k x with
  | some (i, b, c) => some ⟨none, Mem.set mem i b, nxt, c⟩
  | none => none
 | .mapEntry t m k => match entX Θ tm mem t m k with
  | some (i, b, v, c) => some ⟨some v, Mem.set mem i b, nxt, c⟩
  | none => none
 | .entryStore t m s x => match estX Θ tm mem t m s x with
  | some (i, b, c) => some ⟨none, Mem.set mem i b, nxt, c⟩
  | none => none
 | .call ⟨.value f, args, _⟩ => match rd tm f, rds tm args.toList with
  | some (⟨.func, .fn f a b⟩, c), some (l, d) => match unpacks a, unpacks b, K f with
   | some a, some b, some g => match g (a ++ (l ++ b)) mem nxt with
    | some (v, mem', nxt', e) => some ⟨some v, mem', nxt', c && (d && e)⟩
    | none => none
   | _, _, _ => none
  | _, _ => none
 | .call ⟨.builtin .append, args, ts⟩ => match appX Θ tm mem id nn args.toList ts.toList with
  | some (v, i, b, c) => some ⟨some v, (id, b) :: delO mem i, nn, c⟩
  | none => none
 | .call ⟨.builtin .copy, args, ts⟩ => match copX Θ tm mem args.toList ts.toList with
  | some (v, b, c) => some ⟨some v, setO mem b, nxt, c⟩
  | none => none
 | .call ⟨.builtin .clear, args, ts⟩ => match clrX Θ tm mem args.toList ts.toList with
  | some (b, c) => some ⟨none, setO mem b, nxt, c⟩
  | none => none
 | _ => none
def opx (Θ : Tab) (K : Kn) (tm : TM) (mem : Mem) (nxt : Nat) (o : Oper) : Option R := opxI Θ K tm mem nxt (nxt + 1) nxt o
def isCallO : Op → Bool
 | .call _ => true
 | _ => false
def OneNew (o : Oper) (φ ψ : Phi) (id : Nat) : Prop := isCallO o.op = false → ∀ i ph, ψ i = some ph → φ i = some ph ∨ i = id
theorem OneNew.refl {o : Oper} {φ : Phi} {id : Nat} : OneNew o φ φ id := fun _ _ _ h => .inl h
theorem OneNew.add {o : Oper} {φ : Phi} {id : Nat} {p : Phys} : OneNew o φ (φ.add id p) id := fun _ i ph h => by
 have h : (if i = id then some p else φ i) = some ph := h
 by_cases e : i = id
 ·exact .inr e
 ·rw [if_neg e] at h; exact .inl h
def Acts (P : Program) (base : Nat) (φ : Phi) (w : World) (a : Act) (o : Oper) (id : Nat) (r : R) : Prop :=
 ∀ (next : Act → World → Prop) (Q : Exit → Act → World → Prop),
  (∀ ψ w' x, φ.le ψ → MemRel base ψ r.mem r.nxt w' → Below base w w' → (∀ v, r.v = some v → VR ψ v x) → OneNew o φ ψ id → next (a.put o.dst x) w') → o.wp P a w next Q
theorem acts_value {P : Program} {base : Nat} {φ ψ : Phi} {w w' : World} {a : Act} {o : Oper} {id : Nat} {r : R} {x : Value} (h : (execOp a.eval o).run P w = .ok (.value x) w')
 (h1 : φ.le ψ) (h2 : MemRel base ψ r.mem r.nxt w') (h3 : Below base w w') (h4 : ∀ v, r.v = some v → VR ψ v x) (h5 : OneNew o φ ψ id) : Acts P base φ w a o id r := by
 intro next Q hn
 unfold Oper.wp
 rw [h]
 exact hn ψ w' x h1 h2 h3 h4 h5
theorem acts_skip {P : Program} {base : Nat} {φ ψ : Phi} {w w' : World} {a : Act} {o : Oper} {id : Nat} {r : R} (h : (execOp a.eval o).run P w = .ok .skip w')
 (h1 : φ.le ψ) (h2 : MemRel base ψ r.mem r.nxt w') (h3 : Below base w w') (h4 : r.v = none) (h5 : OneNew o φ ψ id) : Acts P base φ w a o id r := by
 intro next Q hn
 unfold Oper.wp
 rw [h]
 exact hn ψ w' undef h1 h2 h3 (fun v hv => by rw [h4] at hv; cases hv) h5
theorem run_askRoom {P : Program} {w : World} (b : Nat) : (askRoom b).run P w = .ok () w := by
 unfold askRoom; split <;> rfl
theorem splice_get {α : Type} (l m : List α) (o k : Nat) (h : o + m.length ≤ l.length) : (l.take o ++ m ++ l.drop (o + m.length))[k]? = if o ≤ k ∧ k < o + m.length then m[k - o]? else l[k]? := by
 by_cases h1 : k < o
 ·rw [if_neg (by omega), List.append_assoc, List.getElem?_append_left (by rw [List.length_take]; omega), List.getElem?_take, if_pos h1]
 ·by_cases h2 : k < o + m.length
  ·rw [if_pos (by omega), List.append_assoc, List.getElem?_append_right (by rw [List.length_take]; omega), List.getElem?_append_left (by rw [List.length_take]; omega)]
   rw [List.length_take, Nat.min_eq_left (by omega)]
  ·rw [if_neg (by omega), List.getElem?_append_right (by simp; omega), List.getElem?_drop]
   simp only [List.length_append, List.length_take, Nat.min_eq_left (show o ≤ l.length by omega)]
   congr 1; omega
theorem flat_one {t : Ty} {x : t.den} : flat (.arr 1 t) ([x] : List t.den) = flat t x := by
 simp [flat, List.range_succ]
theorem below_alloc {base : Nat} {w : World} (hb : base ≤ w.heap.size) (o : Obj) : Below base w (w.alloc o) := (Below.refl base w).alloc hb o
theorem addr_new {φ : Phi} {i : Nat} {k : Nat} {t : Ty} {cap : Nat} : addr (φ.add i ⟨k, 0, t, cap⟩) ⟨i, [0]⟩ = some ⟨k, 0, none⟩ := by
 simp [addr, Phi.add, offs]
section
variable {P : Program} {Θ : Tab} {K : Kn} {base : Nat} {φ : Phi} {mem : Mem} {id nn nxt : Nat} {w : World} {tm : TM} {a : Act} {r : R}
variable (hΘ : TabOK P Θ) (hK : KOK P K) (hm : MemRel base φ mem nxt w) (hfr : φ id = none) (hid : id < nn) (hnn : nxt ≤ nn) (ht : TmR φ tm a.tmps)
variable {dst : Option Tmp} {type : TypeId} {pos : String} {after : Array Edge} {guard : Option (Nat × Bool)}
include hΘ hK hm hfr hid hnn ht
theorem acts_new {ti : TI} {e : Nat} (hti : Θ e = some ti) {x : ti.ty.den} {u : Value} (hu : V1 φ ti.ty x u) :
 ∃ ψ, φ.le ψ ∧ MemRel base ψ ((id, ⟨ti.ty, 1, [x], true⟩) :: mem) nn (w.alloc (.cells u.cells e)) ∧ (newVar e u).run P w = .ok ⟨w.heap.size, 0, none⟩ (w.alloc (.cells u.cells e)) ∧
  VR ψ ⟨.ptr, some ⟨id, [0]⟩⟩ (.pointer (some ⟨w.heap.size, 0, none⟩)) ∧ ∀ o : Oper, OneNew o φ ψ id := by
 have hc := V1_cells hu
 have hs : u.cells.size = size ti.ty := by have := hc.1; rw [length_flat] at this; simpa using this
 obtain ⟨h1, h2⟩ := hm.allocAt hfr hid hnn ⟨ti.ty, 1, [x], true⟩ 1 u.cells e (hΘ.get hti).tup (Nat.le_refl _) (by simp [hs]) (fun k c hk => by
  have hk' : (flat ti.ty x)[k]? = some c := by rw [← flat_one]; exact hk
  simpa using hc.2 k c hk')
 exact ⟨_, h1, h2, rfl, VR_ptr.2 ⟨_, addr_new, rfl⟩, fun _ => .add⟩
theorem acts_alloc {e : Nat} (h : opxI Θ K tm mem id nn nxt ⟨dst, .alloc e, type, pos, after, guard⟩ = some r) : Acts P base φ w a ⟨dst, .alloc e, type, pos, after, guard⟩ id r := by
 simp only [opxI] at h
 split at h
 ·rename_i ti hti
  cases h
  have hT := hΘ.get hti
  obtain ⟨z, hz, hzr⟩ := hT.run_zero
  obtain ⟨ψ, h1, h2, h3, h4, h5⟩ := acts_new hΘ hK hm hfr hid hnn ht hti (zeroOK_ok φ hT.tup hz)
  refine acts_value (x := .pointer (some ⟨w.heap.size, 0, none⟩)) (run_v ?_) h1 h2 (below_alloc hm.base _) (fun v hv => by cases hv; exact h4) (h5 _)
  simp only [Instr.alloc, Sem.run_bind, hzr, Result.andThen, h3, Sem.run_pure]
 ·cases h
theorem acts_box {e : Nat} {x : Operand} (h : opxI Θ K tm mem id nn nxt ⟨dst, .box e x, type, pos, after, guard⟩ = some r) (hok : r.ok = true) : Acts P base φ w a ⟨dst, .box e x, type, pos, after, guard⟩ id r := by
 simp only [opxI] at h
 split at h
 ·rename_i ti v c hti hx
  simp only [Option.map_eq_some_iff] at h
  obtain ⟨y, hy, rfl⟩ := h
  have := asT_eq hy
  simp only at hok
  subst hok
  have hT := hΘ.get hti
  have hcv := coeV_ok (t := ti.ty) (rd_ok ht hx)
  rw [this] at hcv
  obtain ⟨ψ, h1, h2, h3, h4, h5⟩ := acts_new hΘ hK hm hfr hid hnn ht hti (V1_of_VR hT.tup hcv)
  refine acts_value (x := .pointer (some ⟨w.heap.size, 0, none⟩)) (run_v ?_) h1 h2 (below_alloc hm.base _) (fun v hv => by cases hv; exact h4) (h5 _)
  simp only [Instr.box, Sem.run_bind, h3, Result.andThen, Sem.run_pure]
 ·cases h
theorem acts_store {t : Nat} {x y : Operand} (h : opxI Θ K tm mem id nn nxt ⟨dst, .store t x y, type, pos, after, guard⟩ = some r) (hok : r.ok = true) : Acts P base φ w a ⟨dst, .store t x y, type, pos, after, guard⟩ id r := by
 simp only [opxI] at h
 split at h
 ·rename_i ti p c v0 d hti hx hy
  generalize hcv : coeV ti.ty v0 = v at h
  cases hb : decide (v.t = ti.ty) <;> rw [hb] at h
  ·cases h
  ·simp only [decide_eq_true_eq] at hb
   simp only [cond_true, Option.map_eq_some_iff] at h
   obtain ⟨⟨mem', inn⟩, hs, rfl⟩ := h
   simp only at hok
   obtain ⟨rfl, hok2⟩ := and_split hok
   obtain ⟨rfl, rfl⟩ := and_split hok2
   obtain ⟨tv, xv⟩ := v
   simp only at hb
   subst hb
   have hT := hΘ.get hti
   obtain ⟨ad, had, hav⟩ := VR_ptr.1 (rd_ok ht hx)
   have hyv := V1_of_VR hT.tup (hcv ▸ coeV_ok (t := ti.ty) (rd_ok ht hy))
   unfold storeX at hs
   split at hs
   ·rename_i b hbm
    obtain ⟨hbm, hbt⟩ := Mem.getC_spec hbm
    cases hw : b.wr <;> rw [hw] at hs
    ·cases hs
    ·simp only [cond_true, Option.map_eq_some_iff, Prod.mk.injEq] at hs
     obtain ⟨row, hrow, rfl, hin⟩ := hs
     obtain ⟨ph, hp⟩ := addr_phys had
     have hr := hm.blkAt hbm hp
     obtain ⟨o, ho, hsz, hg⟩ := upd_spec _ _ _ _ _ hrow hin
     obtain ⟨cs, el, fr, h1, h2, h3⟩ := hr.cells hbt
     obtain ⟨hbb, rfl, himm, hcap, hcs⟩ := h3 hw
     have hadd : ad = ⟨ph.blk, ph.off + o, none⟩ := by
      unfold addr at had
      simp only [hp, hr.t] at had
      rw [offs_arr0] at ho
      rw [ho] at had
      simp only [Option.map_some, Option.some.injEq] at had
      rw [← had]
     subst hadd
     have hle : ph.off + o + size ti.ty ≤ cs.size := by
      have : b.n * size b.t ≤ ph.cap * size b.t := Nat.mul_le_mul_right _ hcap
      simp only [size] at hsz
      omega
     have hcy := V1_cells hyv
     have hys : (a.eval y).cells.toList.length = size ti.ty := by have := hcy.1; rwa [length_flat] at this
     refine acts_skip (w' := w.setRow ph.blk (cs.toList.take (ph.off + o) ++ (a.eval y).cells.toList ++ cs.toList.drop (ph.off + o + size ti.ty)).toArray) ?_ (Phi.le_refl _) ?_ (below_setRow (Below.refl base w) hbb _) rfl .refl
     ·simp only [execOp, Instr.storeAt, hav, Instr.sureAddr, Sem.run_bind, Sem.run_pure, Result.andThen, run_storeVar hT hyv h1 hle]
     ·refine hm.put hbm hbt hw hp rfl hcap ?_ (fun k c hk => ?_)
      ·simp only [List.size_toArray, List.length_append, List.length_take, List.length_drop, hys, Array.length_toList]
       omega
      ·have hk' : (flat (.arr b.n b.t) row)[k]? = some c := hk
       rw [hg] at hk'
       rw [← hys, List.getElem?_toArray, splice_get _ _ _ _ (by rw [hys]; simpa using hle), hys]
       by_cases hr' : o ≤ k ∧ k < o + size ti.ty
       ·rw [if_pos hr'] at hk'
        rw [if_pos (by omega), show ph.off + k - (ph.off + o) = k - o from by omega]
        exact hcy.2 _ c hk'
       ·rw [if_neg hr'] at hk'
        rw [if_neg (by omega)]
        have := h2 k c hk'
        simpa using this
   ·cases hs
 ·cases h
omit hΘ hK hm hfr hid hnn ht in
theorem zeros_CL {φ : Phi} {t : Ty} {z : Value} (hz : CL φ (flat t (dflt t)) z.cells.toList) (n : Nat) : CL φ (flat (.arr n t) ([] : List t.den)) ((Array.range (n * size t)).map fun i => z.cells[i % z.cells.size]!).toList := by
 have hs : z.cells.size = size t := by have := hz.1; rw [length_flat] at this; simpa using this
 refine ⟨by simp [length_flat, size], fun k c hk => ?_⟩
 have hlt : k < n * size t := by have := (List.getElem?_eq_some_iff.1 hk).1; rw [length_flat, size] at this; exact this
 have hpos : 0 < size t := by
  rcases Nat.eq_zero_or_pos (size t) with h0 | h0
  ·rw [h0] at hlt; omega
  ·exact h0
 have hq : k / size t < n := Nat.div_lt_of_lt_mul (by rw [Nat.mul_comm]; exact hlt)
 have hr : k % size t < size t := Nat.mod_lt _ hpos
 have hkk : k = k / size t * size t + k % size t := by rw [Nat.mul_comm]; exact (Nat.div_add_mod k (size t)).symm
 rw [flat, hkk, get_flatMap_const _ (size t) (fun i => length_flat t _) n _ _ hq hr] at hk
 obtain ⟨v, hv, hvr⟩ := hz.2 _ c (by simpa using hk)
 refine ⟨v, ?_, hvr⟩
 have hv' : z.cells[k % size t]? = some v := by simpa using hv
 have hb : z.cells[k % size t]! = v := by rw [getElem!_def, hv']
 simp [hlt, hs, hb]
theorem acts_buildSlice {t len : Nat} {ps : Array (Nat × Operand)} (h : opxI Θ K tm mem id nn nxt ⟨dst, .buildSlice t len ps, type, pos, after, guard⟩ = some r) (hok : r.ok = true) : Acts P base φ w a ⟨dst, .buildSlice t len ps, type, pos, after, guard⟩ id r := by
 simp only [opxI] at h
 split at h
 ·rename_i ti l c hti hl
  split at h
  ·rename_i e hty hsub
   split at h
   ·rename_i te hte
    cases hb : Nat.ble (len * size te.ty) 16777216 <;> rw [hb] at h
    ·cases h
    ·simp only [cond_true, Option.map_eq_some_iff] at h
     obtain ⟨row, hrow, rfl⟩ := h
     simp only at hok
     subst hok
     have hble := Nat.le_of_ble_eq_true hb
     have hT := hΘ.get hti
     have hTe := hΘ.get hte
     obtain ⟨d, hd, hdu, hdr⟩ := hT.run_underlying
     obtain ⟨e', rfl, hsub'⟩ := desc_slice' hd hty
     rw [hsub] at hsub'; cases hsub'
     obtain ⟨us, hus, hlen0, hv0⟩ := rdp_ok ht hl rfl
     obtain ⟨hlen, hv⟩ := coeP_ok (t := .arr len te.ty) hlen0 hv0
     obtain ⟨z, hz, hzr⟩ := hTe.run_zero
     have hzc := zeros_CL (V1_cells (zeroOK_ok φ hTe.tup hz)) len
     obtain ⟨cs', hf, hc⟩ := buildX_ok (φ := φ) (t := .arr len te.ty) (place := fun i => some (i * size te.ty, size te.ty)) (fun i o g ho hg hi => by
      simp [offs, tyAt] at ho hg
      subst hg; subst ho
      exact ⟨rfl, hTe.tup⟩) hrow hlen hv hzc
     have hcs : len * size te.ty = cs'.size := by have := hc.1; rw [length_flat, size] at this; simpa using this.symm
     obtain ⟨h1, h2⟩ := hm.allocAt hfr hid hnn ⟨te.ty, len, row, true⟩ len cs' e hTe.tup (Nat.le_refl _) hcs (fun k c hk => by simpa using hc.2 k c hk)
     have hps : (ps.map fun p => (p.1, a.eval p.2)).toList = us := by rw [← hus]; simp
     refine acts_value (x := .slice (some ⟨w.heap.size, 0, none⟩) len len) (run_v ?_) h1 h2 (below_alloc hm.base _) (fun v hv => ?_) .add
     ·simp only [Instr.buildSlice, Sem.run_bind, hdr, Result.andThen, hTe.run_sizeOf]
      rw [if_neg (by omega)]
      by_cases h0 : len * size te.ty = 0
      ·rw [if_pos h0]
       simp only [Sem.run_bind, Sem.run_pure, Result.andThen, hps]
       have hz0 : (Array.range (len * size te.ty)).map (fun i => (#[] : Array Value)[i % (#[] : Array Value).size]!) = (Array.range (len * size te.ty)).map fun i => z.cells[i % z.cells.size]! := by rw [h0]; simp
       rw [hz0, hf]
       rfl
      ·rw [if_neg h0]
       simp only [Sem.run_bind, hzr, Result.andThen, Sem.run_pure, hps, hf]
       rfl
     ·cases hv
      rw [VR_slice]
      exact .inr ⟨_, len, rfl, Nat.le_refl _, fun k hk => (by cases hk; rfl), fun hk _ => (by cases hk), fun _ => (by simp [addr, Phi.add, offs])⟩
   ·cases h
  ·cases h
 ·cases h
theorem acts_makeSlice {t : Nat} {x y : Operand} (h : opxI Θ K tm mem id nn nxt ⟨dst, .makeSlice t x y, type, pos, after, guard⟩ = some r) (hok : r.ok = true) : Acts P base φ w a ⟨dst, .makeSlice t x y, type, pos, after, guard⟩ id r := by
 simp only [opxI] at h
 split at h
 ·rename_i ti nv c mv d hti hx hy
  split at h
  ·rename_i e k1 n k2 m hty hsub hn' hm'
   split at h
   ·rename_i te hte
    cases h
    simp only [Bool.and_eq_true, decide_eq_true_eq] at hok
    obtain ⟨rfl, rfl, g1, g2, g3, g4⟩ := hok
    have e1 := asI_eq hn'
    have e2 := asI_eq hm'
    subst e1; subst e2
    have hxv := VR_int.1 (rd_ok ht hx)
    have hyv := VR_int.1 (rd_ok ht hy)
    have hT := hΘ.get hti
    have hTe := hΘ.get hte
    obtain ⟨dd, hd, hdu, hdr⟩ := hT.run_underlying
    obtain ⟨e', rfl, hsub'⟩ := desc_slice' hd hty
    rw [hsub] at hsub'; cases hsub'
    obtain ⟨it, z, hit, hisz, hib, hzz, hzo, hir⟩ := hTe.run_typeInfo
    have hzc := zeros_CL (V1_cells (zeroOK_ok φ hTe.tup hzo)) m.toNat
    have hw1 : IntKind.i64.wrap n = n := by simp [IntKind.wrap, IntKind.signed, IntKind.bits]; omega
    have hw2 : IntKind.i64.wrap m = m := by simp [IntKind.wrap, IntKind.signed, IntKind.bits]; omega
    have hz0 : ∀ zs : Array Value, (m.toNat * size te.ty = 0 → zs = #[]) → (m.toNat * size te.ty ≠ 0 → zs = z.cells) → ((Array.range (m.toNat * size te.ty)).map fun i => zs[i % zs.size]!) = (Array.range (m.toNat * size te.ty)).map fun i => z.cells[i % z.cells.size]! := by
     intro zs h1 h2
     by_cases h0 : m.toNat * size te.ty = 0
     ·rw [h0]; simp
     ·rw [h2 h0]
    obtain ⟨h1, h2⟩ := hm.allocAt hfr hid hnn ⟨te.ty, m.toNat, [], true⟩ m.toNat ((Array.range (m.toNat * size te.ty)).map fun i => z.cells[i % z.cells.size]!) e hTe.tup (Nat.le_refl _) (by simp) (fun k c hk => by obtain ⟨v, hv, hr⟩ := hzc.2 k c hk; exact ⟨v, by rw [← Array.getElem?_toList]; exact hv, hr⟩)
    have hbad : ((decide (m < 0) || decide ((it.bytes : Int) * m > 2 ^ 48)) || decide (n < 0) || decide (n > m)) = false := by
     rw [hib]; simp; omega
    refine acts_value (x := .slice (some ⟨w.heap.size, 0, none⟩) n.toNat m.toNat) (run_v ?_) h1 h2 (below_alloc hm.base _) (fun v hv => ?_) .add
    ·simp only [Instr.makeSlice, Sem.run_bind, hdr, Result.andThen, hxv, hyv, asInt, asIntOf, Sem.run_pure, hir, hw1, hw2]
     rw [if_neg (by rw [hbad]; simp)]
     simp only [Sem.run_bind, run_askRoom, Result.andThen, hTe.run_sizeOf]
     by_cases h0 : m.toNat * size te.ty = 0
     ·rw [if_pos h0]
      simp only [Sem.run_bind, Sem.run_pure, Result.andThen]
      rw [hz0 #[] (fun _ => rfl) (fun h => absurd h0 h)]
      rfl
     ·rw [if_neg h0]
      have hzv : (zeroValue e).run P w = .ok z w := by simp only [zeroValue, Sem.run_bind, hir, Result.andThen, hzz, Sem.run_pure]
      simp only [Sem.run_bind, hzv, Sem.run_pure, Result.andThen]
      rfl
    ·cases hv
     rw [VR_slice]
     exact .inr ⟨_, m.toNat, rfl, by simp only; omega, fun k hk => (by cases hk; rfl), fun hk _ => (by cases hk), fun _ => (by simp [addr, Phi.add, offs])⟩
   ·cases h
  ·cases h
 ·cases h
theorem acts_makeMap {t : Nat} {m : Option Operand} (h : opxI Θ K tm mem id nn nxt ⟨dst, .makeMap t m, type, pos, after, guard⟩ = some r) (hok : r.ok = true) : Acts P base φ w a ⟨dst, .makeMap t m, type, pos, after, guard⟩ id r := by
 simp only [opxI] at h
 split at h
 ·rename_i b c hb
  cases h
  simp only at hok
  subst hok
  unfold newMapX at hb
  split at hb
  ·rename_i ti c hti hr
   split at hb
   ·rename_i ke ee hty hsub
    split at hb
    ·rename_i ki ei hki hei
     simp only [Option.some.injEq, Prod.mk.injEq] at hb
     obtain ⟨rfl, rfl⟩ := hb
     have hty := of_decide_eq_true hty
     obtain ⟨dd, hd, hdu, hdr⟩ := (hΘ.get hti).run_underlying
     have := desc_map hd hty hsub
     subst this
     obtain ⟨h1, h2⟩ := hm.allocMap hfr hid hnn ki.ty ei.ty
     refine acts_value (x := .map (some w.heap.size)) (run_v ?_) h1 h2 (below_alloc hm.base _) (fun v hv => ?_) .add
     ·cases m with
      | none => simp [Instr.makeMap, Result.andThen]
      | some x =>
       simp only [Option.map_eq_some_iff] at hr
       obtain ⟨⟨n, c⟩, hx, rfl⟩ := hr
       obtain ⟨k, hx⟩ := rdI_eq hx
       have hv := VR_int.1 (rd_ok ht hx)
       simp [Instr.makeMap, hdr, hv, asInt, asIntOf, Result.andThen]
     ·cases hv
      exact VR_map.2 ⟨⟨w.heap.size, 0, MT ki.ty ei.ty, 0⟩, by simp [Phi.add], rfl⟩
    ·cases hb
   ·cases hb
  ·cases hb
 ·cases h
omit hfr hid hnn in
theorem run_put {t : Nat} {m k x : Operand} {i : Nat} {b : Blk} (h : putX Θ tm mem t m k x = some (i, b, true)) :
 ∃ w', (Instr.mapUpdate t (a.eval m) (a.eval k) (a.eval x)).run P w = .ok () w' ∧ MemRel base φ (Mem.set mem i b) nxt w' ∧ Below base w w' := by
 unfold putX at h
 split at h
 ·rename_i ti i' c kv d xv e hti hm' hk hx
  split at h
  ·rename_i ke ee hty hsub
   split at h
   ·rename_i ki ei b0 hki hei hb0
    cases hc : keyK ki.ty && b0.wr <;> rw [hc] at h
    ·cases h
    ·obtain ⟨hkk, hwr⟩ := and_split hc
     simp only [cond_true] at h
     split at h
     ·rename_i k' x' row hk' hx' hrow
      simp only [Option.some.injEq, Prod.mk.injEq] at h
      obtain ⟨rfl, rfl, hok⟩ := h
      obtain ⟨rfl, hok2⟩ := and_split hok
      obtain ⟨rfl, rfl⟩ := and_split hok2
      have hty := of_decide_eq_true hty
      have hTk := hΘ.get hki
      have hTe := hΘ.get hei
      obtain ⟨dd, hd, hdu, hdr⟩ := (hΘ.get hti).run_underlying
      obtain ⟨dk, hdk, hdku, hdkr⟩ := hTk.run_underlying
      have := desc_map hd hty hsub
      subst this
      have hkv := rd_ok ht hk
      rw [asT_eq hk'] at hkv
      have hkv := V1_of_VR hTk.tup hkv
      have hxv := coeV_ok (t := ei.ty) (rd_ok ht hx)
      rw [asT_eq hx'] at hxv
      have hxv := V1_of_VR hTe.tup hxv
      have hik := key_is hdk hkk hkv
      obtain ⟨ph, hp, hv⟩ := VR_map.1 (rd_ok ht hm')
      have hrw : mapB mem ki.ty ei.ty (some i') = some row := by simp only [mapB, hb0, hrow]
      rcases mapB_ok hm hrw (rd_ok ht hm') with ⟨h0, _⟩ | ⟨i2, ph2, b2, es, clock, h0, hp2, hb2, he2, hv2, hh, hER, hbn⟩
      ·cases h0
      ·cases h0
       rw [hp] at hp2; cases hp2
       rw [hb0] at hb2; cases hb2
       have hbt : b0.t = MT ki.ty ei.ty := by rw [asBlk_eq hrow]
       have hown := (hm.blkAt hb0 hp).own hwr
       have hlt : ph.blk < w.heap.size := (hm.fresh _ _ hp).2
       have hcc := MapKept.run_checkKey (P := P) (w := w) hdku hik false 9999
       have hg := MapKept.run_getObj_map (P := P) hh
       have hER' := ER_iff.1 hER
       have hbl : ∀ o, Below base w { w with heap := w.heap.setIfInBounds ph.blk o } := fun o => ⟨rfl, rfl, rfl, by simp, fun k hk => by
        simp only [Array.getElem?_setIfInBounds]
        rw [if_neg (by have := hown.1; omega)]⟩
       rcases find_row hdk hkk hkv (dflt ei.ty) 0 hER with ⟨g1, g2, g3, g4, g9⟩ | ⟨g1, j, e, g2, g3, g4, g5, g6, g9⟩
       ·have hf := MapKept.run_findKey (P := P) (w := w) hdku g2
        have hs := MapKept.run_setObj_map (P := P) (.map (es.push { key := a.eval k, val := a.eval x, born := clock }) (clock + 1)) hh
        refine ⟨_, by simp [Instr.mapUpdate, hdr, hv, hg, hcc, hf, Result.andThen]; exact hs, ?_, hbl _⟩
        rw [g4]
        refine hm.putMap hb0 hbt hwr hp (by have := hER'.1; simp at this ⊢; omega) (fun n y hy => ?_) hbn.push
        have hl : es.size = row.length := by have := hER'.1; simpa using this
        by_cases hn : n < row.length
        ·rw [List.getElem?_append_left hn] at hy
         obtain ⟨e, he, h1⟩ := hER'.2 n y hy
         refine ⟨e, ?_, h1⟩
         rw [Array.getElem?_push, if_neg (by omega)]
         simpa using he
        ·rw [List.getElem?_append_right (by omega)] at hy
         have hn' : n - row.length = 0 := by
          have := (List.getElem?_eq_some_iff.1 hy).1
          simp at this; omega
         rw [hn'] at hy
         simp at hy
         subst hy
         exact ⟨_, by rw [Array.getElem?_push, if_pos (by omega)], hkv, hxv⟩
       ·have hf := MapKept.run_findKey (P := P) (w := w) hdku g2
        have hst := MapKept.run_keyThatStays (P := P) (w := w) hik
        have hgj : es[j]? = some e := by simpa using g3
        have hs := MapKept.run_setObj_map (P := P) (.map (es.modify j fun e => { e with key := a.eval k, val := a.eval x }) clock) hh
        refine ⟨_, by simp [Instr.mapUpdate, hdr, hv, hg, hcc, hf, hgj, g4, hst, Result.andThen]; exact hs, ?_, hbl _⟩
        rw [g6]
        have hl : es.size = row.length := by have := hER'.1; simpa using this
        refine hm.putMap hb0 hbt hwr hp (by simpa using hl) (fun n y hy => ?_) (hbn.modify fun e => rfl)
        rw [List.getElem?_set] at hy
        by_cases hn : j = n
        ·subst hn
         rw [if_pos rfl] at hy
         split at hy
         ·cases hy
          exact ⟨{ e with key := a.eval k, val := a.eval x }, by simp [Array.getElem?_modify, hgj], hkv, hxv⟩
         ·cases hy
        ·rw [if_neg hn] at hy
         obtain ⟨e', he', h1⟩ := hER'.2 n y hy
         refine ⟨e', ?_, h1⟩
         rw [Array.getElem?_modify, if_neg hn]
         simpa using he'
     ·cases h
   ·cases h
  ·cases h
 ·cases h
omit hfr hid hnn in
theorem run_ent {t : Nat} {m k : Operand} {i : Nat} {b : Blk} {v : V} (h : entX Θ tm mem t m k = some (i, b, v, true)) :
 ∃ w' z, (Instr.mapEntry t (a.eval m) (a.eval k)).run P w = .ok z w' ∧ VR φ v z ∧ MemRel base φ (Mem.set mem i b) nxt w' ∧ Below base w w' := by
 unfold entX at h
 split at h
 ·rename_i ti i' c kv d hti hm' hk
  split at h
  ·rename_i ke ee hty hsub
   split at h
   ·rename_i ki ei b0 hki hei hb0
    cases hc : keyK ki.ty && b0.wr <;> rw [hc] at h
    ·cases h
    ·obtain ⟨hkk, hwr⟩ := and_split hc
     simp only [cond_true] at h
     split at h
     ·rename_i k' row hk' hrow
      simp only [Option.some.injEq, Prod.mk.injEq] at h
      obtain ⟨rfl, rfl, rfl, hok⟩ := h
      obtain ⟨rfl, rfl⟩ := and_split hok
      have hty := of_decide_eq_true hty
      have hTk := hΘ.get hki
      have hTe := hΘ.get hei
      obtain ⟨dd, hd, hdu, hdr⟩ := (hΘ.get hti).run_underlying
      obtain ⟨dk, hdk, hdku, hdkr⟩ := hTk.run_underlying
      have := desc_map hd hty hsub
      subst this
      obtain ⟨z, hz, hzr⟩ := hTe.run_zero
      have hzz := zeroOK_ok φ hTe.tup hz
      have hkv := rd_ok ht hk
      rw [asT_eq hk'] at hkv
      have hkv := V1_of_VR hTk.tup hkv
      have hik := key_is hdk hkk hkv
      obtain ⟨ph, hp, hv⟩ := VR_map.1 (rd_ok ht hm')
      have hrw : mapB mem ki.ty ei.ty (some i') = some row := by simp only [mapB, hb0, hrow]
      have tupR : ∀ (e : ei.ty.den) (n : Nat) (u : Value), V1 φ ei.ty e u → VR φ ⟨.tup ei.ty (.tup (.int .i64) .tnil), (e, ((n : Nat) : Int), ())⟩ (.tuple #[u, goInt n]) := by
       intro e n u hu
       unfold VR
       rw [if_pos (by rfl)]
       exact ⟨_, rfl, u, [goInt n], rfl, hu, goInt n, [], rfl, V1_of_VR rfl (VR_int.2 rfl), rfl⟩
      rcases mapB_ok hm hrw (rd_ok ht hm') with ⟨h0, _⟩ | ⟨i2, ph2, b2, es, clock, h0, hp2, hb2, he2, hv2, hh, hER, hbn⟩
      ·cases h0
      ·cases h0
       rw [hp] at hp2; cases hp2
       rw [hb0] at hb2; cases hb2
       have hbt : b0.t = MT ki.ty ei.ty := by rw [asBlk_eq hrow]
       have hown := (hm.blkAt hb0 hp).own hwr
       have hlt : ph.blk < w.heap.size := (hm.fresh _ _ hp).2
       have hcc := MapKept.run_checkKey (P := P) (w := w) hdku hik false 9999
       have hg := MapKept.run_getObj_map (P := P) hh
       have hER' := ER_iff.1 hER
       have hl : es.size = row.length := by have := hER'.1; simpa using this
       have hbl : ∀ o, Below base w { w with heap := w.heap.setIfInBounds ph.blk o } := fun o => ⟨rfl, rfl, rfl, by simp, fun k hk => by
        simp only [Array.getElem?_setIfInBounds]
        rw [if_neg (by have := hown.1; omega)]⟩
       rcases find_row hdk hkk hkv (dflt ei.ty) 0 hER with ⟨g1, g2, g3, g4, g9⟩ | ⟨g1, j, e, g2, g3, g4, g5, g6, g9⟩
       ·have hf := MapKept.run_findKey (P := P) (w := w) hdku g2
        have hs := MapKept.run_setObj_map (P := P) (.map (es.push { key := a.eval k, val := z, born := clock }) (clock + 1)) hh
        have hcl : clock = row.length := by rw [hbn.1, hl]
        refine ⟨{ w with heap := w.heap.setIfInBounds ph.blk (.map (es.push { key := a.eval k, val := z, born := clock }) (clock + 1)) }, .tuple #[z, goInt clock], by simp [Instr.mapEntry, hdr, hv, hg, hcc, hf, hzr, hs, Result.andThen], ?_, ?_, hbl _⟩
        ·rw [g3, g9, hcl]
         exact tupR _ _ _ hzz
        ·have hmi : mins ki.ty ei.ty (dflt ei.ty) row k' = row ++ [(k', dflt ei.ty, ())] := by unfold mins; rw [g1]; rfl
         rw [hmi]
         refine hm.putMap hb0 hbt hwr hp (by simp; omega) (fun n y hy => ?_) hbn.push
         by_cases hn : n < row.length
         ·rw [List.getElem?_append_left hn] at hy
          obtain ⟨e, he, h1⟩ := hER'.2 n y hy
          refine ⟨e, ?_, h1⟩
          rw [Array.getElem?_push, if_neg (by omega)]
          simpa using he
         ·rw [List.getElem?_append_right (by omega)] at hy
          have hn' : n - row.length = 0 := by
           have := (List.getElem?_eq_some_iff.1 hy).1
           simp at this; omega
          rw [hn'] at hy
          simp at hy
          subst hy
          exact ⟨_, by rw [Array.getElem?_push, if_pos (by omega)], hkv, hzz⟩
       ·have hf := MapKept.run_findKey (P := P) (w := w) hdku g2
        have hst := MapKept.run_keyThatStays (P := P) (w := w) hik
        have hgj : es[j]? = some e := by simpa using g3
        have hs := MapKept.run_setObj_map (P := P) (.map (es.modify j fun e => { e with key := a.eval k }) clock) hh
        refine ⟨{ w with heap := w.heap.setIfInBounds ph.blk (.map (es.modify j fun e => { e with key := a.eval k }) clock) }, .tuple #[e.val, goInt e.born], by simp [Instr.mapEntry, hdr, hv, hg, hcc, hf, hgj, g4, hst, hs, Result.andThen], ?_, ?_, hbl _⟩
        ·rw [g9, hbn.2 j e hgj]
         exact tupR _ _ _ g5
        ·have hmi : mins ki.ty ei.ty (dflt ei.ty) row k' = row.set j (k', mget ki.ty ei.ty (dflt ei.ty) row k', ()) := by unfold mins; rw [g1, g9]; rfl
         rw [hmi]
         refine hm.putMap hb0 hbt hwr hp (by simpa using hl) (fun n y hy => ?_) (hbn.modify fun e => rfl)
         rw [List.getElem?_set] at hy
         by_cases hn : j = n
         ·subst hn
          rw [if_pos rfl] at hy
          split at hy
          ·cases hy
           exact ⟨{ e with key := a.eval k }, by simp [Array.getElem?_modify, hgj], hkv, g5⟩
          ·cases hy
         ·rw [if_neg hn] at hy
          obtain ⟨e', he', h1⟩ := hER'.2 n y hy
          refine ⟨e', ?_, h1⟩
          rw [Array.getElem?_modify, if_neg hn]
          simpa using he'
     ·cases h
   ·cases h
  ·cases h
 ·cases h
omit hfr hid hnn in
theorem run_est {t : Nat} {m s x : Operand} {i : Nat} {b : Blk} (h : estX Θ tm mem t m s x = some (i, b, true)) :
 ∃ w', (Instr.entryStore t (a.eval m) (a.eval s) (a.eval x)).run P w = .ok () w' ∧ MemRel base φ (Mem.set mem i b) nxt w' ∧ Below base w w' := by
 unfold estX at h
 split at h
 ·rename_i ti i' c n d xv e hti hm' hs hx
  split at h
  ·rename_i ke ee hty hsub
   split at h
   ·rename_i ki ei b0 hki hei hb0
    cases hwr : b0.wr <;> rw [hwr] at h
    ·cases h
    ·simp only [cond_true] at h
     split at h
     ·rename_i x' row hx' hrow
      simp only [Option.some.injEq, Prod.mk.injEq] at h
      obtain ⟨rfl, rfl, hok⟩ := h
      obtain ⟨hc1, hok⟩ := and_split hok
      obtain ⟨hc2, hok⟩ := and_split hok
      obtain ⟨hc3, hok⟩ := and_split hok
      obtain ⟨hn0, hnl⟩ := and_split hok
      try subst hc1
      try subst hc2
      try subst hc3
      have hn0 := of_decide_eq_true hn0
      have hnl := of_decide_eq_true hnl
      have hTe := hΘ.get hei
      have hxv := coeV_ok (t := ei.ty) (rd_ok ht hx)
      rw [asT_eq hx'] at hxv
      have hxv := V1_of_VR hTe.tup hxv
      obtain ⟨kk, hsx⟩ := rdI_eq hs
      have hsv := VR_int.1 (rd_ok ht hsx)
      obtain ⟨ph, hp, hv⟩ := VR_map.1 (rd_ok ht hm')
      have hrw : mapB mem ki.ty ei.ty (some i') = some row := by simp only [mapB, hb0, hrow]
      rcases mapB_ok hm hrw (rd_ok ht hm') with ⟨h0, _⟩ | ⟨i2, ph2, b2, es, clock, h0, hp2, hb2, he2, hv2, hh, hER, hbn⟩
      ·cases h0
      ·cases h0
       rw [hp] at hp2; cases hp2
       rw [hb0] at hb2; cases hb2
       have hbt : b0.t = MT ki.ty ei.ty := by rw [asBlk_eq hrow]
       have hown := (hm.blkAt hb0 hp).own hwr
       have hlt : ph.blk < w.heap.size := (hm.fresh _ _ hp).2
       have hg := MapKept.run_getObj_map (P := P) hh
       have hER' := ER_iff.1 hER
       have hl : es.size = row.length := by have := hER'.1; simpa using this
       have hbl : ∀ o, Below base w { w with heap := w.heap.setIfInBounds ph.blk o } := fun o => ⟨rfl, rfl, rfl, by simp, fun k hk => by
        simp only [Array.getElem?_setIfInBounds]
        rw [if_neg (by have := hown.1; omega)]⟩
       have hfi : es.findIdx? (fun e => (e.born : Int) == n) = some n.toNat := by
        rw [Array.findIdx?_eq_some_iff_getElem]
        refine ⟨by omega, ?_, fun j hj => ?_⟩
        ·have := hbn.2 n.toNat _ (Array.getElem?_eq_getElem (by omega))
         simp only [this, beq_iff_eq]; omega
        ·have := hbn.2 j _ (Array.getElem?_eq_getElem (by omega))
         simp only [this, beq_iff_eq]; omega
       have hst := MapKept.run_setObj_map (P := P) (.map (es.modify n.toNat fun e => { e with val := a.eval x }) clock) hh
       refine ⟨_, by simp [Instr.entryStore, hv, hg, hsv, asInt, asIntOf, hfi, Result.andThen]; exact hst, ?_, hbl _⟩
       refine hm.putMap hb0 hbt hwr hp (by rw [mset_len]; simpa using hl) (fun q y hy => ?_) (hbn.modify fun e => rfl)
       obtain ⟨x0, h1, h2, h3⟩ := mset_get hy
       obtain ⟨e', he', k1, k2⟩ := hER'.2 q x0 h1
       rcases h3 with ⟨rfl, h3⟩ | ⟨h3, rfl⟩
       ·refine ⟨{ e' with val := a.eval x }, by rw [Array.getElem?_modify, if_pos rfl]; rw [show es[n.toNat]? = some e' by simpa using he']; rfl, ?_, ?_⟩
        ·rw [h2]; exact k1
        ·rw [h3]; exact hxv
       ·refine ⟨e', ?_, k1, k2⟩
        rw [Array.getElem?_modify, if_neg (fun e => h3 e.symm)]
        simpa using he'
     ·cases h
   ·cases h
  ·cases h
 ·cases h
theorem acts_mapEntry {t : Nat} {m k : Operand} (h : opxI Θ K tm mem id nn nxt ⟨dst, .mapEntry t m k, type, pos, after, guard⟩ = some r) (hok : r.ok = true) : Acts P base φ w a ⟨dst, .mapEntry t m k, type, pos, after, guard⟩ id r := by
 simp only [opxI] at h
 split at h
 ·rename_i i b v c hb
  cases h
  simp only at hok
  subst hok
  obtain ⟨w', z, h1, hz, h2, h3⟩ := run_ent hΘ hK hm ht hb
  refine acts_value (x := z) (w' := w') ?_ (Phi.le_refl _) h2 h3 (fun v' hv => by cases hv; exact hz) .refl
  simp only [execOp, Sem.run_bind, h1, Result.andThen, Sem.run_pure]
 ·cases h
theorem acts_entryStore {t : Nat} {m s x : Operand} (h : opxI Θ K tm mem id nn nxt ⟨dst, .entryStore t m s x, type, pos, after, guard⟩ = some r) (hok : r.ok = true) : Acts P base φ w a ⟨dst, .entryStore t m s x, type, pos, after, guard⟩ id r := by
 simp only [opxI] at h
 split at h
 ·rename_i i b c hb
  cases h
  simp only at hok
  subst hok
  obtain ⟨w', h1, h2, h3⟩ := run_est hΘ hK hm ht hb
  refine acts_skip (w' := w') ?_ (Phi.le_refl _) h2 h3 rfl .refl
  simp only [execOp, Sem.run_bind, h1, Result.andThen, Sem.run_pure]
 ·cases h
theorem acts_mapUpdate {t : Nat} {m k x : Operand} (h : opxI Θ K tm mem id nn nxt ⟨dst, .mapUpdate t m k x, type, pos, after, guard⟩ = some r) (hok : r.ok = true) : Acts P base φ w a ⟨dst, .mapUpdate t m k x, type, pos, after, guard⟩ id r := by
 simp only [opxI] at h
 split at h
 ·rename_i i b c hb
  cases h
  simp only at hok
  subst hok
  obtain ⟨w', h1, h2, h3⟩ := run_put hΘ hK hm ht hb
  refine acts_skip (w' := w') ?_ (Phi.le_refl _) h2 h3 rfl .refl
  simp only [execOp, Sem.run_bind, h1, Result.andThen, Sem.run_pure]
 ·cases h
theorem acts_insert {t : Nat} {m k x : Operand} (h : opxI Θ K tm mem id nn nxt ⟨dst, .insert t m k x, type, pos, after, guard⟩ = some r) (hok : r.ok = true) : Acts P base φ w a ⟨dst, .insert t m k x, type, pos, after, guard⟩ id r := by
 simp only [opxI] at h
 split at h
 ·rename_i i b c hb
  cases h
  simp only at hok
  subst hok
  obtain ⟨w', h1, h2, h3⟩ := run_put hΘ hK hm ht hb
  refine acts_skip (w' := w') ?_ (Phi.le_refl _) h2 h3 rfl .refl
  simp only [execOp, Sem.run_bind, h1, Result.andThen, Sem.run_pure]
 ·cases h
end
end Go.GX
