import Derived.Test.YtlakcjlgjmeefaaGreatIN
import Derived.Test.YtlakcjlgjmeefaaGreatNX
import Derived.Test.YtlakcjlgjmeefaaGreatGd
namespace Go.Proofs.Nu
open Go.GX
set_option linter.unusedVariables false
set_option linter.unusedSimpArgs false
theorem getD_lt' {α : Type} {d : α} {l : List α} {i : Nat} (h : i < l.length) : l.getD i d = l[i] := by simp [List.getD, h]
def withR (c : KD6) (R : List Int) : KD6 := (c.1, (c.2.1, (c.2.2.1, (R, (c.2.2.2.2.1, c.2.2.2.2.2)))))
abbrev wo (id : Int) (l : List Int) : List Int := l.filter (fun x => !decide (x = id))
theorem E195_eq (n id : Int) : E195 (n, id, ()) = some (decide (n = id)) := rfl
theorem F195_e (n id : Int) : F195 (n, id, ()) = decide (n = id) ∧ G195 (n, id, ()) = true := ofE (E195_eq n id)
def ixF (id : Int) : List Int → Nat → Option Nat
  | [], _ => none
  | x :: r, i => if x = id then some i else ixF id r (i + 1)
theorem V580 {l : List Int} {id : Int} (hl : l.length ≤ 1048576) {i : Nat} (hi : i < l.length) :
    V238_0 (l, (), ((l.length : Nat) : Int), (i : Int), id, ()) = some (bif decide (l.getD i 0 = id) then .inr (.inr ((i : Int), ())) else .inl (l, (), ((l.length : Nat) : Int), ((i + 1 : Nat) : Int), id, ())) := by
  show R238_0 _ _ _ _ l () ((l.length : Nat) : Int) (i : Int) id = _
  unfold R238_0
  have h1 : (i : Int) < ((l.length : Nat) : Int) := by omega
  have h2 : (0 : Int) ≤ (i : Int) := by omega
  have hw : IntKind.wrap .i64 ((i : Int) + 1) = ((i + 1 : Nat) : Int) := by rw [wi64 (by omega)]; omega
  have hn : Int.toNat (i : Int) = i := by omega
  simp only [hn, hw, (F195_e _ _).1, (F195_e _ _).2]
  rw [bif_t (decide_eq_true h1)]
  cases decide (l.getD i 0 = id) <;> simp [tt_eq, h1, h2]
theorem V58e {l : List Int} {id : Int} : V238_0 (l, (), ((l.length : Nat) : Int), ((l.length : Nat) : Int), id, ()) = some (.inr (.inl ())) := by
  show R238_0 _ _ _ _ l () ((l.length : Nat) : Int) ((l.length : Nat) : Int) id = _
  unfold R238_0
  rw [bif_f (decide_eq_false (by omega))]
theorem wh58 {l : List Int} {id : Int} (hl : l.length ≤ 1048576) : ∀ (f i : Nat), i + f = l.length →
    wh V238_0 (l, (), ((l.length : Nat) : Int), (i : Int), id, ()) = some (match ixF id (l.drop i) i with | none => .inl () | some k => .inr ((k : Int), ()))
  | 0, i, h => by
    have : i = l.length := by omega
    subst this
    rw [wh_stop V58e]
    simp [ixF]
  | f + 1, i, h => by
    have hi : i < l.length := by omega
    have hd : l.drop i = l.getD i 0 :: l.drop (i + 1) := by
      rw [List.drop_eq_getElem_cons hi, getD_lt' hi]
    rw [hd]
    by_cases e : l.getD i 0 = id
    · rw [wh_stop (y := .inr ((i : Int), ())) (by rw [V580 hl hi, decide_eq_true e]; rfl)]
      simp only [ixF, if_pos e]
    · rw [wh_next (x' := (l, (), ((l.length : Nat) : Int), ((i + 1 : Nat) : Int), id, ())) (by rw [V580 hl hi, decide_eq_false e]; rfl), wh58 hl f (i + 1) (by omega)]
      simp only [ixF, if_neg e]
theorem E238_eq {l : List Int} {id : Int} (hl : l.length ≤ 1048576) : E238 (l, (id, ()), ()) = some (match ixF id l 0 with | none => -1 | some k => (k : Int)) := by
  have hw := wh58 (id := id) hl l.length 0 (by omega)
  rw [List.drop_zero] at hw
  have hV := whV_of (hd := hd238_0) (ys := ys238_0) (f := V238_0) hw
  have hQ := whK_of (hd := hd238_0) (ys := ys238_0) (f := V238_0) hw
  show S238 _ _ W238_0 Q238_0 l (id, ()) = _
  unfold S238
  have hV : W238_0 (l, (), ((l.length : Nat) : Int), 0, id, ()) = _ := hV
  have hQ : Q238_0 (l, (), ((l.length : Nat) : Int), 0, id, ()) = true := hQ
  simp only [hV, hQ]
  cases ixF id l 0 <;> rfl
theorem F238_e {l : List Int} {id : Int} (hl : l.length ≤ 1048576) : F238 (l, (id, ()), ()) = (match ixF id l 0 with | none => -1 | some k => (k : Int)) ∧ G238 (l, (id, ()), ()) = true := ofE (E238_eq hl)
theorem ixF_none {id : Int} : ∀ {l : List Int} {i : Nat}, ixF id l i = none → wo id l = l
  | [], _, _ => rfl
  | x :: r, i, h => by
    simp only [ixF] at h
    by_cases e : x = id
    · rw [if_pos e] at h; cases h
    · rw [if_neg e] at h
      simp only [wo, List.filter_cons, e, decide_false, Bool.not_false, if_true]
      rw [show List.filter (fun x => !decide (x = id)) r = r from ixF_none h]
theorem ixF_some {id : Int} : ∀ {l : List Int} {i k : Nat}, ixF id l i = some k → ∃ j, k = i + j ∧ j < l.length ∧ wo id (l.take j) = l.take j ∧ l.getD j 0 = id
  | [], _, _, h => by cases h
  | x :: r, i, k, h => by
    simp only [ixF] at h
    by_cases e : x = id
    · rw [if_pos e] at h
      cases h
      exact ⟨0, rfl, by simp, rfl, by simpa using e⟩
    · rw [if_neg e] at h
      obtain ⟨j, h1, h2, h3, h4⟩ := ixF_some h
      refine ⟨j + 1, by omega, by simp; omega, ?_, by simpa using h4⟩
      simp only [List.take_succ_cons, wo, List.filter_cons, e, decide_false, Bool.not_false, if_true]
      rw [show List.filter (fun x => !decide (x = id)) (r.take j) = r.take j from h3]
def dl (id : Int) : Nat → List Int → Nat → Nat → List Int × Nat
  | 0, x, i, _ => (x, i)
  | f + 1, x, i, j => if x.getD j 0 = id then dl id f x i (j + 1) else dl id f (x.set i (x.getD j 0)) (i + 1) (j + 1)
theorem dl_spec {id : Int} : ∀ (f : Nat) (x : List Int) (i j : Nat), j + f = x.length → i ≤ j → (dl id f x i j).1.length = x.length ∧ (dl id f x i j).2 ≤ x.length ∧ (dl id f x i j).1.take (dl id f x i j).2 = x.take i ++ wo id (x.drop j)
  | 0, x, i, j, h, hi => by
    have : j = x.length := by omega
    subst this
    exact ⟨rfl, hi, by simp [dl]⟩
  | f + 1, x, i, j, h, hi => by
    have hj : j < x.length := by omega
    have hd : x.drop j = x.getD j 0 :: x.drop (j + 1) := by rw [List.drop_eq_getElem_cons hj, getD_lt' hj]
    simp only [dl]
    by_cases e : x.getD j 0 = id
    · rw [if_pos e]
      obtain ⟨h1, h2, h3⟩ := dl_spec (id := id) f x i (j + 1) (by omega) (by omega)
      refine ⟨h1, h2, ?_⟩
      rw [h3, hd]
      simp only [wo, List.filter_cons, e, decide_true, Bool.not_true]
      rfl
    · rw [if_neg e]
      obtain ⟨h1, h2, h3⟩ := dl_spec (id := id) f (x.set i (x.getD j 0)) (i + 1) (j + 1) (by rw [List.length_set]; omega) (by omega)
      rw [List.length_set] at h1 h2
      refine ⟨h1, h2, ?_⟩
      rw [h3, hd, List.drop_set_of_lt (by omega)]
      simp only [wo, List.filter_cons, e, decide_false, Bool.not_false, if_true]
      rw [List.take_succ_eq_append_getElem (by rw [List.length_set]; omega), List.take_set_of_le (by omega)]
      simp
theorem V510 {x : List Int} {id : Int} (hl : x.length ≤ 1048576) {i j : Nat} (hj : j < x.length) (hi : i < j) :
    V194_0 (x, (), (i : Int), (j : Int), id, ()) = some (.inl (if x.getD j 0 = id then (x, (), (i : Int), ((j + 1 : Nat) : Int), id, ()) else (x.set i (x.getD j 0), (), ((i + 1 : Nat) : Int), ((j + 1 : Nat) : Int), id, ()))) := by
  show R194_0 _ _ _ _ _ _ x () (i : Int) (j : Int) id = _
  unfold R194_0
  have h1 : (j : Int) < ((x.length : Nat) : Int) := by omega
  have h2 : (0 : Int) ≤ (j : Int) := by omega
  have h3 : (i : Int) < ((x.length : Nat) : Int) := by omega
  have h4 : (0 : Int) ≤ (i : Int) := by omega
  have h5 : i < x.length := by omega
  have hw : IntKind.wrap .i64 ((j : Int) + 1) = ((j + 1 : Nat) : Int) := by rw [wi64 (by omega)]; omega
  have hw2 : IntKind.wrap .i64 ((i : Int) + 1) = ((i + 1 : Nat) : Int) := by rw [wi64 (by omega)]; omega
  have hn : Int.toNat (j : Int) = j := by omega
  have hn2 : Int.toNat (i : Int) = i := by omega
  simp only [hn, hn2, hw, hw2, Nat.zero_add, fl0_eq, seO_eq, (F195_e _ _).1, (F195_e _ _).2]
  rw [bif_t (decide_eq_true h1)]
  by_cases e : x.getD j 0 = id
  · rw [if_pos e, bif_f (by rw [decide_eq_true e]; rfl), bif_t (by simp [tt_eq, h1, h2, hj])]
  · rw [if_neg e, bif_t (by rw [decide_eq_false e]; rfl), bif_t (by simp [tt_eq, h1, h2, h3, h4, h5, hj])]
    rw [lset_eq h5, sec_full (by rw [List.length_set])]
theorem V51e {x : List Int} {id : Int} {i : Nat} : V194_0 (x, (), (i : Int), ((x.length : Nat) : Int), id, ()) = some (.inr (x, (i : Int), ())) := by
  show R194_0 _ _ _ _ _ _ x () (i : Int) ((x.length : Nat) : Int) id = _
  unfold R194_0
  simp only [fl0_eq, seO_eq]
  rw [bif_f (decide_eq_false (by omega))]
  rfl
theorem wh51 {id : Int} : ∀ (f : Nat) (x : List Int) (i j : Nat), x.length ≤ 1048576 → j + f = x.length → i < j →
    wh V194_0 (x, (), (i : Int), (j : Int), id, ()) = some ((dl id f x i j).1, (((dl id f x i j).2 : Nat) : Int), ())
  | 0, x, i, j, hl, h, hi => by
    have : j = x.length := by omega
    subst this
    exact wh_stop V51e
  | f + 1, x, i, j, hl, h, hi => by
    have hj : j < x.length := by omega
    simp only [dl]
    by_cases e : x.getD j 0 = id
    · rw [if_pos e, ← wh51 f x i (j + 1) hl (by omega) (by omega)]
      exact wh_next (by rw [V510 hl hj hi, if_pos e])
    · rw [if_neg e, ← wh51 f (x.set i (x.getD j 0)) (i + 1) (j + 1) (by rw [List.length_set]; exact hl) (by rw [List.length_set]; omega) (by omega)]
      exact wh_next (by rw [V510 hl hj hi, if_neg e])
theorem E194_eq {l : List Int} {id : Int} (hl : l.length ≤ 1048576) : E194 (l, (id, ()), ()) = some (wo id l) := by
  show S194 _ _ _ _ W194_0 Q194_0 l (id, ()) = _
  unfold S194
  simp only [seO_eq, fl0_eq, flO_eq, (F238_e hl).1, (F238_e hl).2]
  cases hx : ixF id l 0 with
  | none =>
    simp only
    rw [bif_t (by decide), ixF_none hx]
    rfl
  | some k =>
    simp only
    obtain ⟨j, hk, hj, ht, hg⟩ := ixF_some hx
    have hk : k = j := by omega
    subst hk
    have hw1 : IntKind.wrap .i64 ((k : Int) + 1) = ((k + 1 : Nat) : Int) := by rw [wi64 (by omega)]; omega
    have hw := wh51 (id := id) (l.length - (k + 1)) l k (k + 1) hl (by omega) (by omega)
    obtain ⟨d1, d2, d3⟩ := dl_spec (id := id) (l.length - (k + 1)) l k (k + 1) (by omega) (by omega)
    generalize hx' : (dl id (l.length - (k + 1)) l k (k + 1)).1 = x at hw d1 d3
    generalize hi' : (dl id (l.length - (k + 1)) l k (k + 1)).2 = i at hw d2 d3
    have hV : W194_0 (l, (), (k : Int), ((k + 1 : Nat) : Int), id, ()) = (x, (i : Int), ()) := whV_of hw
    have hQ : Q194_0 (l, (), (k : Int), ((k + 1 : Nat) : Int), id, ()) = true := whK_of hw
    have hwo : wo id l = l.take k ++ wo id (l.drop (k + 1)) := by
      conv => lhs; rw [← List.take_append_drop k l]
      rw [wo, List.filter_append]
      have hd : l.drop k = l.getD k 0 :: l.drop (k + 1) := by rw [List.drop_eq_getElem_cons hj, getD_lt' hj]
      rw [hd, List.filter_cons, hg]
      simp only [decide_true, Bool.not_true, Bool.false_eq_true, if_false]
      have ht : List.filter (fun x => !decide (x = id)) (l.take k) = l.take k := ht
      rw [ht]
    rw [bif_f (decide_eq_false (by omega))]
    simp only [hw1, hV, hQ]
    have hn : Int.toNat (i : Int) = i := by omega
    have hn0 : Int.toNat ((i : Int) - 0) = i := by omega
    have hn1 : Int.toNat (((x.length : Nat) : Int) - (i : Int)) = x.length - i := by omega
    have hil : i ≤ x.length := by omega
    have hb : Nat.ble (i + (x.length - i)) x.length = true := Nat.ble_eq_true_of_le (by omega)
    simp only [hn, hn0, hn1, Nat.zero_add, hb]
    rw [bif_t (by simp [tt_eq]; omega), bif_t (by simp [tt_eq]; omega), hwo, ← d3]
    congr 1
    unfold cutIn
    apply List.ext_getElem
    · simp [sec]; omega
    · intro m h1 h2
      have hm : m < i := by simpa [sec] using h1
      have hmx : m < x.length := by omega
      simp [sec, List.getD, hm, hmx]
      rw [List.getElem?_append_left (by simpa using hm)]
      simp [hm, hmx]
theorem F194_e {l : List Int} {id : Int} (hl : l.length ≤ 1048576) : F194 (l, (id, ()), ()) = wo id l ∧ G194 (l, (id, ()), ()) = true := ofE (E194_eq hl)
theorem E142_eq {s : KD6} {id : Int} (hl : s.2.2.2.1.length ≤ 1048576) : E142 (s, id, ()) = some (withR s (wo id s.2.2.2.1)) := by
  show S142 F194 G194 s id = _
  unfold S142
  simp only [seO_eq, fl0_eq, (F194_e hl).1, (F194_e hl).2]
  rfl
theorem F142_e {s : KD6} {id : Int} (hl : s.2.2.2.1.length ≤ 1048576) : F142 (s, id, ()) = withR s (wo id s.2.2.2.1) ∧ G142 (s, id, ()) = true := ofE (E142_eq hl)
end Go.Proofs.Nu
