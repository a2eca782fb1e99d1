import Derived.Test.YtfhpihomdnbgpaaNK
import Derived.Test.YtfhpihomdnbgpaaNW
import Derived.Test.YtfhpihomdnbgpaaJ
namespace Go.Proofs.Po
open Go.GX
set_option linter.unusedVariables false
set_option linter.unusedSimpArgs false
theorem getD_lt' {α : Type} {d : α} {l : List α} {i : Nat} (h : i < l.length) : l.getD i d = l[i] := by simp [List.getD, h]
def withR (c : KD6) (R : List Int) : KD6 := (c.1, (c.2.1, (c.2.2.1, (R, (c.2.2.2.2.1, c.2.2.2.2.2)))))
theorem E18g_eq {a : KD6} (hl : a.2.2.2.1.length ≤ 1048576) : E18g (a, ()) = some a := by
 show S18g F38g G38g a = some a
 unfold S18g
 have h1 : ∀ l : List Int, F38g (l, ()) = l := fun _ => rfl
 have h2 : G38g (a.2.2.2.1, ()) = true := decide_eq_true (show a.2.2.2.1.length * 8 ≤ 140737488355328 by omega)
 simp only [seI_eq, flI_eq, fl0_eq, seO_eq, h1, h2]
 rfl
theorem F18g_e {a : KD6} (hl : a.2.2.2.1.length ≤ 1048576) : F18g (a, ()) = a ∧ G18g (a, ()) = true := ofE (E18g_eq hl)
abbrev wo (id : Int) (l : List Int) : List Int := l.filter (fun x => !decide (x = id))
theorem E61_eq (n id : Int) : E61 (n, id, ()) = some (decide (n = id)) := rfl
theorem F61_e (n id : Int) : F61 (n, id, ()) = decide (n = id) ∧ G61 (n, id, ()) = true := ofE (E61_eq n id)
def ixF (id : Int) : List Int → Nat → Option Nat
 | [], _ => none
 | x :: r, i => if x = id then some i else ixF id r (i + 1)
theorem V580 {l : List Int} {id : Int} (hl : l.length ≤ 1048576) {i : Nat} (hi : i < l.length) :
 V70_0 (l, (), ((l.length : Nat) : Int), (i : Int), id, ()) = some (bif decide (l.getD i 0 = id) then .inr (.inr ((i : Int), ())) else .inl (l, (), ((l.length : Nat) : Int), ((i + 1 : Nat) : Int), id, ())) := by
 show R70_0 _ _ _ _ l () ((l.length : Nat) : Int) (i : Int) id = _
 unfold R70_0
 have h1 : (i : Int) < ((l.length : Nat) : Int) := by omega
 have h2 : (0 : Int) ≤ (i : Int) := by omega
 have hw : IntKind.wrap .i64 ((i : Int) + 1) = ((i + 1 : Nat) : Int) := by rw [wi64 (by omega)]; omega
 have hn : Int.toNat (i : Int) = i := by omega
 simp only [hn, hw, (F61_e _ _).1, (F61_e _ _).2]
 rw [bif_t (decide_eq_true h1)]
 cases decide (l.getD i 0 = id) <;> simp [tt_eq, h1, h2]
theorem V58e {l : List Int} {id : Int} : V70_0 (l, (), ((l.length : Nat) : Int), ((l.length : Nat) : Int), id, ()) = some (.inr (.inl ())) := by
 show R70_0 _ _ _ _ l () ((l.length : Nat) : Int) ((l.length : Nat) : Int) id = _
 unfold R70_0
 rw [bif_f (decide_eq_false (by omega))]
theorem wh58 {l : List Int} {id : Int} (hl : l.length ≤ 1048576) : ∀ (f i : Nat), i + f = l.length →
 wh V70_0 (l, (), ((l.length : Nat) : Int), (i : Int), id, ()) = some (match ixF id (l.drop i) i with | none => .inl () | some k => .inr ((k : Int), ()))
 | 0, i, h => by
  have : i = l.length := by omega
  subst this
  rw [wh_stop V58e]
  simp [ixF]
 | f + 1, i, h => by
  have hi : i < l.length := by omega
  have hd : l.drop i = l.getD i 0 :: l.drop (i + 1) := by
   rw [List.drop_eq_getElem_cons hi, getD_lt' hi]
  rw [hd]
  by_cases e : l.getD i 0 = id
  ·rw [wh_stop (y := .inr ((i : Int), ())) (by rw [V580 hl hi, decide_eq_true e]; rfl)]
   simp only [ixF, if_pos e]
  ·rw [wh_next (x' := (l, (), ((l.length : Nat) : Int), ((i + 1 : Nat) : Int), id, ())) (by rw [V580 hl hi, decide_eq_false e]; rfl), wh58 hl f (i + 1) (by omega)]
   simp only [ixF, if_neg e]
theorem E70_eq {l : List Int} {id : Int} (hl : l.length ≤ 1048576) : E70 (l, (id, ()), ()) = some (match ixF id l 0 with | none => -1 | some k => (k : Int)) := by
 have hw := wh58 (id := id) hl l.length 0 (by omega)
 rw [List.drop_zero] at hw
 have hV := whV_of (hd := hd70_0) (ys := ys70_0) (f := V70_0) hw
 have hQ := whK_of (hd := hd70_0) (ys := ys70_0) (f := V70_0) hw
 show S70 _ _ W70_0 Q70_0 l (id, ()) = _
 unfold S70
 have hV : W70_0 (l, (), ((l.length : Nat) : Int), 0, id, ()) = _ := hV
 have hQ : Q70_0 (l, (), ((l.length : Nat) : Int), 0, id, ()) = true := hQ
 simp only [hV, hQ]
 cases ixF id l 0 <;> rfl
theorem F70_e {l : List Int} {id : Int} (hl : l.length ≤ 1048576) : F70 (l, (id, ()), ()) = (match ixF id l 0 with | none => -1 | some k => (k : Int)) ∧ G70 (l, (id, ()), ()) = true := ofE (E70_eq hl)
theorem ixF_none {id : Int} : ∀ {l : List Int} {i : Nat}, ixF id l i = none → wo id l = l
 | [], _, _ => rfl
 | x :: r, i, h => by
  simp only [ixF] at h
  by_cases e : x = id
  ·rw [if_pos e] at h; cases h
  ·rw [if_neg e] at h
   simp only [wo, List.filter_cons, e, decide_false, Bool.not_false, if_true]
   rw [show List.filter (fun x => !decide (x = id)) r = r from ixF_none h]
theorem ixF_some {id : Int} : ∀ {l : List Int} {i k : Nat}, ixF id l i = some k → ∃ j, k = i + j ∧ j < l.length ∧ wo id (l.take j) = l.take j ∧ l.getD j 0 = id
 | [], _, _, h => by cases h
 | x :: r, i, k, h => by
  simp only [ixF] at h
  by_cases e : x = id
  ·rw [if_pos e] at h
   cases h
   exact ⟨0, rfl, by simp, rfl, by simpa using e⟩
  ·rw [if_neg e] at h
   obtain ⟨j, h1, h2, h3, h4⟩ := ixF_some h
   refine ⟨j + 1, by omega, by simp; omega, ?_, by simpa using h4⟩
   simp only [List.take_succ_cons, wo, List.filter_cons, e, decide_false, Bool.not_false, if_true]
   rw [show List.filter (fun x => !decide (x = id)) (r.take j) = r.take j from h3]
def dl (id : Int) : Nat → List Int → Nat → Nat → List Int × Nat
 | 0, x, i, _ => (x, i)
 | f + 1, x, i, j => if x.getD j 0 = id then dl id f x i (j + 1) else dl id f (x.set i (x.getD j 0)) (i + 1) (j + 1)
theorem dl_spec {id : Int} : ∀ (f : Nat) (x : List Int) (i j : Nat), j + f = x.length → i ≤ j → (dl id f x i j).1.length = x.length ∧ (dl id f x i j).2 ≤ x.length ∧ (dl id f x i j).1.take (dl id f x i j).2 = x.take i ++ wo id (x.drop j)
 | 0, x, i, j, h, hi => by
  have : j = x.length := by omega
  subst this
  exact ⟨rfl, hi, by simp [dl]⟩
 | f + 1, x, i, j, h, hi => by
  have hj : j < x.length := by omega
  have hd : x.drop j = x.getD j 0 :: x.drop (j + 1) := by rw [List.drop_eq_getElem_cons hj, getD_lt' hj]
  simp only [dl]
  by_cases e : x.getD j 0 = id
  ·rw [if_pos e]
   obtain ⟨h1, h2, h3⟩ := dl_spec (id := id) f x i (j + 1) (by omega) (by omega)
   refine ⟨h1, h2, ?_⟩
   rw [h3, hd]
   simp only [wo, List.filter_cons, e, decide_true, Bool.not_true]
   rfl
  ·rw [if_neg e]
   obtain ⟨h1, h2, h3⟩ := dl_spec (id := id) f (x.set i (x.getD j 0)) (i + 1) (j + 1) (by rw [List.length_set]; omega) (by omega)
   rw [List.length_set] at h1 h2
   refine ⟨h1, h2, ?_⟩
   rw [h3, hd, List.drop_set_of_lt (by omega)]
   simp only [wo, List.filter_cons, e, decide_false, Bool.not_false, if_true]
   rw [List.take_succ_eq_append_getElem (by rw [List.length_set]; omega), List.take_set_of_le (by omega)]
   simp
theorem V510 {x : List Int} {id : Int} (hl : x.length ≤ 1048576) {i j : Nat} (hj : j < x.length) (hi : i < j) :
 V60_0 (x, (), (i : Int), (j : Int), id, ()) = some (.inl (if x.getD j 0 = id then (x, (), (i : Int), ((j + 1 : Nat) : Int), id, ()) else (x.set i (x.getD j 0), (), ((i + 1 : Nat) : Int), ((j + 1 : Nat) : Int), id, ()))) := by
 show R60_0 _ _ _ _ _ _ x () (i : Int) (j : Int) id = _
 unfold R60_0
 have h1 : (j : Int) < ((x.length : Nat) : Int) := by omega
 have h2 : (0 : Int) ≤ (j : Int) := by omega
 have h3 : (i : Int) < ((x.length : Nat) : Int) := by omega
 have h4 : (0 : Int) ≤ (i : Int) := by omega
 have h5 : i < x.length := by omega
 have hw : IntKind.wrap .i64 ((j : Int) + 1) = ((j + 1 : Nat) : Int) := by rw [wi64 (by omega)]; omega
 have hw2 : IntKind.wrap .i64 ((i : Int) + 1) = ((i + 1 : Nat) : Int) := by rw [wi64 (by omega)]; omega
 have hn : Int.toNat (j : Int) = j := by omega
 have hn2 : Int.toNat (i : Int) = i := by omega
 simp only [hn, hn2, hw, hw2, Nat.zero_add, fl0_eq, seO_eq, (F61_e _ _).1, (F61_e _ _).2]
 rw [bif_t (decide_eq_true h1)]
 by_cases e : x.getD j 0 = id
 ·rw [if_pos e, bif_f (by rw [decide_eq_true e]; rfl), bif_t (by simp [tt_eq, h1, h2, hj])]
 ·rw [if_neg e, bif_t (by rw [decide_eq_false e]; rfl), bif_t (by simp [tt_eq, h1, h2, h3, h4, h5, hj])]
  rw [lset_eq h5, sec_full (by rw [List.length_set])]
theorem V51e {x : List Int} {id : Int} {i : Nat} : V60_0 (x, (), (i : Int), ((x.length : Nat) : Int), id, ()) = some (.inr (x, (i : Int), ())) := by
 show R60_0 _ _ _ _ _ _ x () (i : Int) ((x.length : Nat) : Int) id = _
 unfold R60_0
 simp only [fl0_eq, seO_eq]
 rw [bif_f (decide_eq_false (by omega))]
 rfl
theorem wh51 {id : Int} : ∀ (f : Nat) (x : List Int) (i j : Nat), x.length ≤ 1048576 → j + f = x.length → i < j →
 wh V60_0 (x, (), (i : Int), (j : Int), id, ()) = some ((dl id f x i j).1, (((dl id f x i j).2 : Nat) : Int), ())
 | 0, x, i, j, hl, h, hi => by
  have : j = x.length := by omega
  subst this
  exact wh_stop V51e
 | f + 1, x, i, j, hl, h, hi => by
  have hj : j < x.length := by omega
  simp only [dl]
  by_cases e : x.getD j 0 = id
  ·rw [if_pos e, ← wh51 f x i (j + 1) hl (by omega) (by omega)]
   exact wh_next (by rw [V510 hl hj hi, if_pos e])
  ·rw [if_neg e, ← wh51 f (x.set i (x.getD j 0)) (i + 1) (j + 1) (by rw [List.length_set]; exact hl) (by rw [List.length_set]; omega) (by omega)]
   exact wh_next (by rw [V510 hl hj hi, if_neg e])
theorem E60_eq {l : List Int} {id : Int} (hl : l.length ≤ 1048576) : E60 (l, (id, ()), ()) = some (wo id l) := by
 show S60 _ _ _ _ W60_0 Q60_0 l (id, ()) = _
 unfold S60
 simp only [seO_eq, fl0_eq, flO_eq, (F70_e hl).1, (F70_e hl).2]
 cases hx : ixF id l 0 with
 | none =>
  simp only
  rw [bif_t (by decide), ixF_none hx]
  rfl
 | some k =>
  simp only
  obtain ⟨j, hk, hj, ht, hg⟩ := ixF_some hx
  have hk : k = j := by omega
  subst hk
  have hw1 : IntKind.wrap .i64 ((k : Int) + 1) = ((k + 1 : Nat) : Int) := by rw [wi64 (by omega)]; omega
  have hw := wh51 (id := id) (l.length - (k + 1)) l k (k + 1) hl (by omega) (by omega)
  obtain ⟨d1, d2, d3⟩ := dl_spec (id := id) (l.length - (k + 1)) l k (k + 1) (by omega) (by omega)
  generalize hx' : (dl id (l.length - (k + 1)) l k (k + 1)).1 = x at hw d1 d3
  generalize hi' : (dl id (l.length - (k + 1)) l k (k + 1)).2 = i at hw d2 d3
  have hV : W60_0 (l, (), (k : Int), ((k + 1 : Nat) : Int), id, ()) = (x, (i : Int), ()) := whV_of hw
  have hQ : Q60_0 (l, (), (k : Int), ((k + 1 : Nat) : Int), id, ()) = true := whK_of hw
  have hwo : wo id l = l.take k ++ wo id (l.drop (k + 1)) := by
   conv => lhs; rw [← List.take_append_drop k l]
   rw [wo, List.filter_append]
   have hd : l.drop k = l.getD k 0 :: l.drop (k + 1) := by rw [List.drop_eq_getElem_cons hj, getD_lt' hj]
   rw [hd, List.filter_cons, hg]
   simp only [decide_true, Bool.not_true, Bool.false_eq_true, if_false]
   have ht : List.filter (fun x => !decide (x = id)) (l.take k) = l.take k := ht
   rw [ht]
  rw [bif_f (decide_eq_false (by omega))]
  simp only [hw1, hV, hQ]
  have hn : Int.toNat (i : Int) = i := by omega
  have hn0 : Int.toNat ((i : Int) - 0) = i := by omega
  have hn1 : Int.toNat (((x.length : Nat) : Int) - (i : Int)) = x.length - i := by omega
  have hil : i ≤ x.length := by omega
  have hb : Nat.ble (i + (x.length - i)) x.length = true := Nat.ble_eq_true_of_le (by omega)
  simp only [hn, hn0, hn1, Nat.zero_add, hb]
  rw [bif_t (by simp [tt_eq]; omega), bif_t (by simp [tt_eq]; omega), hwo, ← d3]
  congr 1
  unfold cutIn
  apply List.ext_getElem
  ·simp [sec]; omega
  ·intro m h1 h2
   have hm : m < i := by simpa [sec] using h1
   have hmx : m < x.length := by omega
   simp [sec, List.getD, hm, hmx]
   rw [List.getElem?_append_left (by simpa using hm)]
   simp [hm, hmx]
theorem F60_e {l : List Int} {id : Int} (hl : l.length ≤ 1048576) : F60 (l, (id, ()), ()) = wo id l ∧ G60 (l, (id, ()), ()) = true := ofE (E60_eq hl)
theorem E47_eq {s : KD6} {id : Int} (hl : s.2.2.2.1.length ≤ 1048576) : E47 (s, id, ()) = some (withR s (wo id s.2.2.2.1)) := by
 show S47 F60 G60 s id = _
 unfold S47
 simp only [seO_eq, fl0_eq, (F60_e hl).1, (F60_e hl).2]
 rfl
theorem F47_e {s : KD6} {id : Int} (hl : s.2.2.2.1.length ≤ 1048576) : F47 (s, id, ()) = withR s (wo id s.2.2.2.1) ∧ G47 (s, id, ()) = true := ofE (E47_eq hl)
def mp (f : Rg → Rg) (l : List Rg) : Nat → List Rg
 | 0 => l
 | k + 1 => lset dR (mp f l k) k (f (l.getD k dR))
theorem mp_getD (f : Rg → Rg) (l : List Rg) : ∀ (k j : Nat), (mp f l k).getD j dR = if j < k then f (l.getD j dR) else l.getD j dR
 | 0, j => by simp [mp]
 | k + 1, j => by
  rw [mp, lset_getD, mp_getD f l k]
  by_cases e : j = k
  ·subst e; simp
  ·rw [if_neg e]
   by_cases h : j < k
   ·rw [if_pos h, if_pos (by omega)]
   ·rw [if_neg h, if_neg (by omega)]
def sg (f : Rg → Rg) (x : Sl) : Sl := bif decide (x.1 = 2) then (bif eqb KTo6 (f x.2.2.1) dR then (bif !(eqb KTo6 x.2.2.1 (f x.2.2.1)) then dS else (x.1, (x.2.1, (f x.2.2.1, x.2.2.2)))) else (x.1, (x.2.1, (f x.2.2.1, x.2.2.2)))) else x
def mp2 (f : Rg → Rg) (l : List Sl) : Nat → List Sl
 | 0 => l
 | k + 1 => bif decide ((l.getD k dS).1 = 2) then lset dS (mp2 f l k) k (sg f (l.getD k dS)) else mp2 f l k
theorem mp2_getD (f : Rg → Rg) (l : List Sl) : ∀ (k j : Nat), (mp2 f l k).getD j dS = if j < k then sg f (l.getD j dS) else l.getD j dS
 | 0, j => by simp [mp2]
 | k + 1, j => by
  rw [mp2]
  by_cases h2 : (l.getD k dS).1 = 2
  ·rw [bif_t (decide_eq_true h2), lset_getD, mp2_getD f l k]
   by_cases e : j = k
   ·subst e; simp
   ·rw [if_neg e]
    by_cases h : j < k
    ·rw [if_pos h, if_pos (by omega)]
    ·rw [if_neg h, if_neg (by omega)]
  ·rw [bif_f (decide_eq_false h2), mp2_getD f l k]
   by_cases e : j = k
   ·subst e
    rw [if_neg (by omega), if_pos (by omega)]
    unfold sg
    rw [bif_f (decide_eq_false h2)]
   ·by_cases h : j < k
    ·rw [if_pos h, if_pos (by omega)]
    ·rw [if_neg h, if_neg (by omega)]
def mapS (f : Rg → Rg) (s : KD6) : KD6 := (mp f s.1 11, (mp2 f s.2.1 64, s.2.2))
def los (r : Rg) : Rg := bif decide (r.1 = 4) || decide (r.1 = 5) then dR else r
def frg (id : Int) (r : Rg) : Rg := bif decide (r.1 = 9) && decide (r.2.2.2.1 = id) then dR else r
theorem E44_eq (r : Rg) : E44 (r, ()) = some (los r) := by
 show S44 r = _
 unfold S44 los
 by_cases h1 : r.1 = 4 <;> by_cases h2 : r.1 = 5 <;> simp [h1, h2]
theorem F44_e (r : Rg) : F44 (r, ()) = los r ∧ G44 (r, ()) = true := ofE (E44_eq r)
theorem E48_eq (r : Rg) (id : Int) : E48 (r, id, ()) = some (frg id r) := by
 show S48 r id = _
 unfold S48 frg
 by_cases h1 : r.1 = 9 <;> by_cases h2 : r.2.2.2.1 = id <;> simp [h1, h2]
theorem F48_e (id : Int) (r : Rg) : F48 (r, id, ()) = frg id r ∧ G48 (r, id, ()) = true := ofE (E48_eq r id)
theorem V37b0 {s z : KD6} {l : List Rg}  {k : Nat} (hk : k < 11) :
 V43b_0 ((), (), (), l, (k : Int), (mp los l k, s.2), z, ()) = some (.inl ((), (), (), l, ((k + 1 : Nat) : Int), (mp los l (k + 1), s.2), z, ())) := by
 show R43b_0 _ _ _ _ _ _ _ _ () () () l (k : Int) ((mp los l k, s.2)) z = _
 unfold R43b_0
 have h1 : (k : Int) < 11 := by omega
 have h2 : (0 : Int) ≤ (k : Int) := by omega
 have hw : IntKind.wrap .i64 ((k : Int) + 1) = ((k + 1 : Nat) : Int) := by rw [wi64 (by omega)]; omega
 have hn : Int.toNat (k : Int) = k := by omega
 simp only [hn, hw, fl0_eq, Dk.reO_eq, (F44_e  _).1, (F44_e  _).2]
 rw [bif_t (decide_eq_true h1), bif_t (by simp [tt_eq, h1, h2, hk])]
 rfl
theorem V37b0e {s z : KD6} {l : List Rg}  : V43b_0 ((), (), (), l, 11, s, z, ()) = some (.inr ((), (), (), s, z, ())) := by
 show R43b_0 _ _ _ _ _ _ _ _ () () () l 11 s z = _
 unfold R43b_0
 simp only [fl0_eq, Dk.reO_eq]
 rfl
theorem W37b0 {s z : KD6}  : W43b_0 ((), (), (), s.1, 0, s, z, ()) = ((), (), (), (mp los s.1 11, s.2), z, ()) ∧ Q43b_0 ((), (), (), s.1, 0, s, z, ()) = true := by
 have hs := wh_steps (f := V43b_0) (fun i => ((), (), (), s.1, ((i : Nat) : Int), (mp los s.1 i, s.2), z, ())) 11 (fun i h => V37b0  h)
 have he : wh V43b_0 ((), (), (), s.1, (0 : Int), s, z, ()) = some ((), (), (), (mp los s.1 11, s.2), z, ()) := hs.trans (wh_stop (V37b0e ))
 exact ⟨whV_of he, whK_of he⟩
theorem V37b2 {s z : KD6} {l : List Sl}  {k : Nat} (hk : k < 64) :
 V43b_2 ((), (), (), l, (k : Int), (s.1, (mp2 los l k, s.2.2)), z, ()) = some (.inl ((), (), (), l, ((k + 1 : Nat) : Int), (s.1, (mp2 los l (k + 1), s.2.2)), z, ())) := by
 show R43b_2 _ _ _ _ _ _ _ _ () () () l (k : Int) ((s.1, (mp2 los l k, s.2.2))) z = _
 unfold R43b_2
 have h1 : (k : Int) < 64 := by omega
 have h2 : (0 : Int) ≤ (k : Int) := by omega
 have hw : IntKind.wrap .i64 ((k : Int) + 1) = ((k + 1 : Nat) : Int) := by rw [wi64 (by omega)]; omega
 have hn : Int.toNat (k : Int) = k := by omega
 have hg : (mp2 los l k).getD k dS = l.getD k dS := by rw [mp2_getD, if_neg (by omega)]
 simp only [hn, hw, fl0_eq, Dk.reO_eq, (F44_e  _).1, (F44_e  _).2, hg]
 rw [bif_t (decide_eq_true h1)]
 by_cases h3 : (l.getD k dS).1 = 2
 ·have hb : ∀ x : Sl, sg los (l.getD k dS) = x → mp2 los l (k + 1) = lset dS (mp2 los l k) k x := fun x hx => by rw [mp2, bif_t (decide_eq_true h3), hx]
  rw [bif_f (by rw [decide_eq_true h3]; rfl)]
  cases h4 : eqb KTo6 (los (l.getD k dS).2.2.1) dR with
  | true =>
   simp only [cond_true]
   cases h5 : eqb KTo6 (l.getD k dS).2.2.1 (los (l.getD k dS).2.2.1) with
   | true =>
    rw [hb _ (by unfold sg; rw [bif_t (decide_eq_true h3), h4, h5])]
    rw [bif_f (by rfl), bif_t (by simp [tt_eq, h1, h2, hk])]
    rfl
   | false =>
    rw [hb _ (by unfold sg; rw [bif_t (decide_eq_true h3), h4, h5])]
    rw [bif_t (by rfl), bif_t (by simp [tt_eq, h1, h2, hk])]
    rfl
  | false =>
   rw [hb _ (by unfold sg; rw [bif_t (decide_eq_true h3), h4])]
   rw [bif_f (by rfl), bif_t (by simp [tt_eq, h1, h2, hk])]
   rfl
 ·have hb : mp2 los l (k + 1) = mp2 los l k := by rw [mp2, bif_f (decide_eq_false h3)]
  rw [hb, bif_t (by rw [decide_eq_false h3]; rfl), bif_t (by simp [tt_eq, h1, h2])]
theorem V37b2e {s z : KD6} {l : List Sl}  : V43b_2 ((), (), (), l, 64, s, z, ()) = some (.inr ((), (), s, z, ())) := by
 show R43b_2 _ _ _ _ _ _ _ _ () () () l 64 s z = _
 unfold R43b_2
 simp only [fl0_eq, Dk.reO_eq]
 rfl
theorem W37b2 {s z : KD6}  : W43b_2 ((), (), (), s.2.1, 0, s, z, ()) = ((), (), (s.1, (mp2 los s.2.1 64, s.2.2)), z, ()) ∧ Q43b_2 ((), (), (), s.2.1, 0, s, z, ()) = true := by
 have hs := wh_steps (f := V43b_2) (fun i => ((), (), (), s.2.1, ((i : Nat) : Int), (s.1, (mp2 los s.2.1 i, s.2.2)), z, ())) 64 (fun i h => V37b2  h)
 have he : wh V43b_2 ((), (), (), s.2.1, (0 : Int), s, z, ()) = some ((), (), (s.1, (mp2 los s.2.1 64, s.2.2)), z, ()) := hs.trans (wh_stop (V37b2e ))
 exact ⟨whV_of he, whK_of he⟩
theorem E43b_eq {s : KD6}  (hl : s.2.2.2.1.length ≤ 1048576) : E43b (s, (), ()) = some (mapS los s) := by
 show S43b F18g G18g F44 G44 W43b_0 Q43b_0 W43b_2 Q43b_2 s () = _
 unfold S43b
 simp only [Dk.reI_eq, Dk.reO_eq, flI_eq, fl0_eq, flO_eq, (F18g_e hl).1, (F18g_e hl).2]
 rw [(W37b0 (s := s) (z := ([], ([], (0, ([], (0, ())))))) ).1, (W37b0 (s := s) (z := ([], ([], (0, ([], (0, ())))))) ).2]
 simp only []
 rw [(W37b2 (s := (mp los s.1 11, s.2)) (z := ([], ([], (0, ([], (0, ())))))) ).1, (W37b2 (s := (mp los s.1 11, s.2)) (z := ([], ([], (0, ([], (0, ())))))) ).2]
 rfl
theorem F43b_e {s : KD6}  (hl : s.2.2.2.1.length ≤ 1048576) : F43b (s, (), ()) = mapS los s ∧ G43b (s, (), ()) = true := ofE (E43b_eq hl)
theorem V37c0 {s z : KD6} {l : List Rg} (id : Int) {k : Nat} (hk : k < 11) :
 V43c_0 ((), (), (), l, (k : Int), id, (mp (frg id) l k, s.2), z, ()) = some (.inl ((), (), (), l, ((k + 1 : Nat) : Int), id, (mp (frg id) l (k + 1), s.2), z, ())) := by
 show R43c_0 _ _ _ _ _ _ _ _ () () () l (k : Int) id ((mp (frg id) l k, s.2)) z = _
 unfold R43c_0
 have h1 : (k : Int) < 11 := by omega
 have h2 : (0 : Int) ≤ (k : Int) := by omega
 have hw : IntKind.wrap .i64 ((k : Int) + 1) = ((k + 1 : Nat) : Int) := by rw [wi64 (by omega)]; omega
 have hn : Int.toNat (k : Int) = k := by omega
 simp only [hn, hw, fl0_eq, Dk.reO_eq, (F48_e id _).1, (F48_e id _).2]
 rw [bif_t (decide_eq_true h1), bif_t (by simp [tt_eq, h1, h2, hk])]
 rfl
theorem V37c0e {s z : KD6} {l : List Rg} (id : Int) : V43c_0 ((), (), (), l, 11, id, s, z, ()) = some (.inr ((), (), (), id, s, z, ())) := by
 show R43c_0 _ _ _ _ _ _ _ _ () () () l 11 id s z = _
 unfold R43c_0
 simp only [fl0_eq, Dk.reO_eq]
 rfl
theorem W37c0 {s z : KD6} (id : Int) : W43c_0 ((), (), (), s.1, 0, id, s, z, ()) = ((), (), (), id, (mp (frg id) s.1 11, s.2), z, ()) ∧ Q43c_0 ((), (), (), s.1, 0, id, s, z, ()) = true := by
 have hs := wh_steps (f := V43c_0) (fun i => ((), (), (), s.1, ((i : Nat) : Int), id, (mp (frg id) s.1 i, s.2), z, ())) 11 (fun i h => V37c0 id h)
 have he : wh V43c_0 ((), (), (), s.1, (0 : Int), id, s, z, ()) = some ((), (), (), id, (mp (frg id) s.1 11, s.2), z, ()) := hs.trans (wh_stop (V37c0e id))
 exact ⟨whV_of he, whK_of he⟩
theorem V37c2 {s z : KD6} {l : List Sl} (id : Int) {k : Nat} (hk : k < 64) :
 V43c_2 ((), (), (), l, (k : Int), id, (s.1, (mp2 (frg id) l k, s.2.2)), z, ()) = some (.inl ((), (), (), l, ((k + 1 : Nat) : Int), id, (s.1, (mp2 (frg id) l (k + 1), s.2.2)), z, ())) := by
 show R43c_2 _ _ _ _ _ _ _ _ () () () l (k : Int) id ((s.1, (mp2 (frg id) l k, s.2.2))) z = _
 unfold R43c_2
 have h1 : (k : Int) < 64 := by omega
 have h2 : (0 : Int) ≤ (k : Int) := by omega
 have hw : IntKind.wrap .i64 ((k : Int) + 1) = ((k + 1 : Nat) : Int) := by rw [wi64 (by omega)]; omega
 have hn : Int.toNat (k : Int) = k := by omega
 have hg : (mp2 (frg id) l k).getD k dS = l.getD k dS := by rw [mp2_getD, if_neg (by omega)]
 simp only [hn, hw, fl0_eq, Dk.reO_eq, (F48_e id _).1, (F48_e id _).2, hg]
 rw [bif_t (decide_eq_true h1)]
 by_cases h3 : (l.getD k dS).1 = 2
 ·have hb : ∀ x : Sl, sg (frg id) (l.getD k dS) = x → mp2 (frg id) l (k + 1) = lset dS (mp2 (frg id) l k) k x := fun x hx => by rw [mp2, bif_t (decide_eq_true h3), hx]
  rw [bif_f (by rw [decide_eq_true h3]; rfl)]
  cases h4 : eqb KTo6 ((frg id) (l.getD k dS).2.2.1) dR with
  | true =>
   simp only [cond_true]
   cases h5 : eqb KTo6 (l.getD k dS).2.2.1 ((frg id) (l.getD k dS).2.2.1) with
   | true =>
    rw [hb _ (by unfold sg; rw [bif_t (decide_eq_true h3), h4, h5])]
    rw [bif_f (by rfl), bif_t (by simp [tt_eq, h1, h2, hk])]
    rfl
   | false =>
    rw [hb _ (by unfold sg; rw [bif_t (decide_eq_true h3), h4, h5])]
    rw [bif_t (by rfl), bif_t (by simp [tt_eq, h1, h2, hk])]
    rfl
  | false =>
   rw [hb _ (by unfold sg; rw [bif_t (decide_eq_true h3), h4])]
   rw [bif_f (by rfl), bif_t (by simp [tt_eq, h1, h2, hk])]
   rfl
 ·have hb : mp2 (frg id) l (k + 1) = mp2 (frg id) l k := by rw [mp2, bif_f (decide_eq_false h3)]
  rw [hb, bif_t (by rw [decide_eq_false h3]; rfl), bif_t (by simp [tt_eq, h1, h2])]
theorem V37c2e {s z : KD6} {l : List Sl} (id : Int) : V43c_2 ((), (), (), l, 64, id, s, z, ()) = some (.inr ((), (), s, z, ())) := by
 show R43c_2 _ _ _ _ _ _ _ _ () () () l 64 id s z = _
 unfold R43c_2
 simp only [fl0_eq, Dk.reO_eq]
 rfl
theorem W37c2 {s z : KD6} (id : Int) : W43c_2 ((), (), (), s.2.1, 0, id, s, z, ()) = ((), (), (s.1, (mp2 (frg id) s.2.1 64, s.2.2)), z, ()) ∧ Q43c_2 ((), (), (), s.2.1, 0, id, s, z, ()) = true := by
 have hs := wh_steps (f := V43c_2) (fun i => ((), (), (), s.2.1, ((i : Nat) : Int), id, (s.1, (mp2 (frg id) s.2.1 i, s.2.2)), z, ())) 64 (fun i h => V37c2 id h)
 have he : wh V43c_2 ((), (), (), s.2.1, (0 : Int), id, s, z, ()) = some ((), (), (s.1, (mp2 (frg id) s.2.1 64, s.2.2)), z, ()) := hs.trans (wh_stop (V37c2e id))
 exact ⟨whV_of he, whK_of he⟩
theorem E43c_eq {s : KD6} (id : Int) (hl : s.2.2.2.1.length ≤ 1048576) : E43c (s, (id, ()), ()) = some (mapS (frg id) s) := by
 show S43c F18g G18g F48 G48 W43c_0 Q43c_0 W43c_2 Q43c_2 s (id, ()) = _
 unfold S43c
 simp only [Dk.reI_eq, Dk.reO_eq, flI_eq, fl0_eq, flO_eq, (F18g_e hl).1, (F18g_e hl).2]
 rw [(W37c0 (s := s) (z := ([], ([], (0, ([], (0, ())))))) id).1, (W37c0 (s := s) (z := ([], ([], (0, ([], (0, ())))))) id).2]
 simp only []
 rw [(W37c2 (s := (mp (frg id) s.1 11, s.2)) (z := ([], ([], (0, ([], (0, ())))))) id).1, (W37c2 (s := (mp (frg id) s.1 11, s.2)) (z := ([], ([], (0, ([], (0, ())))))) id).2]
 rfl
theorem F43c_e {s : KD6} (id : Int) (hl : s.2.2.2.1.length ≤ 1048576) : F43c (s, (id, ()), ()) = mapS (frg id) s ∧ G43c (s, (id, ()), ()) = true := ofE (E43c_eq id hl)
def noRange (s : KD6) : KD6 := (s.1, (s.2.1, (0, s.2.2.2)))
theorem E22_eq {s : KD6} (hl : s.2.2.2.1.length ≤ 1048576) : E22 (s, ()) = some (noRange (mapS los s)) := by
 show S22 F43b G43b s = _
 unfold S22
 simp only [Dk.reI_eq, Dk.reO_eq, flI_eq, fl0_eq, flO_eq, (F43b_e hl).1, (F43b_e hl).2]
 rfl
theorem F22_e {s : KD6} (hl : s.2.2.2.1.length ≤ 1048576) : F22 (s, ()) = noRange (mapS los s) ∧ G22 (s, ()) = true := ofE (E22_eq hl)
theorem E26_eq {s : KD6} {id : Int} (hl : s.2.2.2.1.length ≤ 1048576) : E26 (s, id, ()) = some (withR (mapS (frg id) s) (wo id s.2.2.2.1)) := by
 have hl2 : (mapS (frg id) s).2.2.2.1.length ≤ 1048576 := hl
 show S26 F43c G43c F47 G47 s id = _
 unfold S26
 simp only [Dk.reI_eq, Dk.reO_eq, flI_eq, fl0_eq, flO_eq, (F43c_e id hl).1, (F43c_e id hl).2, (F47_e hl2).1, (F47_e hl2).2]
 rfl
theorem F26_e {s : KD6} {id : Int} (hl : s.2.2.2.1.length ≤ 1048576) : F26 (s, id, ()) = withR (mapS (frg id) s) (wo id s.2.2.2.1) ∧ G26 (s, id, ()) = true := ofE (E26_eq hl)
end Go.Proofs.Po
