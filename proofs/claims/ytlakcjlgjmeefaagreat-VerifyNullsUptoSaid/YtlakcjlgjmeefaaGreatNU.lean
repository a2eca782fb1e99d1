import Derived.Test.YtlakcjlgjmeefaaGreatNT
namespace Go.Proofs.Nu
open Go.GX
set_option linter.unusedVariables false
set_option linter.unusedSimpArgs false
theorem E35g_eq {a : KD6} (hl : a.2.2.2.1.length ≤ 1048576) : E35g (a, ()) = some a := by
  show S35g F69g G69g a = some a
  unfold S35g
  have h1 : ∀ l : List Int, F69g (l, ()) = l := fun _ => rfl
  have h2 : G69g (a.2.2.2.1, ()) = true := decide_eq_true (show a.2.2.2.1.length * 8 ≤ 140737488355328 by omega)
  simp only [seI_eq, flI_eq, fl0_eq, seO_eq, h1, h2]
  rfl
theorem F35g_e {a : KD6} (hl : a.2.2.2.1.length ≤ 1048576) : F35g (a, ()) = a ∧ G35g (a, ()) = true := ofE (E35g_eq hl)
def cns (v : Int) : Sc := ((v, 0, ()), v, v, ())
def mp (f : Rg → Rg) (l : List Rg) : Nat → List Rg
  | 0 => l
  | k + 1 => lset dR (mp f l k) k (f (l.getD k dR))
theorem mp_getD (f : Rg → Rg) (l : List Rg) : ∀ (k j : Nat), (mp f l k).getD j dR = if j < k then f (l.getD j dR) else l.getD j dR
  | 0, j => by simp [mp]
  | k + 1, j => by
    rw [mp, lset_getD, mp_getD f l k]
    by_cases e : j = k
    · subst e; simp
    · rw [if_neg e]
      by_cases h : j < k
      · rw [if_pos h, if_pos (by omega)]
      · rw [if_neg h, if_neg (by omega)]
def sg (f : Rg → Rg) (x : Sl) : Sl := bif decide (x.1 = 2) then (bif eqb KTx16 (f x.2.2.1) dR then (bif !(eqb KTx16 x.2.2.1 (f x.2.2.1)) then dS else (x.1, (x.2.1, (f x.2.2.1, x.2.2.2)))) else (x.1, (x.2.1, (f x.2.2.1, x.2.2.2)))) else x
def mp2 (f : Rg → Rg) (l : List Sl) : Nat → List Sl
  | 0 => l
  | k + 1 => bif decide ((l.getD k dS).1 = 2) then lset dS (mp2 f l k) k (sg f (l.getD k dS)) else mp2 f l k
theorem mp2_getD (f : Rg → Rg) (l : List Sl) : ∀ (k j : Nat), (mp2 f l k).getD j dS = if j < k then sg f (l.getD j dS) else l.getD j dS
  | 0, j => by simp [mp2]
  | k + 1, j => by
    rw [mp2]
    by_cases h2 : (l.getD k dS).1 = 2
    · rw [bif_t (decide_eq_true h2), lset_getD, mp2_getD f l k]
      by_cases e : j = k
      · subst e; simp
      · rw [if_neg e]
        by_cases h : j < k
        · rw [if_pos h, if_pos (by omega)]
        · rw [if_neg h, if_neg (by omega)]
    · rw [bif_f (decide_eq_false h2), mp2_getD f l k]
      by_cases e : j = k
      · subst e
        rw [if_neg (by omega), if_pos (by omega)]
        unfold sg
        rw [bif_f (decide_eq_false h2)]
      · by_cases h : j < k
        · rw [if_pos h, if_pos (by omega)]
        · rw [if_neg h, if_neg (by omega)]
def mapS (f : Rg → Rg) (s : KD6) : KD6 := (mp f s.1 11, (mp2 f s.2.1 64, s.2.2))
def nul (id : Int) (nl : Bool) (r : Rg) : Rg := bif decide (r.2.2.2.1 = id) && (decide (r.1 = 8) || decide (r.1 = 10)) then (bif nl then (1, (cns 0, (0, (0, (0, ()))))) else (bif decide (r.1 = 8) then (7, r.2) else (9, r.2))) else r
theorem E146_eq (r : Rg) (id : Int) (nl : Bool) : E146 (r, id, nl, ()) = some (nul id nl r) := by
  show S146 F47 G47 r id nl = _
  unfold S146 nul
  have h35 : F47 (0, ()) = cns 0 ∧ G47 (0, ()) = true := ⟨rfl, rfl⟩
  rw [h35.1, h35.2]
  by_cases h1 : r.2.2.2.1 = id <;> by_cases h2 : r.1 = 8 <;> by_cases h3 : r.1 = 10 <;> cases nl <;> simp [h1, h2, h3, tt_eq] <;> omega
theorem F146_e (id : Int) (nl : Bool) (r : Rg) : F146 (r, id, nl, ()) = nul id nl r ∧ G146 (r, id, nl, ()) = true := ofE (E146_eq r id nl)
theorem V139a0 {s z : KD6} {l : List Rg} (id : Int) (nl : Bool) {k : Nat} (hk : k < 11) :
    V139a_0 ((), (), (), l, (k : Int), id, nl, (mp (nul id nl) l k, s.2), z, ()) = some (.inl ((), (), (), l, ((k + 1 : Nat) : Int), id, nl, (mp (nul id nl) l (k + 1), s.2), z, ())) := by
  show R139a_0 _ _ _ _ _ _ _ _ () () () l (k : Int) id nl ((mp (nul id nl) l k, s.2)) z = _
  unfold R139a_0
  have h1 : (k : Int) < 11 := by omega
  have h2 : (0 : Int) ≤ (k : Int) := by omega
  have hw : IntKind.wrap .i64 ((k : Int) + 1) = ((k + 1 : Nat) : Int) := by rw [wi64 (by omega)]; omega
  have hn : Int.toNat (k : Int) = k := by omega
  simp only [hn, hw, fl0_eq, Dk.reO_eq, (F146_e id nl _).1, (F146_e id nl _).2]
  rw [bif_t (decide_eq_true h1), bif_t (by simp [tt_eq, h1, h2, hk])]
  rfl
theorem V139a0e {s z : KD6} {l : List Rg} (id : Int) (nl : Bool) : V139a_0 ((), (), (), l, 11, id, nl, s, z, ()) = some (.inr ((), (), (), id, nl, s, z, ())) := by
  show R139a_0 _ _ _ _ _ _ _ _ () () () l 11 id nl s z = _
  unfold R139a_0
  simp only [fl0_eq, Dk.reO_eq]
  rfl
theorem W139a0 {s z : KD6} (id : Int) (nl : Bool) : W139a_0 ((), (), (), s.1, 0, id, nl, s, z, ()) = ((), (), (), id, nl, (mp (nul id nl) s.1 11, s.2), z, ()) ∧ Q139a_0 ((), (), (), s.1, 0, id, nl, s, z, ()) = true := by
  have hs := wh_steps (f := V139a_0) (fun i => ((), (), (), s.1, ((i : Nat) : Int), id, nl, (mp (nul id nl) s.1 i, s.2), z, ())) 11 (fun i h => V139a0 id nl h)
  have he : wh V139a_0 ((), (), (), s.1, (0 : Int), id, nl, s, z, ()) = some ((), (), (), id, nl, (mp (nul id nl) s.1 11, s.2), z, ()) := hs.trans (wh_stop (V139a0e id nl))
  exact ⟨whV_of he, whK_of he⟩
theorem V139a2 {s z : KD6} {l : List Sl} (id : Int) (nl : Bool) {k : Nat} (hk : k < 64) :
    V139a_2 ((), (), (), l, (k : Int), id, nl, (s.1, (mp2 (nul id nl) l k, s.2.2)), z, ()) = some (.inl ((), (), (), l, ((k + 1 : Nat) : Int), id, nl, (s.1, (mp2 (nul id nl) l (k + 1), s.2.2)), z, ())) := by
  show R139a_2 _ _ _ _ _ _ _ _ () () () l (k : Int) id nl ((s.1, (mp2 (nul id nl) l k, s.2.2))) z = _
  unfold R139a_2
  have h1 : (k : Int) < 64 := by omega
  have h2 : (0 : Int) ≤ (k : Int) := by omega
  have hw : IntKind.wrap .i64 ((k : Int) + 1) = ((k + 1 : Nat) : Int) := by rw [wi64 (by omega)]; omega
  have hn : Int.toNat (k : Int) = k := by omega
  have hg : (mp2 (nul id nl) l k).getD k dS = l.getD k dS := by rw [mp2_getD, if_neg (by omega)]
  simp only [hn, hw, fl0_eq, Dk.reO_eq, (F146_e id nl _).1, (F146_e id nl _).2, hg]
  rw [bif_t (decide_eq_true h1)]
  by_cases h3 : (l.getD k dS).1 = 2
  · have hb : ∀ x : Sl, sg (nul id nl) (l.getD k dS) = x → mp2 (nul id nl) l (k + 1) = lset dS (mp2 (nul id nl) l k) k x := fun x hx => by rw [mp2, bif_t (decide_eq_true h3), hx]
    rw [bif_f (by rw [decide_eq_true h3]; rfl)]
    cases h4 : eqb KTx16 ((nul id nl) (l.getD k dS).2.2.1) dR with
    | true =>
      simp only [cond_true]
      cases h5 : eqb KTx16 (l.getD k dS).2.2.1 ((nul id nl) (l.getD k dS).2.2.1) with
      | true =>
        rw [hb _ (by unfold sg; rw [bif_t (decide_eq_true h3), h4, h5])]
        rw [bif_f (by rfl), bif_t (by simp [tt_eq, h1, h2, hk])]
        rfl
      | false =>
        rw [hb _ (by unfold sg; rw [bif_t (decide_eq_true h3), h4, h5])]
        rw [bif_t (by rfl), bif_t (by simp [tt_eq, h1, h2, hk])]
        rfl
    | false =>
      rw [hb _ (by unfold sg; rw [bif_t (decide_eq_true h3), h4])]
      rw [bif_f (by rfl), bif_t (by simp [tt_eq, h1, h2, hk])]
      rfl
  · have hb : mp2 (nul id nl) l (k + 1) = mp2 (nul id nl) l k := by rw [mp2, bif_f (decide_eq_false h3)]
    rw [hb, bif_t (by rw [decide_eq_false h3]; rfl), bif_t (by simp [tt_eq, h1, h2])]
theorem V139a2e {s z : KD6} {l : List Sl} (id : Int) (nl : Bool) : V139a_2 ((), (), (), l, 64, id, nl, s, z, ()) = some (.inr ((), (), s, z, ())) := by
  show R139a_2 _ _ _ _ _ _ _ _ () () () l 64 id nl s z = _
  unfold R139a_2
  simp only [fl0_eq, Dk.reO_eq]
  rfl
theorem W139a2 {s z : KD6} (id : Int) (nl : Bool) : W139a_2 ((), (), (), s.2.1, 0, id, nl, s, z, ()) = ((), (), (s.1, (mp2 (nul id nl) s.2.1 64, s.2.2)), z, ()) ∧ Q139a_2 ((), (), (), s.2.1, 0, id, nl, s, z, ()) = true := by
  have hs := wh_steps (f := V139a_2) (fun i => ((), (), (), s.2.1, ((i : Nat) : Int), id, nl, (s.1, (mp2 (nul id nl) s.2.1 i, s.2.2)), z, ())) 64 (fun i h => V139a2 id nl h)
  have he : wh V139a_2 ((), (), (), s.2.1, (0 : Int), id, nl, s, z, ()) = some ((), (), (s.1, (mp2 (nul id nl) s.2.1 64, s.2.2)), z, ()) := hs.trans (wh_stop (V139a2e id nl))
  exact ⟨whV_of he, whK_of he⟩
theorem E139a_eq {s : KD6} (id : Int) (nl : Bool) (hl : s.2.2.2.1.length ≤ 1048576) : E139a (s, (id, nl, ()), ()) = some (mapS (nul id nl) s) := by
  show S139a F35g G35g F146 G146 W139a_0 Q139a_0 W139a_2 Q139a_2 s (id, nl, ()) = _
  unfold S139a
  simp only [Dk.reI_eq, Dk.reO_eq, flI_eq, fl0_eq, flO_eq, (F35g_e hl).1, (F35g_e hl).2]
  rw [(W139a0 (s := s) (z := ([], ([], (0, ([], (0, ())))))) id nl).1, (W139a0 (s := s) (z := ([], ([], (0, ([], (0, ())))))) id nl).2]
  simp only []
  rw [(W139a2 (s := (mp (nul id nl) s.1 11, s.2)) (z := ([], ([], (0, ([], (0, ())))))) id nl).1, (W139a2 (s := (mp (nul id nl) s.1 11, s.2)) (z := ([], ([], (0, ([], (0, ())))))) id nl).2]
  rfl
theorem F139a_e {s : KD6} (id : Int) (nl : Bool) (hl : s.2.2.2.1.length ≤ 1048576) : F139a (s, (id, nl, ()), ()) = mapS (nul id nl) s ∧ G139a (s, (id, nl, ()), ()) = true := ofE (E139a_eq id nl hl)
end Go.Proofs.Nu
