import Derived.Test.YtjnbpklllapjiaaNT
namespace Go.Proofs
open Go.GX
set_option linter.unusedVariables false
set_option linter.unusedSimpArgs false
/-! ## Registers and slots that are changed one by one -/
def mp (f : Rg → Rg) (l : List Rg) : Nat → List Rg
  | 0 => l
  | k + 1 => lset dR (mp f l k) k (f (l.getD k dR))
theorem mp_getD (f : Rg → Rg) (l : List Rg) : ∀ (k j : Nat), (mp f l k).getD j dR = if j < k then f (l.getD j dR) else l.getD j dR
  | 0, j => by simp [mp]
  | k + 1, j => by
    rw [mp, lset_getD, mp_getD f l k]
    by_cases e : j = k
    · subst e; simp
    · rw [if_neg e]
      by_cases h : j < k
      · rw [if_pos h, if_pos (by omega)]
      · rw [if_neg h, if_neg (by omega)]
def sg (f : Rg → Rg) (x : Sl) : Sl := bif decide (x.1 = 2) then (bif eqb KTc6 (f x.2.2.1) dR then (bif !(eqb KTc6 x.2.2.1 (f x.2.2.1)) then dS else (x.1, (x.2.1, (f x.2.2.1, x.2.2.2)))) else (x.1, (x.2.1, (f x.2.2.1, x.2.2.2)))) else x
def mp2 (f : Rg → Rg) (l : List Sl) : Nat → List Sl
  | 0 => l
  | k + 1 => bif decide ((l.getD k dS).1 = 2) then lset dS (mp2 f l k) k (sg f (l.getD k dS)) else mp2 f l k
theorem mp2_getD (f : Rg → Rg) (l : List Sl) : ∀ (k j : Nat), (mp2 f l k).getD j dS = if j < k then sg f (l.getD j dS) else l.getD j dS
  | 0, j => by simp [mp2]
  | k + 1, j => by
    rw [mp2]
    by_cases h2 : (l.getD k dS).1 = 2
    · rw [bif_t (decide_eq_true h2), lset_getD, mp2_getD f l k]
      by_cases e : j = k
      · subst e; simp
      · rw [if_neg e]
        by_cases h : j < k
        · rw [if_pos h, if_pos (by omega)]
        · rw [if_neg h, if_neg (by omega)]
    · rw [bif_f (decide_eq_false h2), mp2_getD f l k]
      by_cases e : j = k
      · subst e
        rw [if_neg (by omega), if_pos (by omega)]
        unfold sg
        rw [bif_f (decide_eq_false h2)]
      · by_cases h : j < k
        · rw [if_pos h, if_pos (by omega)]
        · rw [if_neg h, if_neg (by omega)]
def mapS (f : Rg → Rg) (s : KD6) : KD6 := (mp f s.1 11, (mp2 f s.2.1 64, s.2.2))
def nul (id : Int) (nl : Bool) (r : Rg) : Rg := bif decide (r.2.2.2.1 = id) && (decide (r.1 = 8) || decide (r.1 = 10)) then (bif nl then (1, (cns 0, (0, (0, (0, ()))))) else (bif decide (r.1 = 8) then (7, r.2) else (9, r.2))) else r
def los (r : Rg) : Rg := bif decide (r.1 = 4) || decide (r.1 = 5) then dR else r
def frg (id : Int) (r : Rg) : Rg := bif decide (r.1 = 9) && decide (r.2.2.2.1 = id) then dR else r
theorem E38_eq (r : Rg) (id : Int) (nl : Bool) : E38 (r, id, nl, ()) = some (nul id nl r) := by
  show S38 F35 G35 r id nl = _
  unfold S38 nul
  have h35 := F35_eq (n := 0) inR0
  rw [h35.1, h35.2]
  by_cases h1 : r.2.2.2.1 = id <;> by_cases h2 : r.1 = 8 <;> by_cases h3 : r.1 = 10 <;> cases nl <;> simp [h1, h2, h3, tt_eq] <;> omega
theorem F38_e (id : Int) (nl : Bool) (r : Rg) : F38 (r, id, nl, ()) = nul id nl r ∧ G38 (r, id, nl, ()) = true := ofE (E38_eq r id nl)
theorem E42_eq (r : Rg) : E42 (r, ()) = some (los r) := by
  show S42 r = _
  unfold S42 los
  by_cases h1 : r.1 = 4 <;> by_cases h2 : r.1 = 5 <;> simp [h1, h2]
theorem F42_e (r : Rg) : F42 (r, ()) = los r ∧ G42 (r, ()) = true := ofE (E42_eq r)
theorem E44_eq (r : Rg) (id : Int) : E44 (r, id, ()) = some (frg id r) := by
  show S44 r id = _
  unfold S44 frg
  by_cases h1 : r.1 = 9 <;> by_cases h2 : r.2.2.2.1 = id <;> simp [h1, h2]
theorem F44_e (id : Int) (r : Rg) : F44 (r, id, ()) = frg id r ∧ G44 (r, id, ()) = true := ofE (E44_eq r id)
/-! ### each, closure 38 -/
theorem V37a0 {s z : KD6} {l : List Rg} (id : Int) (nl : Bool) {k : Nat} (hk : k < 11) :
    V37a_0 ((), (), (), l, (k : Int), id, nl, (mp (nul id nl) l k, s.2), z, ()) = some (.inl ((), (), (), l, ((k + 1 : Nat) : Int), id, nl, (mp (nul id nl) l (k + 1), s.2), z, ())) := by
  show R37a_0 _ _ _ _ _ _ _ _ () () () l (k : Int) id nl ((mp (nul id nl) l k, s.2)) z = _
  unfold R37a_0
  have h1 : (k : Int) < 11 := by omega
  have h2 : (0 : Int) ≤ (k : Int) := by omega
  have hw : IntKind.wrap .i64 ((k : Int) + 1) = ((k + 1 : Nat) : Int) := by rw [wi64 (by omega)]; omega
  have hn : Int.toNat (k : Int) = k := by omega
  simp only [hn, hw, fl0_eq, Dk.reO_eq, (F38_e id nl _).1, (F38_e id nl _).2]
  rw [bif_t (decide_eq_true h1), bif_t (by simp [tt_eq, h1, h2, hk])]
  rfl
theorem V37a0e {s z : KD6} {l : List Rg} (id : Int) (nl : Bool) : V37a_0 ((), (), (), l, 11, id, nl, s, z, ()) = some (.inr ((), (), (), id, nl, s, z, ())) := by
  show R37a_0 _ _ _ _ _ _ _ _ () () () l 11 id nl s z = _
  unfold R37a_0
  simp only [fl0_eq, Dk.reO_eq]
  rfl
theorem W37a0 {s z : KD6} (id : Int) (nl : Bool) : W37a_0 ((), (), (), s.1, 0, id, nl, s, z, ()) = ((), (), (), id, nl, (mp (nul id nl) s.1 11, s.2), z, ()) ∧ Q37a_0 ((), (), (), s.1, 0, id, nl, s, z, ()) = true := by
  have hs := wh_steps (f := V37a_0) (fun i => ((), (), (), s.1, ((i : Nat) : Int), id, nl, (mp (nul id nl) s.1 i, s.2), z, ())) 11 (fun i h => V37a0 id nl h)
  have he : wh V37a_0 ((), (), (), s.1, (0 : Int), id, nl, s, z, ()) = some ((), (), (), id, nl, (mp (nul id nl) s.1 11, s.2), z, ()) := hs.trans (wh_stop (V37a0e id nl))
  exact ⟨whV_of he, whK_of he⟩
theorem V37a2 {s z : KD6} {l : List Sl} (id : Int) (nl : Bool) {k : Nat} (hk : k < 64) :
    V37a_2 ((), (), (), l, (k : Int), id, nl, (s.1, (mp2 (nul id nl) l k, s.2.2)), z, ()) = some (.inl ((), (), (), l, ((k + 1 : Nat) : Int), id, nl, (s.1, (mp2 (nul id nl) l (k + 1), s.2.2)), z, ())) := by
  show R37a_2 _ _ _ _ _ _ _ _ () () () l (k : Int) id nl ((s.1, (mp2 (nul id nl) l k, s.2.2))) z = _
  unfold R37a_2
  have h1 : (k : Int) < 64 := by omega
  have h2 : (0 : Int) ≤ (k : Int) := by omega
  have hw : IntKind.wrap .i64 ((k : Int) + 1) = ((k + 1 : Nat) : Int) := by rw [wi64 (by omega)]; omega
  have hn : Int.toNat (k : Int) = k := by omega
  have hg : (mp2 (nul id nl) l k).getD k dS = l.getD k dS := by rw [mp2_getD, if_neg (by omega)]
  simp only [hn, hw, fl0_eq, Dk.reO_eq, (F38_e id nl _).1, (F38_e id nl _).2, hg]
  rw [bif_t (decide_eq_true h1)]
  by_cases h3 : (l.getD k dS).1 = 2
  · have hb : ∀ x : Sl, sg (nul id nl) (l.getD k dS) = x → mp2 (nul id nl) l (k + 1) = lset dS (mp2 (nul id nl) l k) k x := fun x hx => by rw [mp2, bif_t (decide_eq_true h3), hx]
    rw [bif_f (by rw [decide_eq_true h3]; rfl)]
    cases h4 : eqb KTc6 ((nul id nl) (l.getD k dS).2.2.1) dR with
    | true =>
      simp only [cond_true]
      cases h5 : eqb KTc6 (l.getD k dS).2.2.1 ((nul id nl) (l.getD k dS).2.2.1) with
      | true =>
        rw [hb _ (by unfold sg; rw [bif_t (decide_eq_true h3), h4, h5])]
        rw [bif_f (by rfl), bif_t (by simp [tt_eq, h1, h2, hk])]
        rfl
      | false =>
        rw [hb _ (by unfold sg; rw [bif_t (decide_eq_true h3), h4, h5])]
        rw [bif_t (by rfl), bif_t (by simp [tt_eq, h1, h2, hk])]
        rfl
    | false =>
      rw [hb _ (by unfold sg; rw [bif_t (decide_eq_true h3), h4])]
      rw [bif_f (by rfl), bif_t (by simp [tt_eq, h1, h2, hk])]
      rfl
  · have hb : mp2 (nul id nl) l (k + 1) = mp2 (nul id nl) l k := by rw [mp2, bif_f (decide_eq_false h3)]
    rw [hb, bif_t (by rw [decide_eq_false h3]; rfl), bif_t (by simp [tt_eq, h1, h2])]
theorem V37a2e {s z : KD6} {l : List Sl} (id : Int) (nl : Bool) : V37a_2 ((), (), (), l, 64, id, nl, s, z, ()) = some (.inr ((), (), s, z, ())) := by
  show R37a_2 _ _ _ _ _ _ _ _ () () () l 64 id nl s z = _
  unfold R37a_2
  simp only [fl0_eq, Dk.reO_eq]
  rfl
theorem W37a2 {s z : KD6} (id : Int) (nl : Bool) : W37a_2 ((), (), (), s.2.1, 0, id, nl, s, z, ()) = ((), (), (s.1, (mp2 (nul id nl) s.2.1 64, s.2.2)), z, ()) ∧ Q37a_2 ((), (), (), s.2.1, 0, id, nl, s, z, ()) = true := by
  have hs := wh_steps (f := V37a_2) (fun i => ((), (), (), s.2.1, ((i : Nat) : Int), id, nl, (s.1, (mp2 (nul id nl) s.2.1 i, s.2.2)), z, ())) 64 (fun i h => V37a2 id nl h)
  have he : wh V37a_2 ((), (), (), s.2.1, (0 : Int), id, nl, s, z, ()) = some ((), (), (s.1, (mp2 (nul id nl) s.2.1 64, s.2.2)), z, ()) := hs.trans (wh_stop (V37a2e id nl))
  exact ⟨whV_of he, whK_of he⟩
theorem E37a_eq {s : KD6} (id : Int) (nl : Bool) (hl : s.2.2.2.1.length ≤ 1048576) : E37a (s, (id, nl, ()), ()) = some (mapS (nul id nl) s) := by
  show S37a F15g G15g F38 G38 W37a_0 Q37a_0 W37a_2 Q37a_2 s (id, nl, ()) = _
  unfold S37a
  simp only [Dk.reI_eq, Dk.reO_eq, flI_eq, fl0_eq, flO_eq, (F15g_e hl).1, (F15g_e hl).2]
  rw [(W37a0 (s := s) (z := ([], ([], (0, ([], (0, ())))))) id nl).1, (W37a0 (s := s) (z := ([], ([], (0, ([], (0, ())))))) id nl).2]
  simp only []
  rw [(W37a2 (s := (mp (nul id nl) s.1 11, s.2)) (z := ([], ([], (0, ([], (0, ())))))) id nl).1, (W37a2 (s := (mp (nul id nl) s.1 11, s.2)) (z := ([], ([], (0, ([], (0, ())))))) id nl).2]
  rfl
theorem F37a_e {s : KD6} (id : Int) (nl : Bool) (hl : s.2.2.2.1.length ≤ 1048576) : F37a (s, (id, nl, ()), ()) = mapS (nul id nl) s ∧ G37a (s, (id, nl, ()), ()) = true := ofE (E37a_eq id nl hl)
/-! ### each, closure 42 -/
theorem V37b0 {s z : KD6} {l : List Rg}  {k : Nat} (hk : k < 11) :
    V37b_0 ((), (), (), l, (k : Int), (mp los l k, s.2), z, ()) = some (.inl ((), (), (), l, ((k + 1 : Nat) : Int), (mp los l (k + 1), s.2), z, ())) := by
  show R37b_0 _ _ _ _ _ _ _ _ () () () l (k : Int) ((mp los l k, s.2)) z = _
  unfold R37b_0
  have h1 : (k : Int) < 11 := by omega
  have h2 : (0 : Int) ≤ (k : Int) := by omega
  have hw : IntKind.wrap .i64 ((k : Int) + 1) = ((k + 1 : Nat) : Int) := by rw [wi64 (by omega)]; omega
  have hn : Int.toNat (k : Int) = k := by omega
  simp only [hn, hw, fl0_eq, Dk.reO_eq, (F42_e  _).1, (F42_e  _).2]
  rw [bif_t (decide_eq_true h1), bif_t (by simp [tt_eq, h1, h2, hk])]
  rfl
theorem V37b0e {s z : KD6} {l : List Rg}  : V37b_0 ((), (), (), l, 11, s, z, ()) = some (.inr ((), (), (), s, z, ())) := by
  show R37b_0 _ _ _ _ _ _ _ _ () () () l 11 s z = _
  unfold R37b_0
  simp only [fl0_eq, Dk.reO_eq]
  rfl
theorem W37b0 {s z : KD6}  : W37b_0 ((), (), (), s.1, 0, s, z, ()) = ((), (), (), (mp los s.1 11, s.2), z, ()) ∧ Q37b_0 ((), (), (), s.1, 0, s, z, ()) = true := by
  have hs := wh_steps (f := V37b_0) (fun i => ((), (), (), s.1, ((i : Nat) : Int), (mp los s.1 i, s.2), z, ())) 11 (fun i h => V37b0  h)
  have he : wh V37b_0 ((), (), (), s.1, (0 : Int), s, z, ()) = some ((), (), (), (mp los s.1 11, s.2), z, ()) := hs.trans (wh_stop (V37b0e ))
  exact ⟨whV_of he, whK_of he⟩
theorem V37b2 {s z : KD6} {l : List Sl}  {k : Nat} (hk : k < 64) :
    V37b_2 ((), (), (), l, (k : Int), (s.1, (mp2 los l k, s.2.2)), z, ()) = some (.inl ((), (), (), l, ((k + 1 : Nat) : Int), (s.1, (mp2 los l (k + 1), s.2.2)), z, ())) := by
  show R37b_2 _ _ _ _ _ _ _ _ () () () l (k : Int) ((s.1, (mp2 los l k, s.2.2))) z = _
  unfold R37b_2
  have h1 : (k : Int) < 64 := by omega
  have h2 : (0 : Int) ≤ (k : Int) := by omega
  have hw : IntKind.wrap .i64 ((k : Int) + 1) = ((k + 1 : Nat) : Int) := by rw [wi64 (by omega)]; omega
  have hn : Int.toNat (k : Int) = k := by omega
  have hg : (mp2 los l k).getD k dS = l.getD k dS := by rw [mp2_getD, if_neg (by omega)]
  simp only [hn, hw, fl0_eq, Dk.reO_eq, (F42_e  _).1, (F42_e  _).2, hg]
  rw [bif_t (decide_eq_true h1)]
  by_cases h3 : (l.getD k dS).1 = 2
  · have hb : ∀ x : Sl, sg los (l.getD k dS) = x → mp2 los l (k + 1) = lset dS (mp2 los l k) k x := fun x hx => by rw [mp2, bif_t (decide_eq_true h3), hx]
    rw [bif_f (by rw [decide_eq_true h3]; rfl)]
    cases h4 : eqb KTc6 (los (l.getD k dS).2.2.1) dR with
    | true =>
      simp only [cond_true]
      cases h5 : eqb KTc6 (l.getD k dS).2.2.1 (los (l.getD k dS).2.2.1) with
      | true =>
        rw [hb _ (by unfold sg; rw [bif_t (decide_eq_true h3), h4, h5])]
        rw [bif_f (by rfl), bif_t (by simp [tt_eq, h1, h2, hk])]
        rfl
      | false =>
        rw [hb _ (by unfold sg; rw [bif_t (decide_eq_true h3), h4, h5])]
        rw [bif_t (by rfl), bif_t (by simp [tt_eq, h1, h2, hk])]
        rfl
    | false =>
      rw [hb _ (by unfold sg; rw [bif_t (decide_eq_true h3), h4])]
      rw [bif_f (by rfl), bif_t (by simp [tt_eq, h1, h2, hk])]
      rfl
  · have hb : mp2 los l (k + 1) = mp2 los l k := by rw [mp2, bif_f (decide_eq_false h3)]
    rw [hb, bif_t (by rw [decide_eq_false h3]; rfl), bif_t (by simp [tt_eq, h1, h2])]
theorem V37b2e {s z : KD6} {l : List Sl}  : V37b_2 ((), (), (), l, 64, s, z, ()) = some (.inr ((), (), s, z, ())) := by
  show R37b_2 _ _ _ _ _ _ _ _ () () () l 64 s z = _
  unfold R37b_2
  simp only [fl0_eq, Dk.reO_eq]
  rfl
theorem W37b2 {s z : KD6}  : W37b_2 ((), (), (), s.2.1, 0, s, z, ()) = ((), (), (s.1, (mp2 los s.2.1 64, s.2.2)), z, ()) ∧ Q37b_2 ((), (), (), s.2.1, 0, s, z, ()) = true := by
  have hs := wh_steps (f := V37b_2) (fun i => ((), (), (), s.2.1, ((i : Nat) : Int), (s.1, (mp2 los s.2.1 i, s.2.2)), z, ())) 64 (fun i h => V37b2  h)
  have he : wh V37b_2 ((), (), (), s.2.1, (0 : Int), s, z, ()) = some ((), (), (s.1, (mp2 los s.2.1 64, s.2.2)), z, ()) := hs.trans (wh_stop (V37b2e ))
  exact ⟨whV_of he, whK_of he⟩
theorem E37b_eq {s : KD6}  (hl : s.2.2.2.1.length ≤ 1048576) : E37b (s, (), ()) = some (mapS los s) := by
  show S37b F15g G15g F42 G42 W37b_0 Q37b_0 W37b_2 Q37b_2 s () = _
  unfold S37b
  simp only [Dk.reI_eq, Dk.reO_eq, flI_eq, fl0_eq, flO_eq, (F15g_e hl).1, (F15g_e hl).2]
  rw [(W37b0 (s := s) (z := ([], ([], (0, ([], (0, ())))))) ).1, (W37b0 (s := s) (z := ([], ([], (0, ([], (0, ())))))) ).2]
  simp only []
  rw [(W37b2 (s := (mp los s.1 11, s.2)) (z := ([], ([], (0, ([], (0, ())))))) ).1, (W37b2 (s := (mp los s.1 11, s.2)) (z := ([], ([], (0, ([], (0, ())))))) ).2]
  rfl
theorem F37b_e {s : KD6}  (hl : s.2.2.2.1.length ≤ 1048576) : F37b (s, (), ()) = mapS los s ∧ G37b (s, (), ()) = true := ofE (E37b_eq hl)
/-! ### each, closure 44 -/
theorem V37c0 {s z : KD6} {l : List Rg} (id : Int) {k : Nat} (hk : k < 11) :
    V37c_0 ((), (), (), l, (k : Int), id, (mp (frg id) l k, s.2), z, ()) = some (.inl ((), (), (), l, ((k + 1 : Nat) : Int), id, (mp (frg id) l (k + 1), s.2), z, ())) := by
  show R37c_0 _ _ _ _ _ _ _ _ () () () l (k : Int) id ((mp (frg id) l k, s.2)) z = _
  unfold R37c_0
  have h1 : (k : Int) < 11 := by omega
  have h2 : (0 : Int) ≤ (k : Int) := by omega
  have hw : IntKind.wrap .i64 ((k : Int) + 1) = ((k + 1 : Nat) : Int) := by rw [wi64 (by omega)]; omega
  have hn : Int.toNat (k : Int) = k := by omega
  simp only [hn, hw, fl0_eq, Dk.reO_eq, (F44_e id _).1, (F44_e id _).2]
  rw [bif_t (decide_eq_true h1), bif_t (by simp [tt_eq, h1, h2, hk])]
  rfl
theorem V37c0e {s z : KD6} {l : List Rg} (id : Int) : V37c_0 ((), (), (), l, 11, id, s, z, ()) = some (.inr ((), (), (), id, s, z, ())) := by
  show R37c_0 _ _ _ _ _ _ _ _ () () () l 11 id s z = _
  unfold R37c_0
  simp only [fl0_eq, Dk.reO_eq]
  rfl
theorem W37c0 {s z : KD6} (id : Int) : W37c_0 ((), (), (), s.1, 0, id, s, z, ()) = ((), (), (), id, (mp (frg id) s.1 11, s.2), z, ()) ∧ Q37c_0 ((), (), (), s.1, 0, id, s, z, ()) = true := by
  have hs := wh_steps (f := V37c_0) (fun i => ((), (), (), s.1, ((i : Nat) : Int), id, (mp (frg id) s.1 i, s.2), z, ())) 11 (fun i h => V37c0 id h)
  have he : wh V37c_0 ((), (), (), s.1, (0 : Int), id, s, z, ()) = some ((), (), (), id, (mp (frg id) s.1 11, s.2), z, ()) := hs.trans (wh_stop (V37c0e id))
  exact ⟨whV_of he, whK_of he⟩
theorem V37c2 {s z : KD6} {l : List Sl} (id : Int) {k : Nat} (hk : k < 64) :
    V37c_2 ((), (), (), l, (k : Int), id, (s.1, (mp2 (frg id) l k, s.2.2)), z, ()) = some (.inl ((), (), (), l, ((k + 1 : Nat) : Int), id, (s.1, (mp2 (frg id) l (k + 1), s.2.2)), z, ())) := by
  show R37c_2 _ _ _ _ _ _ _ _ () () () l (k : Int) id ((s.1, (mp2 (frg id) l k, s.2.2))) z = _
  unfold R37c_2
  have h1 : (k : Int) < 64 := by omega
  have h2 : (0 : Int) ≤ (k : Int) := by omega
  have hw : IntKind.wrap .i64 ((k : Int) + 1) = ((k + 1 : Nat) : Int) := by rw [wi64 (by omega)]; omega
  have hn : Int.toNat (k : Int) = k := by omega
  have hg : (mp2 (frg id) l k).getD k dS = l.getD k dS := by rw [mp2_getD, if_neg (by omega)]
  simp only [hn, hw, fl0_eq, Dk.reO_eq, (F44_e id _).1, (F44_e id _).2, hg]
  rw [bif_t (decide_eq_true h1)]
  by_cases h3 : (l.getD k dS).1 = 2
  · have hb : ∀ x : Sl, sg (frg id) (l.getD k dS) = x → mp2 (frg id) l (k + 1) = lset dS (mp2 (frg id) l k) k x := fun x hx => by rw [mp2, bif_t (decide_eq_true h3), hx]
    rw [bif_f (by rw [decide_eq_true h3]; rfl)]
    cases h4 : eqb KTc6 ((frg id) (l.getD k dS).2.2.1) dR with
    | true =>
      simp only [cond_true]
      cases h5 : eqb KTc6 (l.getD k dS).2.2.1 ((frg id) (l.getD k dS).2.2.1) with
      | true =>
        rw [hb _ (by unfold sg; rw [bif_t (decide_eq_true h3), h4, h5])]
        rw [bif_f (by rfl), bif_t (by simp [tt_eq, h1, h2, hk])]
        rfl
      | false =>
        rw [hb _ (by unfold sg; rw [bif_t (decide_eq_true h3), h4, h5])]
        rw [bif_t (by rfl), bif_t (by simp [tt_eq, h1, h2, hk])]
        rfl
    | false =>
      rw [hb _ (by unfold sg; rw [bif_t (decide_eq_true h3), h4])]
      rw [bif_f (by rfl), bif_t (by simp [tt_eq, h1, h2, hk])]
      rfl
  · have hb : mp2 (frg id) l (k + 1) = mp2 (frg id) l k := by rw [mp2, bif_f (decide_eq_false h3)]
    rw [hb, bif_t (by rw [decide_eq_false h3]; rfl), bif_t (by simp [tt_eq, h1, h2])]
theorem V37c2e {s z : KD6} {l : List Sl} (id : Int) : V37c_2 ((), (), (), l, 64, id, s, z, ()) = some (.inr ((), (), s, z, ())) := by
  show R37c_2 _ _ _ _ _ _ _ _ () () () l 64 id s z = _
  unfold R37c_2
  simp only [fl0_eq, Dk.reO_eq]
  rfl
theorem W37c2 {s z : KD6} (id : Int) : W37c_2 ((), (), (), s.2.1, 0, id, s, z, ()) = ((), (), (s.1, (mp2 (frg id) s.2.1 64, s.2.2)), z, ()) ∧ Q37c_2 ((), (), (), s.2.1, 0, id, s, z, ()) = true := by
  have hs := wh_steps (f := V37c_2) (fun i => ((), (), (), s.2.1, ((i : Nat) : Int), id, (s.1, (mp2 (frg id) s.2.1 i, s.2.2)), z, ())) 64 (fun i h => V37c2 id h)
  have he : wh V37c_2 ((), (), (), s.2.1, (0 : Int), id, s, z, ()) = some ((), (), (s.1, (mp2 (frg id) s.2.1 64, s.2.2)), z, ()) := hs.trans (wh_stop (V37c2e id))
  exact ⟨whV_of he, whK_of he⟩
theorem E37c_eq {s : KD6} (id : Int) (hl : s.2.2.2.1.length ≤ 1048576) : E37c (s, (id, ()), ()) = some (mapS (frg id) s) := by
  show S37c F15g G15g F44 G44 W37c_0 Q37c_0 W37c_2 Q37c_2 s (id, ()) = _
  unfold S37c
  simp only [Dk.reI_eq, Dk.reO_eq, flI_eq, fl0_eq, flO_eq, (F15g_e hl).1, (F15g_e hl).2]
  rw [(W37c0 (s := s) (z := ([], ([], (0, ([], (0, ())))))) id).1, (W37c0 (s := s) (z := ([], ([], (0, ([], (0, ())))))) id).2]
  simp only []
  rw [(W37c2 (s := (mp (frg id) s.1 11, s.2)) (z := ([], ([], (0, ([], (0, ())))))) id).1, (W37c2 (s := (mp (frg id) s.1 11, s.2)) (z := ([], ([], (0, ([], (0, ())))))) id).2]
  rfl
theorem F37c_e {s : KD6} (id : Int) (hl : s.2.2.2.1.length ≤ 1048576) : F37c (s, (id, ()), ()) = mapS (frg id) s ∧ G37c (s, (id, ()), ()) = true := ofE (E37c_eq id hl)
end Go.Proofs
