import Derived.Test.YtjnbpklllapjiaaNV
namespace Go.Proofs
open Go.GX
set_option linter.unusedVariables false
set_option linter.unusedSimpArgs false
/-! ## Lose and Forget -/
def mc (g : Rg → Bool) (l : List Rg) : Nat → List Rg
  | 0 => l
  | k + 1 => bif g (l.getD k dR) then lset dR (mc g l k) k dR else mc g l k
theorem mc_getD (g : Rg → Bool) (l : List Rg) : ∀ (k j : Nat), (mc g l k).getD j dR = if j < k then (bif g (l.getD j dR) then dR else l.getD j dR) else l.getD j dR
  | 0, j => by simp [mc]
  | k + 1, j => by
    rw [mc]
    cases hg : g (l.getD k dR) with
    | true =>
      rw [cond_true, lset_getD, mc_getD g l k]
      by_cases e : j = k
      · subst e
        rw [if_pos rfl, if_pos (by omega), hg]
        rfl
      · rw [if_neg e]
        by_cases h : j < k
        · rw [if_pos h, if_pos (by omega)]
        · rw [if_neg h, if_neg (by omega)]
    | false =>
      rw [cond_false, mc_getD g l k]
      by_cases e : j = k
      · subst e
        rw [if_neg (by omega), if_pos (by omega), hg]
        rfl
      · by_cases h : j < k
        · rw [if_pos h, if_pos (by omega)]
        · rw [if_neg h, if_neg (by omega)]
def gS (g : Rg → Bool) (x : Sl) : Bool := decide (x.1 = 2) && g x.2.2.1
def mc2 (g : Rg → Bool) (l : List Sl) : Nat → List Sl
  | 0 => l
  | k + 1 => bif gS g (l.getD k dS) then lset dS (mc2 g l k) k dS else mc2 g l k
theorem mc2_getD (g : Rg → Bool) (l : List Sl) : ∀ (k j : Nat), (mc2 g l k).getD j dS = if j < k then (bif gS g (l.getD j dS) then dS else l.getD j dS) else l.getD j dS
  | 0, j => by simp [mc2]
  | k + 1, j => by
    rw [mc2]
    cases hg : gS g (l.getD k dS) with
    | true =>
      rw [cond_true, lset_getD, mc2_getD g l k]
      by_cases e : j = k
      · subst e
        rw [if_pos rfl, if_pos (by omega), hg]
        rfl
      · rw [if_neg e]
        by_cases h : j < k
        · rw [if_pos h, if_pos (by omega)]
        · rw [if_neg h, if_neg (by omega)]
    | false =>
      rw [cond_false, mc2_getD g l k]
      by_cases e : j = k
      · subst e
        rw [if_neg (by omega), if_pos (by omega), hg]
        rfl
      · by_cases h : j < k
        · rw [if_pos h, if_pos (by omega)]
        · rw [if_neg h, if_neg (by omega)]
def losS (g : Rg → Bool) (s : KD6) : KD6 := (mc g s.1 11, (mc2 g s.2.1 64, s.2.2))
def gn (id : Int) (r : Rg) : Bool := bif decide (id < 0) then (decide (r.1 = 4) || decide (r.1 = 5)) else (decide (r.1 = 9) && decide (r.2.2.2.1 = id))
theorem E53_eq (r : Rg) (id : Int) : E53 (r, id, ()) = some (gn id r) := by
  show S53 r id = _
  unfold S53 gn
  cases decide (id < 0) <;> cases decide (r.1 = 4) <;> cases decide (r.1 = 5) <;> cases decide (r.1 = 9) <;> rfl
theorem F53_e (r : Rg) (id : Int) : F53 (r, id, ()) = gn id r ∧ G53 (r, id, ()) = true := ofE (E53_eq r id)
theorem V430 {s z : KD6} {l : List Rg} (id : Int) {k : Nat} (hk : k < 11) :
    V43_0 (id, (), (), (k : Int), (mc (gn id) l k, s.2), z, ()) = some (.inl (id, (), (), ((k + 1 : Nat) : Int), (mc (gn id) l (k + 1), s.2), z, ())) := by
  show R43_0 _ _ _ _ _ _ _ _ id () () (k : Int) (mc (gn id) l k, s.2) z = _
  unfold R43_0
  have h1 : (k : Int) < 11 := by omega
  have h2 : (0 : Int) ≤ (k : Int) := by omega
  have hw : IntKind.wrap .i64 ((k : Int) + 1) = ((k + 1 : Nat) : Int) := by rw [wi64 (by omega)]; omega
  have hn : Int.toNat (k : Int) = k := by omega
  have hg : (mc (gn id) l k).getD k dR = l.getD k dR := by rw [mc_getD, if_neg (by omega)]
  simp only [hn, hw, (F53_e _ id).1, (F53_e _ id).2, hg]
  rw [bif_t (decide_eq_true h1)]
  cases h3 : gn id (l.getD k dR) with
  | true =>
    have hb : mc (gn id) l (k + 1) = lset dR (mc (gn id) l k) k dR := by rw [mc, h3]; rfl
    rw [hb, cond_true, bif_t (by simp [tt_eq, h1, h2, hk])]
  | false =>
    have hb : mc (gn id) l (k + 1) = mc (gn id) l k := by rw [mc, h3]; rfl
    rw [hb, cond_false, bif_t (by simp [tt_eq, h1, h2, hk])]
theorem V432 {s z : KD6} {l : List Sl} (id : Int) {k : Nat} (hk : k < 64) :
    V43_2 (id, (), (), (k : Int), (s.1, (mc2 (gn id) l k, s.2.2)), z, ()) = some (.inl (id, (), (), ((k + 1 : Nat) : Int), (s.1, (mc2 (gn id) l (k + 1), s.2.2)), z, ())) := by
  show R43_2 _ _ _ _ _ _ _ _ id () () (k : Int) (s.1, (mc2 (gn id) l k, s.2.2)) z = _
  unfold R43_2
  have h1 : (k : Int) < 64 := by omega
  have h2 : (0 : Int) ≤ (k : Int) := by omega
  have hw : IntKind.wrap .i64 ((k : Int) + 1) = ((k + 1 : Nat) : Int) := by rw [wi64 (by omega)]; omega
  have hn : Int.toNat (k : Int) = k := by omega
  have hg : (mc2 (gn id) l k).getD k dS = l.getD k dS := by rw [mc2_getD, if_neg (by omega)]
  simp only [hn, hw, (F53_e _ id).1, (F53_e _ id).2, hg]
  rw [bif_t (decide_eq_true h1)]
  by_cases h4 : (l.getD k dS).1 = 2
  · rw [bif_t (decide_eq_true h4)]
    cases h3 : gn id (l.getD k dS).2.2.1 with
    | true =>
      have hb : mc2 (gn id) l (k + 1) = lset dS (mc2 (gn id) l k) k dS := by rw [mc2, gS, h3, decide_eq_true h4]; rfl
      rw [hb, cond_true, bif_t (by simp [tt_eq, h1, h2, hk])]
    | false =>
      have hb : mc2 (gn id) l (k + 1) = mc2 (gn id) l k := by rw [mc2, gS, h3, Bool.and_false]; rfl
      rw [hb, cond_false, bif_t (by simp [tt_eq, h1, h2, hk])]
  · have hb : mc2 (gn id) l (k + 1) = mc2 (gn id) l k := by rw [mc2, gS, decide_eq_false h4]; rfl
    rw [hb, bif_f (decide_eq_false h4), bif_t (by simp [tt_eq, h1, h2, hk])]
theorem W430 {s z : KD6} (id : Int) : W43_0 (id, (), (), 0, s, z, ()) = (id, (), (), (mc (gn id) s.1 11, s.2), z, ()) ∧ Q43_0 (id, (), (), 0, s, z, ()) = true := by
  have hs := wh_steps (f := V43_0) (fun i => (id, (), (), ((i : Nat) : Int), (mc (gn id) s.1 i, s.2), z, ())) 11 (fun i h => V430 id h)
  have he : wh V43_0 (id, (), (), (0 : Int), s, z, ()) = some (id, (), (), (mc (gn id) s.1 11, s.2), z, ()) := hs.trans (wh_stop rfl)
  exact ⟨whV_of he, whK_of he⟩
theorem W432 {s z : KD6} (id : Int) : W43_2 (id, (), (), 0, s, z, ()) = ((), (), (s.1, (mc2 (gn id) s.2.1 64, s.2.2)), z, ()) ∧ Q43_2 (id, (), (), 0, s, z, ()) = true := by
  have hs := wh_steps (f := V43_2) (fun i => (id, (), (), ((i : Nat) : Int), (s.1, (mc2 (gn id) s.2.1 i, s.2.2)), z, ())) 64 (fun i h => V432 id h)
  have he : wh V43_2 (id, (), (), (0 : Int), s, z, ()) = some ((), (), (s.1, (mc2 (gn id) s.2.1 64, s.2.2)), z, ()) := hs.trans (wh_stop rfl)
  exact ⟨whV_of he, whK_of he⟩
theorem E43_eq {s : KD6} {id : Int} (hl : s.2.2.2.1.length ≤ 1048576) : E43 (s, id, ()) = some (losS (gn id) s) := by
  show S43 F17 G17 F53 G53 W43_0 Q43_0 W43_2 Q43_2 s id = _
  unfold S43
  rw [(F17_e hl).1, (F17_e hl).2, (W430 id).1, (W430 id).2]
  simp only []
  rw [(W432 (s := (mc (gn id) s.1 11, s.2)) id).1, (W432 (s := (mc (gn id) s.1 11, s.2)) id).2]
  rfl
theorem F43_e {s : KD6} {id : Int} (hl : s.2.2.2.1.length ≤ 1048576) : F43 (s, id, ()) = losS (gn id) s ∧ G43 (s, id, ()) = true := ofE (E43_eq hl)
def noRange (s : KD6) : KD6 := (s.1, (s.2.1, (0, s.2.2.2)))
theorem E21_eq {s : KD6} (hl : s.2.2.2.1.length ≤ 1048576) : E21 (s, ()) = some (noRange (losS (gn (-1)) s)) := by
  show S21 F43 G43 s = _
  unfold S21
  rw [(F43_e hl).1, (F43_e hl).2]
  rfl
theorem F21_e {s : KD6} (hl : s.2.2.2.1.length ≤ 1048576) : F21 (s, ()) = noRange (losS (gn (-1)) s) ∧ G21 (s, ()) = true := ofE (E21_eq hl)
theorem E23_eq {s : KD6} {id : Int} (hi : 0 ≤ id) (hl : s.2.2.2.1.length ≤ 1048576) : E23 (s, id, ()) = some (withR (losS (gn id) s) (wo id s.2.2.2.1)) := by
  have hl2 : (losS (gn id) s).2.2.2.1.length ≤ 1048576 := hl
  show S23 F17 G17 F41 G41 F43 G43 s id = _
  unfold S23
  rw [bif_t (decide_eq_true hi), (F43_e hl).1, (F43_e hl).2, (F17_e hl2).1, (F17_e hl2).2]
  have h41 := F41_e (id := id) hl2
  rw [h41.1, h41.2]
  rfl
theorem F23_e {s : KD6} {id : Int} (hi : 0 ≤ id) (hl : s.2.2.2.1.length ≤ 1048576) : F23 (s, id, ()) = withR (losS (gn id) s) (wo id s.2.2.2.1) ∧ G23 (s, id, ()) = true := ofE (E23_eq hi hl)
theorem E20_eq {s : KD6} (hl : s.2.2.2.1.length ≤ 1048576) : E20 (s, ()) = some (noRange (mapS los s)) := by
  show S20 F37b G37b s = _
  unfold S20
  simp only [Dk.reI_eq, Dk.reO_eq, flI_eq, fl0_eq, flO_eq, (F37b_e hl).1, (F37b_e hl).2]
  rfl
theorem F20_e {s : KD6} (hl : s.2.2.2.1.length ≤ 1048576) : F20 (s, ()) = noRange (mapS los s) ∧ G20 (s, ()) = true := ofE (E20_eq hl)
theorem E22_eq {s : KD6} {id : Int} (hl : s.2.2.2.1.length ≤ 1048576) : E22 (s, id, ()) = some (withR (mapS (frg id) s) (wo id s.2.2.2.1)) := by
  have hl2 : (mapS (frg id) s).2.2.2.1.length ≤ 1048576 := hl
  show S22 F37c G37c F39 G39 s id = _
  unfold S22
  simp only [Dk.reI_eq, Dk.reO_eq, flI_eq, fl0_eq, flO_eq, (F37c_e id hl).1, (F37c_e id hl).2, (F39_e hl2).1, (F39_e hl2).2]
  rfl
theorem F22_e {s : KD6} {id : Int} (hl : s.2.2.2.1.length ≤ 1048576) : F22 (s, id, ()) = withR (mapS (frg id) s) (wo id s.2.2.2.1) ∧ G22 (s, id, ()) = true := ofE (E22_eq hl)
/-! ## They are the same -/
theorem sameV_of {a b : KD6} (h1 : ∀ i, i < 11 → a.1.getD i dR = b.1.getD i dR) (h2 : ∀ i, i < 64 → a.2.1.getD i dS = b.2.1.getD i dS) (h3 : a.2.2 = b.2.2) : sameV a b = true := by
  have e1 : eqb (.arr 11 KT18) a.1 b.1 = true := by
    show (List.range 11).all (fun i => eqb KT18 (a.1.getD i dR) (b.1.getD i dR)) = true
    rw [List.all_eq_true]
    intro i hi
    rw [h1 i (List.mem_range.mp hi), eqb_self]
  have e2 : eqb (.arr 64 KT20) a.2.1 b.2.1 = true := by
    show (List.range 64).all (fun i => eqb KT20 (a.2.1.getD i dS) (b.2.1.getD i dS)) = true
    rw [List.all_eq_true]
    intro i hi
    rw [h2 i (List.mem_range.mp hi), eqb_self]
  unfold sameV
  rw [e1, e2, h3]
  simp
theorem fgn (f : Rg → Rg) (g : Rg → Bool) (hf : ∀ r, f r = bif g r then dR else r) (hg : g dR = false) (s : KD6) : (∀ i, i < 11 → (mapS f s).1.getD i dR = (losS g s).1.getD i dR) ∧ (∀ i, i < 64 → (mapS f s).2.1.getD i dS = (losS g s).2.1.getD i dS) := by
  refine ⟨fun i hi => ?_, fun i hi => ?_⟩
  · show (mp f s.1 11).getD i dR = (mc g s.1 11).getD i dR
    rw [mp_getD, mc_getD, if_pos hi, if_pos hi, hf]
  · show (mp2 f s.2.1 64).getD i dS = (mc2 g s.2.1 64).getD i dS
    rw [mp2_getD, mc2_getD, if_pos hi, if_pos hi]
    generalize s.2.1.getD i dS = x
    unfold sg gS
    by_cases h2 : x.1 = 2
    · rw [decide_eq_true h2, hf]
      simp only [cond_true, Bool.true_and]
      cases h : g x.2.2.1 with
      | true =>
        have hne : eqb KTc6 x.2.2.1 dR = false := by
          cases hq : eqb KTc6 x.2.2.1 dR with
          | false => rfl
          | true =>
            exfalso
            have : x.2.2.1 = dR := by
              have := hq
              simp only [KTc6, eqb, Bool.and_eq_true, decide_eq_true_eq, and_true] at this
              obtain ⟨a1, ⟨⟨a2, a3⟩, a4, a5⟩, a6, a7, a8⟩ := this
              simp only [Prod.ext_iff]
              simp_all
            rw [this, hg] at h
            cases h
        simp only [cond_true, eqb_self, hne, Bool.not_false]
      | false =>
        simp only [cond_false, eqb_self, Bool.not_true]
        cases eqb KTc6 x.2.2.1 dR <;> rfl
    · rw [decide_eq_false h2]
      simp
theorem los_gn (r : Rg) : los r = bif gn (-1) r then dR else r := rfl
theorem frg_gn {id : Int} (hi : 0 ≤ id) (r : Rg) : frg id r = bif gn id r then dR else r := by
  unfold frg gn
  rw [decide_eq_false (p := id < 0) (by omega)]
  rfl
theorem E6_eq {s : KD6} {id : Int} {nl : Bool} (hl : s.2.2.2.1.length ≤ 1048576) : E6 (s, id, nl, ()) = some true := by
  obtain ⟨g7a, q7a⟩ := F7_t s hl
  have a8 : F8 () = true ∧ G8 () = true := ⟨rfl, rfl⟩
  show S6 F7 G7 F8 G8 F12 G12 F17 G17 F18 G18 F19 G19 F20 G20 F21 G21 F22 G22 F23 G23 s id nl = _
  have hl2 : (bif nl then withR (mapS (nul id nl) s) (wo id s.2.2.2.1) else mapS (nul id nl) s).2.2.2.1.length ≤ 1048576 := by
    cases nl with
    | false => exact hl
    | true =>
      have := List.length_filter_le (fun x => !decide (x = id)) s.2.2.2.1
      show (List.filter _ _).length ≤ _
      omega
  have n1 : ∀ a : KD6, a.2.2.2.1.length ≤ 1048576 → F12 (a, a, ()) = true ∧ G12 (a, a, ()) = true := fun a h => ⟨(F12_e h).1.trans (sameV_self a), (F12_e h).2⟩
  have hL : sameV (noRange (mapS los s)) (noRange (losS (gn (-1)) s)) = true := by
    have h := fgn los (gn (-1)) los_gn rfl s
    exact sameV_of h.1 h.2 rfl
  have hlL : (noRange (mapS los s)).2.2.2.1.length ≤ 1048576 := hl
  unfold S6
  rw [g7a, a8.1, a8.2, (F17_e hl).1, (F17_e hl).2, (F18_e hl).1, (F18_e hl).2, (F19_e hl).1, (F19_e hl).2, (n1 _ hl2).1, (n1 _ hl2).2, (F20_e hl).1, (F20_e hl).2, (F21_e hl).1, (F21_e hl).2, (F12_e hlL).1, (F12_e hlL).2, hL, (n1 s hl).1, (n1 s hl).2]
  cases hF : F7 (s, ()) with
  | false => rfl
  | true =>
    by_cases hi : id < 0
    · rw [decide_eq_true hi]; rfl
    · have hi' : 0 ≤ id := by omega
      have hF' : sameV (withR (mapS (frg id) s) (wo id s.2.2.2.1)) (withR (losS (gn id) s) (wo id s.2.2.2.1)) = true := by
        have h := fgn (frg id) (gn id) (frg_gn hi') (by unfold gn; rw [decide_eq_false hi]; rfl) s
        exact sameV_of h.1 h.2 rfl
      have hlF : (withR (mapS (frg id) s) (wo id s.2.2.2.1)).2.2.2.1.length ≤ 1048576 := by
        have := List.length_filter_le (fun x => !decide (x = id)) s.2.2.2.1
        show (List.filter _ _).length ≤ _
        omega
      rw [decide_eq_false hi, (F22_e hl).1, (F22_e hl).2, (F23_e hi' hl).1, (F23_e hi' hl).2, (F12_e hlF).1, (F12_e hlF).2, hF']
      rfl
theorem stateChanges_pure (x0 : KD6) (w0 : WFv KT27 x0) (s0 : SZ 1048576 KT27 x0) (x1 : Int) (w1 : WFv (.int .i64) x1) (s1 : SZ 1048576 (.int .i64) x1) (x2 : Bool) (w2 : WFv .bool x2) (s2 : SZ 1048576 .bool x2) : PureOK Try.prog 6 [⟨KT27, x0⟩, ⟨.int .i64, x1⟩, ⟨.bool, x2⟩] ⟨.bool, true⟩ := by
  have hl : x0.2.2.2.1.length ≤ 1048576 := s0.2.2.2.1.1
  have h : F6 (x0, x1, x2, ()) = true ∧ G6 (x0, x1, x2, ()) = true := ofE (E6_eq hl)
  have := p6 (x0, x1, x2, ()) h.2
  rw [h.1] at this
  exact this
end Go.Proofs
