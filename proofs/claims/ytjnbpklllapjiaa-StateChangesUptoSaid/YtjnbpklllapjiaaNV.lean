import Derived.Test.YtjnbpklllapjiaaNU
namespace Go.Proofs
open Go.GX
set_option linter.unusedVariables false
set_option linter.unusedSimpArgs false
/-! ## The reference's changes -/
theorem E17_eq {s : KD6} (hl : s.2.2.2.1.length ≤ 1048576) : E17 (s, ()) = some s := by
  show S17 s = _
  unfold S17
  rw [bif_t (by simp [tt_eq]; omega), sec_full (by omega)]
theorem F17_e {s : KD6} (hl : s.2.2.2.1.length ≤ 1048576) : F17 (s, ()) = s ∧ G17 (s, ()) = true := ofE (E17_eq hl)
def nulB (id : Int) (r : Rg) : Bool := decide (r.2.2.2.1 = id) && (decide (r.1 = 8) || decide (r.1 = 10))
theorem E40_eq (r : Rg) (id : Int) (nl : Bool) : E40 (r, id, nl, ()) = some (nul id nl r, nulB id r, ()) := by
  show S40 F26 G26 r id nl = _
  unfold S40 nul nulB
  rw [(F26_e 0).1, (F26_e 0).2]
  by_cases h1 : r.2.2.2.1 = id <;> by_cases h2 : r.1 = 8 <;> by_cases h3 : r.1 = 10 <;> cases nl <;> simp [h1, h2, h3, tt_eq] <;> omega
theorem F40_e (r : Rg) (id : Int) (nl : Bool) : F40 (r, id, nl, ()) = (nul id nl r, nulB id r, ()) ∧ G40 (r, id, nl, ()) = true := ofE (E40_eq r id nl)
/-! ### without -/
theorem V410 {l : List Int} {id : Int} (hl : l.length ≤ 1048576) {k : Nat} (hk : k < l.length) :
    V41_0 (l, id, wo id (l.take k), (k : Int), ()) = some (.inl (l, id, wo id (l.take (k + 1)), ((k + 1 : Nat) : Int), ())) := by
  show R41_0 _ _ l id (wo id (l.take k)) (k : Int) = _
  unfold R41_0
  have h1 : (k : Int) < ((l.length : Nat) : Int) := by omega
  have h2 : (0 : Int) ≤ (k : Int) := by omega
  have hw : IntKind.wrap .i64 ((k : Int) + 1) = ((k + 1 : Nat) : Int) := by rw [wi64 (by omega)]; omega
  have hn : Int.toNat (k : Int) = k := by omega
  have hs : wo id (l.take (k + 1)) = wo id (l.take k) ++ wo id [l.getD k 0] := by
    rw [List.take_succ_eq_append_getElem hk, wo, List.filter_append, getD_lt' hk]
  have hle : (wo id (l.take k)).length ≤ l.length := by
    have := List.length_filter_le (fun x => !decide (x = id)) (l.take k)
    simp only [List.length_take] at this
    show (List.filter _ _).length ≤ _
    omega
  simp only [hn, hw]
  rw [bif_t (decide_eq_true h1)]
  by_cases e : l.getD k 0 = id
  · have hz : wo id [l.getD k 0] = [] := by simp only [wo, List.filter_cons, decide_eq_true e]; rfl
    rw [bif_f (by rw [decide_eq_true e]; rfl), bif_t (by simp [tt_eq, h1, h2]), hs, hz, List.append_nil, sec_full rfl]
  · have hz : wo id [l.getD k 0] = [l.getD k 0] := by simp only [wo, List.filter_cons, decide_eq_false e]; rfl
    rw [bif_t (by rw [decide_eq_false e]; rfl), bif_t (by simp [tt_eq, h1, h2]; omega), hs, hz, sec_full rfl, sec_full (by simp)]
theorem V41e {l : List Int} {id : Int} {o : List Int} : V41_0 (l, id, o, ((l.length : Nat) : Int), ()) = some (.inr (o, ())) := by
  show R41_0 _ _ l id o ((l.length : Nat) : Int) = _
  unfold R41_0
  rw [bif_f (decide_eq_false (by omega)), bif_t (by simp [tt_eq]), sec_full rfl]
theorem E41_eq {l : List Int} {id : Int} (hl : l.length ≤ 1048576) : E41 (l, id, ()) = some (wo id l) := by
  have hs := wh_steps (f := V41_0) (fun i => (l, id, wo id (l.take i), ((i : Nat) : Int), ())) l.length (fun i h => V410 hl h)
  have he : wh V41_0 (l, id, ([] : List Int), (0 : Int), ()) = some (wo id l, ()) := by
    have h0 : wo id (l.take l.length) = wo id l := by rw [List.take_length]
    exact (hs.trans (wh_stop V41e)).trans (by rw [h0])
  have hV : W41_0 (l, id, [], 0, ()) = (wo id l, ()) := whV_of he
  have hQ : Q41_0 (l, id, [], 0, ()) = true := whK_of he
  show S41 W41_0 Q41_0 l id = _
  unfold S41
  rw [hV, hQ, bif_t (by simp [tt_eq]), sec_full rfl]
theorem F41_e {l : List Int} {id : Int} (hl : l.length ≤ 1048576) : F41 (l, id, ()) = wo id l ∧ G41 (l, id, ()) = true := ofE (E41_eq hl)
/-! ### Null -/
theorem sg_nul (id : Int) (nl : Bool) (x : Sl) : sg (nul id nl) x = bif decide (x.1 = 2) then (x.1, (x.2.1, (nul id nl x.2.2.1, x.2.2.2))) else x := by
  unfold sg
  by_cases h2 : x.1 = 2
  · rw [bif_t (decide_eq_true h2), bif_t (decide_eq_true h2)]
    by_cases hb : nulB id x.2.2.1 = true
    · have : eqb KTc6 (nul id nl x.2.2.1) dR = false := by
        unfold nul nulB at *
        rw [bif_t hb]
        cases nl with
        | true => rfl
        | false =>
          cases h8 : decide (x.2.2.1.1 = 8) <;> rfl
      rw [this]; rfl
    · have hn : nul id nl x.2.2.1 = x.2.2.1 := by
        unfold nul nulB at *
        rw [bif_f (by simpa using hb)]
      rw [hn, eqb_self]
      cases eqb KTc6 x.2.2.1 dR <;> rfl
  · rw [bif_f (decide_eq_false h2), bif_f (decide_eq_false h2)]
theorem V190 {s z : KD6} {l : List Rg} (id : Int) (nl : Bool) {k : Nat} (hk : k < 11) :
    V19_0 (id, nl, (), (), (k : Int), (mp (nul id nl) l k, s.2), z, ()) = some (.inl (id, nl, (), (), ((k + 1 : Nat) : Int), (mp (nul id nl) l (k + 1), s.2), z, ())) := by
  show R19_0 _ _ _ _ _ _ _ _ _ _ id nl () () (k : Int) (mp (nul id nl) l k, s.2) z = _
  unfold R19_0
  have h1 : (k : Int) < 11 := by omega
  have h2 : (0 : Int) ≤ (k : Int) := by omega
  have hw : IntKind.wrap .i64 ((k : Int) + 1) = ((k + 1 : Nat) : Int) := by rw [wi64 (by omega)]; omega
  have hn : Int.toNat (k : Int) = k := by omega
  have hg : (mp (nul id nl) l k).getD k dR = l.getD k dR := by rw [mp_getD, if_neg (by omega)]
  simp only [hn, hw, (F40_e _ id nl).1, (F40_e _ id nl).2, hg]
  rw [bif_t (decide_eq_true h1), bif_t (by simp [tt_eq, h1, h2, hk])]
  rfl
theorem V192 {s z : KD6} {l : List Sl} (id : Int) (nl : Bool) {k : Nat} (hk : k < 64) :
    V19_2 (id, nl, (), (), (k : Int), (s.1, (mp2 (nul id nl) l k, s.2.2)), z, ()) = some (.inl (id, nl, (), (), ((k + 1 : Nat) : Int), (s.1, (mp2 (nul id nl) l (k + 1), s.2.2)), z, ())) := by
  show R19_2 _ _ _ _ _ _ _ _ _ _ id nl () () (k : Int) (s.1, (mp2 (nul id nl) l k, s.2.2)) z = _
  unfold R19_2
  have h1 : (k : Int) < 64 := by omega
  have h2 : (0 : Int) ≤ (k : Int) := by omega
  have hw : IntKind.wrap .i64 ((k : Int) + 1) = ((k + 1 : Nat) : Int) := by rw [wi64 (by omega)]; omega
  have hn : Int.toNat (k : Int) = k := by omega
  have hg : (mp2 (nul id nl) l k).getD k dS = l.getD k dS := by rw [mp2_getD, if_neg (by omega)]
  simp only [hn, hw, (F40_e _ id nl).1, (F40_e _ id nl).2, hg]
  rw [bif_t (decide_eq_true h1)]
  by_cases h3 : (l.getD k dS).1 = 2
  · have hb : mp2 (nul id nl) l (k + 1) = lset dS (mp2 (nul id nl) l k) k ((l.getD k dS).1, ((l.getD k dS).2.1, (nul id nl (l.getD k dS).2.2.1, (l.getD k dS).2.2.2))) := by
      rw [mp2, bif_t (decide_eq_true h3), sg_nul, bif_t (decide_eq_true h3)]
    rw [hb, bif_t (decide_eq_true h3), bif_t (by simp [tt_eq, h1, h2, hk])]
  · have hb : mp2 (nul id nl) l (k + 1) = mp2 (nul id nl) l k := by rw [mp2, bif_f (decide_eq_false h3)]
    rw [hb, bif_f (decide_eq_false h3), bif_t (by simp [tt_eq, h1, h2, hk])]
theorem W190 {s z : KD6} (id : Int) (nl : Bool) : W19_0 (id, nl, (), (), 0, s, z, ()) = (id, nl, (), (), (mp (nul id nl) s.1 11, s.2), z, ()) ∧ Q19_0 (id, nl, (), (), 0, s, z, ()) = true := by
  have hs := wh_steps (f := V19_0) (fun i => (id, nl, (), (), ((i : Nat) : Int), (mp (nul id nl) s.1 i, s.2), z, ())) 11 (fun i h => V190 id nl h)
  have he : wh V19_0 (id, nl, (), (), (0 : Int), s, z, ()) = some (id, nl, (), (), (mp (nul id nl) s.1 11, s.2), z, ()) := hs.trans (wh_stop rfl)
  exact ⟨whV_of he, whK_of he⟩
theorem W192 {s z : KD6} (id : Int) (nl : Bool) : W19_2 (id, nl, (), (), 0, s, z, ()) = (id, nl, (), (), (s.1, (mp2 (nul id nl) s.2.1 64, s.2.2)), z, ()) ∧ Q19_2 (id, nl, (), (), 0, s, z, ()) = true := by
  have hs := wh_steps (f := V19_2) (fun i => (id, nl, (), (), ((i : Nat) : Int), (s.1, (mp2 (nul id nl) s.2.1 i, s.2.2)), z, ())) 64 (fun i h => V192 id nl h)
  have he : wh V19_2 (id, nl, (), (), (0 : Int), s, z, ()) = some (id, nl, (), (), (s.1, (mp2 (nul id nl) s.2.1 64, s.2.2)), z, ()) := hs.trans (wh_stop rfl)
  exact ⟨whV_of he, whK_of he⟩
theorem E19_eq {s : KD6} {id : Int} {nl : Bool} (hl : s.2.2.2.1.length ≤ 1048576) : E19 (s, id, nl, ()) = some (bif nl then withR (mapS (nul id nl) s) (wo id s.2.2.2.1) else mapS (nul id nl) s) := by
  show S19 F17 G17 F40 G40 F41 G41 W19_0 Q19_0 W19_2 Q19_2 s id nl = _
  unfold S19
  rw [(F17_e hl).1, (F17_e hl).2, (W190 id nl).1, (W190 id nl).2]
  simp only []
  rw [(W192 (s := (mp (nul id nl) s.1 11, s.2)) id nl).1, (W192 (s := (mp (nul id nl) s.1 11, s.2)) id nl).2]
  simp only [(F41_e hl).1, (F41_e hl).2]
  cases nl <;> rfl
theorem F19_e {s : KD6} {id : Int} {nl : Bool} (hl : s.2.2.2.1.length ≤ 1048576) : F19 (s, id, nl, ()) = (bif nl then withR (mapS (nul id nl) s) (wo id s.2.2.2.1) else mapS (nul id nl) s) ∧ G19 (s, id, nl, ()) = true := ofE (E19_eq hl)
theorem E18_eq {s : KD6} {id : Int} {nl : Bool} (hl : s.2.2.2.1.length ≤ 1048576) : E18 (s, id, nl, ()) = some (bif nl then withR (mapS (nul id nl) s) (wo id s.2.2.2.1) else mapS (nul id nl) s) := by
  have hl2 : (mapS (nul id nl) s).2.2.2.1.length ≤ 1048576 := hl
  show S18 F37a G37a F39 G39 s id nl = _
  unfold S18
  simp only [Dk.reI_eq, Dk.reO_eq, flI_eq, fl0_eq, flO_eq, (F37a_e id nl hl).1, (F37a_e id nl hl).2, (F39_e hl2).1, (F39_e hl2).2]
  cases nl <;> rfl
theorem F18_e {s : KD6} {id : Int} {nl : Bool} (hl : s.2.2.2.1.length ≤ 1048576) : F18 (s, id, nl, ()) = (bif nl then withR (mapS (nul id nl) s) (wo id s.2.2.2.1) else mapS (nul id nl) s) ∧ G18 (s, id, nl, ()) = true := ofE (E18_eq hl)
end Go.Proofs
