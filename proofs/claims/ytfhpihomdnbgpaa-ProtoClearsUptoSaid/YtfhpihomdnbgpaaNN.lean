import Derived.Test.YtfhpihomdnbgpaaNM
namespace Go.Proofs.Po
open Go.GX
set_option linter.unusedVariables false
set_option linter.unusedSimpArgs false
theorem Outc.err {s : KD6} {n e : Int} (he : e ≠ 0) : Outc s n zS e := .inl ⟨he, rfl⟩
theorem Outc.ok {s : KD6} {n : Int} (s' : KD6) (r : Rg) (h1 : r.1 ≠ 0) (h2 : ∀ i, s'.1.getD i dR = s.1.getD i dR ∨ s'.1.getD i dR = dR) (h3 : s.2.2.2.2.1 ≤ s'.2.2.2.2.1) (h4 : RefR s n s' r) :
 Outc s n (lset dR (cutIn dR s'.1 1 (List.replicate 5 dR)) 0 r, s'.2) 0 := .inr ⟨rfl, s', r, rfl, h1, h2, h3, h4⟩
abbrev dM : Sp := (0, (0, (0, (0, ()))))
theorem K88 {s : KD6} {m : List Sp} {k : List Int} (hr : ∀ j, 0 ≤ (s.1.getD j dR).2.1.1.1) (hl : s.2.2.2.1.length ≤ 1048576) (hk : k.length ≤ 1048576)
 (h0 : F37 (cl s m [0, 3] k) (((0 + 1 : Nat) : Int), 0, ()) = 0) (h1 : F37 (cl s m [0, 3] k) (((1 + 1 : Nat) : Int), 3, ()) = 0) :
 0 ≤ (s.1.getD 1 dR).2.2.1 ∧ (s.1.getD 1 dR).2.2.1 < ((m.length : Nat) : Int) ∧ ∃ l, Pl.E23 (s, (m.getD (Int.toNat (s.1.getD 1 dR).2.2.1) dM).2.2.1, ()) = some (S1 s l) := by
 have hm := F37_map (c := cl s m [0, 3] k) (i := 1) (by omega) hk h0
 obtain ⟨g1, g2, g3⟩ := F51_e hm
 have h2 := (F37_room (c := cl s m [0, 3] k) (i := 2) (by omega) hr).symm.trans h1
 refine ⟨g1, g2, ?_⟩
 have g3 : (F51 (cl s m [0, 3] k) (s.1.getD 1 dR, ())).1 = m.getD (Int.toNat (s.1.getD 1 dR).2.2.1) dM := g3
 have h2 : F52 (s, m, s.1.getD 2 dR, (F51 (cl s m [0, 3] k) (s.1.getD 1 dR, ())).1.2.2.1, true, ()) = 0 := h2
 rw [g3] at h2
 generalize (m.getD (Int.toNat (s.1.getD 1 dR).2.2.1) dM).2.2.1 = v at *
 by_cases h3 : (s.1.getD 2 dR).1 = 3
 ·obtain ⟨k1, k2, k3⟩ := F52_stk (hr 2) h3 h2
  have hp := hr 2
  generalize hx : (s.1.getD 2 dR).2.1.1.1 = x at *
  obtain ⟨p, rfl⟩ : ∃ p : Nat, x = (p : Int) := ⟨x.toNat, by omega⟩
  obtain ⟨c, rfl⟩ : ∃ c : Nat, v = (c : Int) := ⟨v.toNat, by omega⟩
  exact ⟨_, E23_eq hl h3 k1 (by omega)⟩
 ·exact ⟨s.2.1, E23_no h3⟩
theorem C9p {s : KD6} {m : List Sp} {n : Int} (hr : ∀ j, 0 ≤ (s.1.getD j dR).2.1.1.1) (hl : s.2.2.2.1.length ≤ 1048576) (hi : -9223372036854775808 ≤ s.2.2.2.2.1 ∧ s.2.2.2.2.1 ≤ 1099511627776) (hn : n ≠ 131) :
 ∃ t e, Pl.E9 (s, m, n, ()) = some (t, (e, ())) ∧ Outc s n t e := by
 obtain ⟨a, k, b, h16, ha, hk, hb⟩ := E16_t n
 have hk' : k.length ≤ 1048576 := by
  simp only [KL, List.mem_cons, List.not_mem_nil, or_false] at hk
  rcases hk with rfl | rfl | rfl | rfl | rfl | rfl <;> decide
 obtain ⟨e, h17, hq⟩ := E17_t s m ha hk' hr
 have f16 : F16 (n, ()) = ((a, (k, ())), (b, ())) ∧ G16 (n, ()) = true := ofE h16
 have f17 : F17 (s, (m, ((a, (k, ())), ()))) () = e := (ofE (E := E17 (cl s m a k)) (d := dflt (.int .i64)) h17).1
 have g17 : G17 (s, (m, ((a, (k, ())), ()))) () = true := some_of ⟨e, h17⟩
 show ∃ t e, Pl.S9 F16 G16 F17 G17 F18 G18 F19 G19 F20 G20 F21 G21 F22 G22 Pl.F23 Pl.G23 F24 G24 F25 G25 F26 G26 s m n = _ ∧ _
 unfold Pl.S9
 simp only [f16.1, f16.2, f17, g17, (F18_e hl).1, (F18_e hl).2, G19_t, show G20 (0, ()) = true from rfl, (F21_eq (F19 ()) 32).2, tt_eq, Bool.and_true, cond_true]
 cases b with
 | false => exact ⟨_, _, rfl, Outc.err (by decide)⟩
 | true =>
  by_cases he : e = 0
  ·rw [decide_eq_true he]
   have hid : s.2.2.2.2.1 ≤ IntKind.wrap .i64 (s.2.2.2.2.1 + 1) := by rw [wi64 (by omega)]; omega
   have same : n ≠ 131 → n ≠ 132 → n ≠ 133 → n ≠ 12 → ∀ {s' : KD6} {r : Rg}, s'.2.2.2.1 = s.2.2.2.1 → RefR s n s' r := fun h1 h2 h3 h4 s' r h => .inr (.inr ⟨h1, h2, h3, h, fun h5 => absurd h5 h4⟩)
   have reg : ∀ i, s.1.getD i dR = s.1.getD i dR ∨ s.1.getD i dR = dR := fun i => .inl rfl
   by_cases h1 : n = 1
   ·rw [decide_eq_true h1]
    exact ⟨_, _, rfl, Outc.ok (s.1, (s.2.1, (s.2.2.1, (s.2.2.2.1, (IntKind.wrap .i64 (s.2.2.2.2.1 + 1), s.2.2.2.2.2))))) _ (show (8 : Int) ≠ 0 by decide) reg hid (same hn (by omega) (by omega) (by omega) rfl)⟩
   rw [decide_eq_false h1]
   by_cases h8 : n = 8
   ·rw [decide_eq_true h8]
    exact ⟨_, _, rfl, Outc.ok s _ (by decide) reg (Int.le_refl _) (same hn (by omega) (by omega) (by omega) rfl)⟩
   rw [decide_eq_false h8]
   by_cases h12 : n = 12
   ·rw [decide_eq_true h12]
    by_cases hz : ((s.2.2.2.1.length : Nat) : Int) > 0
    ·rw [decide_eq_true hz]
     exact ⟨_, _, rfl, Outc.err (by decide)⟩
    ·rw [decide_eq_false hz]
     have hz0 : s.2.2.2.1 = [] := List.eq_nil_of_length_eq_zero (by omega)
     exact ⟨_, _, rfl, Outc.ok s _ (by decide) reg (Int.le_refl _) (.inr (.inr ⟨hn, by omega, by omega, rfl, fun _ => hz0⟩))⟩
   rw [decide_eq_false h12]
   by_cases h44 : n = 44
   ·rw [decide_eq_true h44, (F22_e hl).1, (F22_e hl).2]
    exact ⟨_, _, rfl, Outc.ok (noRange (mapS los s)) _ (by decide) (fun i => mapS_reg los_r s i) (Int.le_refl _) (same hn (by omega) (by omega) (by omega) rfl)⟩
   rw [decide_eq_false h44]
   have h88 : n = 88 ∨ n = 89 → 0 ≤ (s.1.getD 1 dR).2.2.1 ∧ (s.1.getD 1 dR).2.2.1 < ((m.length : Nat) : Int) ∧ ∃ l, Pl.E23 (s, (m.getD (Int.toNat (s.1.getD 1 dR).2.2.1) dM).2.2.1, ()) = some (S1 s l) := by
    intro hh
    have e16 : E16 (n, ()) = some (([0, 3], ([22, 23], ())), (true, ())) := by
     rcases hh with rfl | rfl <;> kernel_rfl
    rw [e16] at h16
    simp only [Option.some.injEq, Prod.mk.injEq] at h16
    obtain ⟨⟨rfl, rfl, _⟩, _⟩ := h16
    have hq := hq he
    exact K88 hr hl hk' (hq 0 (by decide)).2 (hq 1 (by decide)).2
   by_cases hh : n = 88
   ·obtain ⟨q1, q2, l, q3⟩ := h88 (.inl hh)
    have f23 : Pl.F23 (s, (m.getD (Int.toNat (s.1.getD 1 dR).2.2.1) dM).2.2.1, ()) = S1 s l ∧ Pl.G23 (s, (m.getD (Int.toNat (s.1.getD 1 dR).2.2.1) dM).2.2.1, ()) = true := ofE q3
    rw [decide_eq_true hh, f23.1, f23.2, decide_eq_true q1, decide_eq_true q2]
    exact ⟨_, _, rfl, Outc.ok (S1 s l) _ (by decide) reg (Int.le_refl _) (same hn (by omega) (by omega) (by omega) rfl)⟩
   rw [decide_eq_false hh]
   by_cases hh9 : n = 89
   ·obtain ⟨q1, q2, l, q3⟩ := h88 (.inr hh9)
    have f23 : Pl.F23 (s, (m.getD (Int.toNat (s.1.getD 1 dR).2.2.1) dM).2.2.1, ()) = S1 s l ∧ Pl.G23 (s, (m.getD (Int.toNat (s.1.getD 1 dR).2.2.1) dM).2.2.1, ()) = true := ofE q3
    rw [decide_eq_true hh9, f23.1, f23.2, decide_eq_true q1, decide_eq_true q2]
    exact ⟨_, _, rfl, Outc.ok (S1 s l) _ (by decide) reg (Int.le_refl _) (same hn (by omega) (by omega) (by omega) rfl)⟩
   rw [decide_eq_false hh9, decide_eq_false hn]
   by_cases h132 : n = 132
   ·rw [decide_eq_true h132, G25_t _ _ hl, (F26_e hl).1, (F26_e hl).2]
    cases hc : F25 (s.2.2.2.1, (s.1.getD 1 dR).2.2.2.1, ()) with
    | false => exact ⟨_, _, rfl, Outc.err (by decide)⟩
    | true => exact ⟨_, _, rfl, Outc.ok (withR (mapS (frg (s.1.getD 1 dR).2.2.2.1) s) (wo (s.1.getD 1 dR).2.2.2.1 s.2.2.2.1)) _ (by decide) (fun i => mapS_reg (frg_r _) s i) (Int.le_refl _) (.inr (.inl ⟨.inl h132, rfl, F25_mem hl hc⟩))⟩
   rw [decide_eq_false h132]
   by_cases h133 : n = 133
   ·rw [decide_eq_true h133, G25_t _ _ hl, (F26_e hl).1, (F26_e hl).2]
    cases hc : F25 (s.2.2.2.1, (s.1.getD 1 dR).2.2.2.1, ()) with
    | false => exact ⟨_, _, rfl, Outc.err (by decide)⟩
    | true => exact ⟨_, _, rfl, Outc.ok (withR (mapS (frg (s.1.getD 1 dR).2.2.2.1) s) (wo (s.1.getD 1 dR).2.2.2.1 s.2.2.2.1)) _ (by decide) (fun i => mapS_reg (frg_r _) s i) (Int.le_refl _) (.inr (.inl ⟨.inr h133, rfl, F25_mem hl hc⟩))⟩
   rw [decide_eq_false h133]
   exact ⟨_, _, rfl, Outc.ok s _ (by decide) reg (Int.le_refl _) (same hn h132 h133 h12 rfl)⟩
  ·rw [decide_eq_false he]
   exact ⟨_, _, rfl, Outc.err he⟩
end Go.Proofs.Po
