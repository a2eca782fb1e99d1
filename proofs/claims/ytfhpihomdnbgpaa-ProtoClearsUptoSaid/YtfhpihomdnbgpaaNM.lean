import Derived.Test.YtfhpihomdnbgpaaNL
import Derived.Test.YtfhpihomdnbgpaaNS
namespace Go.Proofs.Po
open Go.GX
set_option linter.unusedVariables false
set_option linter.unusedSimpArgs false
def fl (l : List Sl) (p : Nat) : Nat → List Sl
 | 0 => l
 | i + 1 => putN (fl l p i) (p + i) 1
noncomputable abbrev R0 : Rg := (1, (F19 (), (0, (0, (0, ())))))
theorem G19_t : G19 () = true := rfl
theorem wst_R0 (s : KD6) (l : List Sl) (q : Nat) : wst (S1 s l) q 1 R0 = (S1 s (putN l q 1), 0, ()) := rfl
theorem F45_R0 {s : KD6} (l : List Sl) {q : Nat} (hl : s.2.2.2.1.length ≤ 1048576) (h : q + 1 ≤ 512) : F45 (S1 s l, (q : Int), 1, R0, ()) = (S1 s (putN l q 1), 0, ()) ∧ G45 (S1 s l, (q : Int), 1, R0, ()) = true := by
 have e : E45 (S1 s l, (q : Int), 1, R0, ()) = some (wst (S1 s l) q 1 R0) := E45_eq (s := S1 s l) (p := q) (k := 1) (r := R0) hl h (.inl rfl)
 rw [wst_R0] at e
 exact ofE e
theorem E23_eq {s : KD6} (hl : s.2.2.2.1.length ≤ 1048576) {p n : Nat} (hk : (s.1.getD 2 dR).1 = 3) (ho : onB (s.1.getD 2 dR).2.1 = ((p : Int), (true, ()))) (h : p + n ≤ 512) : Pl.E23 (s, (n : Int), ()) = some (S1 s (fl s.2.1 p n)) := by
 have hs := wh_steps (f := Pl.V23_0) (fun i => ((), (), (p : Int), (n : Int), ((i : Nat) : Int), S1 s (fl s.2.1 p i), zS, ())) n (fun i hi => by
  show Pl.R23_0 F19 G19 F24 G24 F45 G45 _ _ () () (p : Int) (n : Int) ((i : Nat) : Int) (S1 s (fl s.2.1 p i)) zS = _
  unfold Pl.R23_0
  have e1 : IntKind.wrap .i64 ((i : Int) + 1) = ((i + 1 : Nat) : Int) := by rw [wi64 (by omega)]; omega
  have e0 : IntKind.wrap .i64 (p : Int) = (p : Int) := wi64 (by omega)
  have e2 : IntKind.wrap .i64 (IntKind.wrap .i64 (p : Int) + (i : Int)) = ((p + i : Nat) : Int) := by rw [e0, wi64 (by omega)]; omega
  have h45 := F45_R0 (s := s) (fl s.2.1 p i) (q := p + i) hl (by omega)
  rw [decide_eq_true (show (i : Int) < (n : Int) by omega), e1, e2, h45.1, h45.2, G19_t]
  rfl)
 have he : wh Pl.V23_0 ((), (), (p : Int), (n : Int), 0, s, zS, ()) = some ((), (), S1 s (fl s.2.1 p n), zS, ()) := hs.trans (wh_stop (by
  show Pl.R23_0 F19 G19 F24 G24 F45 G45 _ _ () () (p : Int) (n : Int) ((n : Nat) : Int) (S1 s (fl s.2.1 p n)) zS = _
  unfold Pl.R23_0
  rw [decide_eq_false (Int.lt_irrefl _)]
  rfl))
 have hV : Pl.W23_0 ((), (), (p : Int), (n : Int), 0, s, zS, ()) = _ := whV_of (hd := Pl.hd23_0) (ys := Pl.ys23_0) (f := Pl.V23_0) he
 have hQ : Pl.Q23_0 ((), (), (p : Int), (n : Int), 0, s, zS, ()) = true := whK_of (hd := Pl.hd23_0) (ys := Pl.ys23_0) (f := Pl.V23_0) he
 show Pl.S23 F19 G19 F24 G24 F45 G45 Pl.W23_0 Pl.Q23_0 s (n : Int) = _
 unfold Pl.S23
 simp only [(F24_e _).1, (F24_e _).2, ho, hV, hQ, decide_eq_true hk]
 rfl
theorem E23_no {s : KD6} {n : Int} (hk : ¬ (s.1.getD 2 dR).1 = 3) : Pl.E23 (s, n, ()) = some s := by
 show Pl.S23 F19 G19 F24 G24 F45 G45 Pl.W23_0 Pl.Q23_0 s n = _
 unfold Pl.S23
 rw [decide_eq_false hk]
 rfl
theorem F25_mem {l : List Int} {v : Int} (hl : l.length ≤ 1048576) (h : F25 (l, v, ()) = true) : v ∈ l := by
 obtain ⟨y, hw, hy⟩ := lp_q (V := V46_0) (β := Unit ⊕ (Int × Unit)) (st := fun i => (l, v, ((l.length : Nat) : Int), (i : Int), ())) (N := l.length) (good := .inl ()) (Q := fun _ => True) (R := fun _ => v ∈ l)
  (by
   intro i hi
   have e1 : IntKind.wrap .i64 ((i : Int) + 1) = ((i + 1 : Nat) : Int) := by rw [wi64 (by omega)]; omega
   have hV : V46_0 (l, v, ((l.length : Nat) : Int), (i : Int), ()) = (bif decide (v = l.getD i 0) then some (.inr (.inr ((i : Int), ()))) else some (.inl (l, v, ((l.length : Nat) : Int), ((i + 1 : Nat) : Int), ()))) := by
    show R46_0 _ _ l v ((l.length : Nat) : Int) (i : Int) = _
    unfold R46_0
    rw [e1, show Int.toNat (i : Int) = i by omega, decide_eq_true (show (i : Int) < ((l.length : Nat) : Int) by omega), decide_eq_true (show 0 ≤ (i : Int) by omega)]
    rfl
   rw [hV]
   by_cases hv : v = l.getD i 0
   ·right
    rw [decide_eq_true hv]
    refine ⟨_, rfl, ?_⟩
    rw [hv, List.getD_eq_getElem?_getD, List.getElem?_eq_getElem hi]
    exact List.getElem_mem hi
   ·left
    rw [decide_eq_false hv]
    exact ⟨rfl, trivial⟩)
  (by
   show R46_0 _ _ l v ((l.length : Nat) : Int) ((l.length : Nat) : Int) = _
   unfold R46_0
   rw [decide_eq_false (Int.lt_irrefl _)]
   rfl) l.length 0 (by omega)
 rcases hy with ⟨rfl, _⟩ | hy
 ·exfalso
  have hV : W46_0 (l, v, ((l.length : Nat) : Int), 0, ()) = _ := whV_of (hd := hd46_0) (ys := ys46_0) (f := V46_0) hw
  have hQ : Q46_0 (l, v, ((l.length : Nat) : Int), 0, ()) = true := whK_of (hd := hd46_0) (ys := ys46_0) (f := V46_0) hw
  have e46 : E46 (l, v, ()) = some (-1) := by
   show S46 W46_0 Q46_0 l v = _
   unfold S46
   rw [hV, hQ]
   rfl
  have f46 := ofE (E := E46) (d := dflt (.int .i64)) e46
  have e25 : E25 (l, v, ()) = some false := by
   show S25 F46 G46 l v = _
   unfold S25
   rw [show F46 (l, v, ()) = -1 from f46.1, show G46 (l, v, ()) = true from f46.2]
   rfl
  have f25 : F25 (l, v, ()) = false := (ofE (E := E25) (d := dflt .bool) e25).1
  rw [f25] at h
  cases h
 ·exact hy
def RefR (s : KD6) (n : Int) (s' : KD6) (r : Rg) : Prop :=
 (n = 131 ∧ s'.2.2.2.1 = s.2.2.2.1 ++ [s'.2.2.2.2.1] ∧ r.2.2.2.1 = s'.2.2.2.2.1) ∨ ((n = 132 ∨ n = 133) ∧ s'.2.2.2.1 = wo (s.1.getD 1 dR).2.2.2.1 s.2.2.2.1 ∧ (s.1.getD 1 dR).2.2.2.1 ∈ s.2.2.2.1) ∨
  (n ≠ 131 ∧ n ≠ 132 ∧ n ≠ 133 ∧ s'.2.2.2.1 = s.2.2.2.1 ∧ (n = 12 → s.2.2.2.1 = []))
def Outc (s : KD6) (n : Int) (t : KD6) (e : Int) : Prop :=
 (e ≠ 0 ∧ t = zS) ∨ (e = 0 ∧ ∃ (s' : KD6) (r : Rg), t = (lset dR (cutIn dR s'.1 1 (List.replicate 5 dR)) 0 r, s'.2) ∧ r.1 ≠ 0 ∧
  (∀ i, s'.1.getD i dR = s.1.getD i dR ∨ s'.1.getD i dR = dR) ∧ s.2.2.2.2.1 ≤ s'.2.2.2.2.1 ∧ RefR s n s' r)
theorem mapS_reg {f : Rg → Rg} (hf : ∀ r, f r = r ∨ f r = dR) (s : KD6) (i : Nat) : (mapS f s).1.getD i dR = s.1.getD i dR ∨ (mapS f s).1.getD i dR = dR := by
 show (mp f s.1 11).getD i dR = _ ∨ (mp f s.1 11).getD i dR = dR
 rw [mp_getD]
 split
 ·exact hf _
 ·exact .inl rfl
theorem los_r (r : Rg) : los r = r ∨ los r = dR := by
 unfold los
 cases decide (r.1 = 4) || decide (r.1 = 5)
 ·exact .inl rfl
 ·exact .inr rfl
theorem frg_r (id : Int) (r : Rg) : frg id r = r ∨ frg id r = dR := by
 unfold frg
 cases decide (r.1 = 9) && decide (r.2.2.2.1 = id)
 ·exact .inl rfl
 ·exact .inr rfl
end Go.Proofs.Po
