import Derived.Test.YtfhpihomdnbgpaaNO
import Derived.Test.YtfhpihomdnbgpaaIQ
namespace Go.Proofs.Po
open Go.GX
set_option linter.unusedVariables false
set_option linter.unusedSimpArgs false
theorem bif_same {α : Type} {c : Bool} {x y z : α} (h1 : x = z) (h2 : y = z) : (bif c then x else y) = z := by cases c <;> assumption
theorem cut_getD (l : List Rg) : ∀ i, (cutIn dR l 1 (List.replicate 5 dR)).getD i dR = if 1 ≤ i ∧ i ≤ 5 then dR else l.getD i dR := by
 intro i
 show (l.getD 0 dR :: dR :: dR :: dR :: dR :: dR :: l.drop 6).getD i dR = _
 match i with
 | 0 => rfl
 | 1 => rfl
 | 2 => rfl
 | 3 => rfl
 | 4 => rfl
 | 5 => rfl
 | j + 6 =>
  rw [if_neg (by omega)]
  show (l.drop 6).getD j dR = _
  simp [List.getD, List.getElem?_drop, Nat.add_comm]
theorem out_getD (l : List Rg) (r : Rg) {i : Nat} (h : 1 ≤ i) : (lset dR (cutIn dR l 1 (List.replicate 5 dR)) 0 r).getD i dR = if i ≤ 5 then dR else l.getD i dR := by
 rw [lset_getD, if_neg (by omega), cut_getD]
 by_cases h5 : i ≤ 5
 ·rw [if_pos ⟨h, h5⟩, if_pos h5]
 ·rw [if_neg (by omega), if_neg h5]
theorem V3_step {s t : KD6} {i : Nat} (h1 : 1 ≤ i) (h2 : i ≤ 10) (ha : i ≤ 5 → t.1.getD i dR = dR) (hb : 5 < i → t.1.getD i dR = s.1.getD i dR ∨ t.1.getD i dR = dR) :
 V3_0 ((), (), (i : Int), s, t, ()) = some (.inl ((), (), ((i + 1 : Nat) : Int), s, t, ())) := by
 show R3_0 F6 G6 F7 G7 F8 G8 F9 G9 _ _ () () (i : Int) s t = _
 unfold R3_0
 have e1 : IntKind.wrap .i64 ((i : Int) + 1) = ((i + 1 : Nat) : Int) := by rw [wi64 (by omega)]; omega
 simp only [e1, show Int.toNat (i : Int) = i by omega, decide_eq_true (show (i : Int) ≤ 10 by omega), decide_eq_true (show i < 11 by omega), decide_eq_true (show 0 ≤ (i : Int) by omega), decide_eq_true (show (i : Int) < 11 by omega), cond_true]
 by_cases h5 : i ≤ 5
 ·rw [decide_eq_true (show (i : Int) ≤ 5 by omega), decide_eq_false (show ¬ (i : Int) > 5 by omega), ha h5]
  rfl
 ·rw [decide_eq_false (show ¬ (i : Int) ≤ 5 by omega), decide_eq_true (show (i : Int) > 5 by omega)]
  simp only [cond_true, cond_false]
  rcases hb (by omega) with h | h
  ·rw [h]
   simp only [decide_true]
   rfl
  ·rw [h]
   exact bif_same rfl rfl
theorem E3_eq {s : KD6} {m : List Sp} {n : Int} (w : WFv KT17 s) (hl : s.2.2.2.1.length ≤ 1048576) (hm : m.length ≤ 1048576) : E3 (s, m, n, ()) = some true := by
 have g6 := (F6_t s hl).1
 have g7 := G7_t m hm
 have a8 : F8 () = true ∧ G8 () = true := ⟨rfl, rfl⟩
 show S3 F6 G6 F7 G7 F8 G8 F9 G9 W3_0 Q3_0 s m n = _
 unfold S3
 simp only [g6, g7, a8.1, a8.2]
 cases h6 : F6 (s, ()) with
 | false => rfl
 | true =>
  cases F7 (m, ()) with
  | false => rfl
  | true =>
   obtain ⟨t, e, f9, g9, ho⟩ := oCall (s := s) (m := m) (n := n) (reg_nn w) hl ⟨(wf_i64 w.2.2.2.2.1).1, F6_i hl h6⟩
   simp only [f9, g9]
   rcases ho with ⟨he, rfl⟩ | ⟨rfl, s', r, rfl, h1, h2, h3, h4⟩
   ·rw [decide_eq_false he]
    have ez : eqb (.arr 11 KTq6) ([] : List Rg) [] = true := by kernel_rfl
    rw [show eqb (.arr 11 KTq6) zS.1 [] = true from ez]
    rfl
   ·generalize ht : ((lset dR (cutIn dR s'.1 1 (List.replicate 5 dR)) 0 r, s'.2) : KD6) = t
    have hreg : ∀ i, 1 ≤ i → t.1.getD i dR = if i ≤ 5 then dR else s'.1.getD i dR := fun i hi => by rw [← ht]; exact out_getD s'.1 r hi
    have h0 : t.1.getD 0 dR = r := by rw [← ht]; show (lset dR _ 0 r).getD 0 dR = r; rw [lset_getD, if_pos rfl]
    have hids : t.2.2.2.2.1 = s'.2.2.2.2.1 := by rw [← ht]
    have hs := wh_steps (f := V3_0) (fun i => ((), (), ((i + 1 : Nat) : Int), s, t, ())) 10 (fun i hi => V3_step (i := i + 1) (by omega) (by omega) (fun h5 => by rw [hreg _ (by omega), if_pos h5]) (fun h5 => by
     rw [hreg _ (by omega), if_neg (by omega)]
     exact h2 _))
    have he : wh V3_0 ((), (), 1, s, t, ()) = some (.inl ((), (), s, t, ())) := hs.trans (wh_stop (by rfl))
    have hV : W3_0 ((), (), 1, s, t, ()) = _ := whV_of (hd := hd3_0) (ys := ys3_0) (f := V3_0) he
    have hQ : Q3_0 ((), (), 1, s, t, ()) = true := whK_of (hd := hd3_0) (ys := ys3_0) (f := V3_0) he
    simp only [hV, hQ, getL]
    have h0 : (t.1.getD 0 (0, (((0, (0, ())), (0, (0, ()))), (0, (0, (0, ()))))) : Rg) = r := h0
    rw [h0, decide_eq_false h1, decide_eq_true (show t.2.2.2.2.1 ≥ s.2.2.2.2.1 by rw [hids]; exact h3)]
    rfl
theorem protoClears_pure (x0 : KD6) (w0 : WFv KT17 x0) (s0 : SZ 1048576 KT17 x0) (x1 : List Sp) (w1 : WFv (.vsl KT21) x1) (s1 : SZ 1048576 (.vsl KT21) x1) (x2 : Int) (w2 : WFv (.int .i64) x2) (s2 : SZ 1048576 (.int .i64) x2) :
 PureOK Try.prog 3 [⟨KT17, x0⟩, ⟨.vsl KT21, x1⟩, ⟨.int .i64, x2⟩] ⟨.bool, true⟩ := by
 have h : F3 (x0, x1, x2, ()) = true ∧ G3 (x0, x1, x2, ()) = true := ofE (E3_eq w0 s0.2.2.2.1.1 s1.1)
 have := p3 (x0, x1, x2, ()) h.2
 rw [h.1] at this
 exact this
end Go.Proofs.Po
