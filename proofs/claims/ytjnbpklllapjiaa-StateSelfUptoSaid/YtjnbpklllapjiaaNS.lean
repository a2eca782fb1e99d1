import Derived.Test.YtjnbpklllapjiaaNG
import Derived.Test.YtjnbpklllapjiaaIB
namespace Go.Proofs
open Go.GX
set_option linter.unusedVariables false
set_option linter.unusedSimpArgs false
/-! ## A state covers itself, and a copy of it is another one's memory -/
theorem E15g_eq {a : KD6} (hl : a.2.2.2.1.length ≤ 1048576) : E15g (a, ()) = some a := by
  show S15g F36g G36g a = some a
  unfold S15g
  have h1 : ∀ l : List Int, F36g (l, ()) = l := fun _ => rfl
  have h2 : G36g (a.2.2.2.1, ()) = true := decide_eq_true (show a.2.2.2.1.length * 8 ≤ 140737488355328 by omega)
  simp only [seI_eq, flI_eq, fl0_eq, seO_eq, h1, h2]
  rfl
theorem F15g_e {a : KD6} (hl : a.2.2.2.1.length ≤ 1048576) : F15g (a, ()) = a ∧ G15g (a, ()) = true := ofE (E15g_eq hl)
def withR (c : KD6) (R : List Int) : KD6 := (c.1, (c.2.1, (c.2.2.1, (R, (c.2.2.2.2.1, c.2.2.2.2.2)))))
theorem withR_self (c : KD6) : withR c c.2.2.2.1 = c := rfl
def incK (l : List Int) : Nat → List Int
  | 0 => l
  | k + 1 => (incK l k).set k (IntKind.wrap .i64 ((incK l k).getD k 0 + 1))
theorem incK_len (l : List Int) : ∀ k, (incK l k).length = l.length
  | 0 => rfl
  | k + 1 => by rw [incK, List.length_set, incK_len l k]
theorem V40 {s c : KD6} {l : List Int} (hl : l.length ≤ 1048576) {k : Nat} (hk : k < l.length) :
    V4_0 ((), (), (k : Int), s, withR c (incK l k), ()) = some (.inl ((), (), ((k + 1 : Nat) : Int), s, withR c (incK l (k + 1)), ())) := by
  show R4_0 _ _ _ _ _ _ _ _ _ _ _ _ _ _ () () (k : Int) s (withR c (incK l k)) = _
  unfold R4_0
  have hlen : (withR c (incK l k)).2.2.2.1.length = l.length := incK_len l k
  have hrow : (withR c (incK l k)).2.2.2.1 = incK l k := rfl
  have h1 : (k : Int) < ((l.length : Nat) : Int) := by omega
  have h2 : (0 : Int) ≤ (k : Int) := by omega
  have hw : IntKind.wrap .i64 ((k : Int) + 1) = ((k + 1 : Nat) : Int) := by rw [wi64 (by omega)]; omega
  have hn : Int.toNat (k : Int) = k := by omega
  simp only [flI_eq, fl0_eq, Dk.reI_eq, hlen, hw, hn, Nat.zero_add]
  rw [bif_t (decide_eq_true h1), bif_t (by simp [tt_eq, h1, h2, hk])]
  have e : sec 0 (lset 0 (withR c (incK l k)).2.2.2.1 k (IntKind.wrap .i64 ((withR c (incK l k)).2.2.2.1.getD k 0 + 1))) 0 l.length = incK l (k + 1) := by
    rw [hrow, lset_eq (by rw [incK_len]; exact hk), sec_full (by rw [List.length_set, incK_len])]
    rfl
  rw [e]
  rfl
theorem V40e {s c : KD6} {R : List Int} {k : Nat} (hk : k = R.length) : V4_0 ((), (), (k : Int), s, withR c R, ()) = some (.inr ((), (), s, withR c R, ())) := by
  show R4_0 _ _ _ _ _ _ _ _ _ _ _ _ _ _ () () (k : Int) s (withR c R) = _
  unfold R4_0
  have hlen : (withR c R).2.2.2.1.length = R.length := rfl
  simp only [flI_eq, fl0_eq, Dk.reI_eq, Dk.reO_eq, hlen]
  rw [bif_f (decide_eq_false (by omega))]
  rfl
theorem W40 {s c : KD6} (hl : c.2.2.2.1.length ≤ 1048576) : W4_0 ((), (), 0, s, c, ()) = ((), (), s, withR c (incK c.2.2.2.1 c.2.2.2.1.length), ()) ∧ Q4_0 ((), (), 0, s, c, ()) = true := by
  have hs := wh_steps (f := V4_0) (fun i => ((), (), ((i : Nat) : Int), s, withR c (incK c.2.2.2.1 i), ())) c.2.2.2.1.length (fun i h => V40 hl h)
  have he : wh V4_0 ((), (), (0 : Int), s, c, ()) = some ((), (), s, withR c (incK c.2.2.2.1 c.2.2.2.1.length), ()) := hs.trans (wh_stop (V40e (incK_len _ _).symm))
  exact ⟨whV_of he, whK_of he⟩
theorem wrap_ne (x : Int) : IntKind.wrap .i64 (x + 1) ≠ x := by
  rw [wrap_i64]
  split <;> omega
theorem incK_zero {l : List Int} (hp : 0 < l.length) : ∀ k, (incK l (k + 1)).getD 0 0 = IntKind.wrap .i64 (l.getD 0 0 + 1)
  | 0 => by
    show (l.set 0 (IntKind.wrap .i64 (l.getD 0 0 + 1))).getD 0 0 = _
    simp [List.getD, hp]
  | k + 1 => by
    show ((incK l (k + 1)).set (k + 1) _).getD 0 0 = _
    rw [← incK_zero hp k]
    simp [List.getD]
theorem incK_ne {l : List Int} (hp : 0 < l.length) : incK l l.length ≠ l := by
  intro e
  have h1 := incK_zero hp (l.length - 1)
  rw [show l.length - 1 + 1 = l.length by omega, e] at h1
  exact wrap_ne _ h1.symm
theorem E4_eq {a : KD6} (wa : WFv KT27 a) (ha : a.2.2.2.1.length ≤ 1048576) : E4 (a, ()) = some true := by
  obtain ⟨g7a, q7a⟩ := F7_t a ha
  have a8 : F8 () = true ∧ G8 () = true := ⟨rfl, rfl⟩
  show S4 F7 G7 F8 G8 F9 G9 F10 G10 F11 G11 F15g G15g W4_0 Q4_0 a = _
  unfold S4
  simp only [Dk.reI_eq, Dk.reO_eq, flI_eq, flO_eq, fl0_eq]
  rw [g7a, a8.1, a8.2]
  cases h7a : F7 (a, ()) with
  | false => rfl
  | true =>
    have oa := OkS_of wa ha (q7a h7a)
    obtain ⟨w1, w2⟩ := W40 (s := a) (c := a) ha
    rw [(F9_e ha).1, (F9_e ha).2, (F10_e oa oa).1, (F10_e oa oa).2, (F15g_e ha).1, (F15g_e ha).2, (F11_e ha).1, (F11_e ha).2, w1, w2, sameV_self]
    have hlr : (withR a (incK a.2.2.2.1 a.2.2.2.1.length)).2.2.2.1.length = a.2.2.2.1.length := incK_len _ _
    have hl2 : (withR a (incK a.2.2.2.1 a.2.2.2.1.length)).2.2.2.1.length ≤ 1048576 := by rw [hlr]; exact ha
    simp only [(F11_e hl2).1, (F11_e hl2).2, hlr]
    by_cases h0 : a.2.2.2.1.length = 0
    · rw [h0]
      cases hv : inV a a <;> simp [tt_eq]
    · have hne : sameV (withR a (incK a.2.2.2.1 a.2.2.2.1.length)) a = false := by
        have : decide ((withR a (incK a.2.2.2.1 a.2.2.2.1.length)).2.2.2.1 = a.2.2.2.1) = false := decide_eq_false (incK_ne (by omega))
        unfold sameV
        rw [this]
        simp
      rw [hne]
      have h1 : decide (((a.2.2.2.1.length : Nat) : Int) = 0) = false := decide_eq_false (by omega)
      cases hv : inV a a <;> simp [tt_eq, h1, h0]
theorem stateSelf_pure (x0 : KD6) (w0 : WFv KT27 x0) (s0 : SZ 1048576 KT27 x0) : PureOK Try.prog 4 [⟨KT27, x0⟩] ⟨.bool, true⟩ := by
  have hl : x0.2.2.2.1.length ≤ 1048576 := s0.2.2.2.1.1
  have h : F4 (x0, ()) = true ∧ G4 (x0, ()) = true := ofE (E4_eq w0 hl)
  have := p4 (x0, ()) h.2
  rw [h.1] at this
  exact this
end Go.Proofs
