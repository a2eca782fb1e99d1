/- The statement ProtoClearsUpto: behind a call registers 1 to 5 hold nothing, 6 to 9 what they held or nothing, register 0 what is given. Condition: what comes in is of bulk at most 1048576. -/
import Derived.Test.YtfhpihomdnbgpaaRows
import Derived.Test.YtfhpihomdnbgpaaNQ
import Derived.WalkKit
import Derived.ProofKit
import Derived.OpenShut
import Derived.ShutString
import Derived.ChangeOld
import Derived.Below
import Derived.SizedLaws
import Derived.Carry
import Derived.JoinedCond
namespace Go.Proofs.Ytfhpihomdnbgpaa.protoClearsUpto
open Go.ChangeShapes Go.WideShapes Go.ChangeAt Go.RowKit Go.GX
open Go.ChangeMaps (open_string shut_string)
set_option linter.unusedVariables false
theorem own : ownKnob Try.prog.godebug = none := by kernel_rfl
theorem laidOut : laidOutB Try.prog = true := by kernel_rfl
theorem one_le {H : Type} (d : DataW H) : 1 ≤ Rows.uptoBulk d := by
  cases d with
  | lit l => cases l <;> simp [Rows.uptoBulk]
  | nil => simp [Rows.uptoBulk]
  | ptr d => simp [Rows.uptoBulk]
  | slice elems spare => simp [Rows.uptoBulk]
  | agg parts => simp [Rows.uptoBulk]
  | iface t d => simp [Rows.uptoBulk]
  | map entries => simp [Rows.uptoBulk]
  | held h => simp [Rows.uptoBulk]
theorem part_le {H : Type} {d : DataW H} {l : List (DataW H)} (h : d ∈ l) : Rows.uptoBulk d ≤ Rows.uptoBulkAll l := by
  induction l with
  | nil => cases h
  | cons x r ih =>
    simp only [Rows.uptoBulkAll]
    cases List.mem_cons.1 h with
    | inl e => subst e; omega
    | inr e => have := ih e; omega
theorem length_le {H : Type} (l : List (DataW H)) : l.length ≤ Rows.uptoBulkAll l := by
  induction l with
  | nil => simp [Rows.uptoBulkAll]
  | cons x r ih => have := one_le x; simp only [Rows.uptoBulkAll, List.length_cons]; omega
theorem bulk {H : Type} : Bulk (H := H) Rows.uptoBulk :=
  ⟨fun s => by simp only [Rows.uptoBulk]; omega, fun e r => by have := length_le e; simp only [Rows.uptoBulk]; omega,
   fun e r d hd => by have := part_le hd; simp only [Rows.uptoBulk]; omega, fun l d hd => by have := part_le hd; simp only [Rows.uptoBulk]; omega⟩
set_option maxRecDepth 100000 in
theorem lifted (os : Os) (started : os.Started) (H : Type) (enc : TypeId × Value → H) (F : Stop.Interp) :
    ReturnsInHanded {} Try.checked os 3 .any ((Rows.OpenSpec.upto Rows.protoClearsSpec).pre6 enc Try.prog Try.f3 Rows.protoClearsUptoRow.domain false) (((Rows.OpenSpec.upto Rows.protoClearsSpec).at F).post enc Try.prog Try.f3 false true false false) := by
  refine returnsInHanded_of_cond (C := Try.checked) (s := Rows.OpenSpec.upto Rows.protoClearsSpec) (k := Rows.uptoSmall) rfl own started (by kernel_rfl) Try.func3
    (OpenSpec.witness (enc := enc) (C := Try.checked) (s := Rows.OpenSpec.upto Rows.protoClearsSpec) (k := Rows.uptoSmall) rfl false ⟨#[], #[.agg ⟨(List.replicate 11 [.int .i64 0, .int .u64 0, .int .u64 0, .int .u64 0, .int .u64 0, .int .i64 0, .int .i64 0, .int .i64 0]).flatten ++ (List.replicate 64 [.int .i64 0, .int .i64 0, .int .i64 0, .int .u64 0, .int .u64 0, .int .u64 0, .int .u64 0, .int .i64 0, .int .i64 0, .int .i64 0]).flatten ++ [.int .i64 0, .slice none 0 0, .int .i64 0]⟩, .slice none 0 0, .int .i64 0], []⟩ 8 (by kernel_rfl) (by kernel_rfl) (by kernel_rfl)
      (x := ([.agg [.agg (List.replicate 11 (.agg [.lit (.int .i64 0), .agg [.agg [.lit (.int .u64 0), .lit (.int .u64 0)], .lit (.int .u64 0), .lit (.int .u64 0)], .lit (.int .i64 0), .lit (.int .i64 0), .lit (.int .i64 0)])), .agg (List.replicate 64 (.agg [.lit (.int .i64 0), .lit (.int .i64 0), .agg [.lit (.int .i64 0), .agg [.agg [.lit (.int .u64 0), .lit (.int .u64 0)], .lit (.int .u64 0), .lit (.int .u64 0)], .lit (.int .i64 0), .lit (.int .i64 0), .lit (.int .i64 0)]])), .lit (.int .i64 0), .nil, .lit (.int .i64 0)], .nil, .lit (.int .i64 0)], [], [])) (by kernel_rfl) rfl (by kernel_rfl)) ?_
  intro W base args ds gs before hval0 hW _ hk _
  have hval : ∀ (j : Nat) t v, Try.f3.params[j]? = some t → args[j]? = some v → Value.okWide Try.prog W .any base t v := hval0
  have hW' := hW
  obtain ⟨p, q, hA0, hV, rfl, hfz, hnd⟩ := hW
  have hA : DataW.TrodAll enc Try.prog W 0 (fun _ => true) true Try.f3.params.toList args.toList ds p := hA0
  rw [Try.params3] at hA hval
  obtain ⟨v0, vs0, d0, ds0, p0, q0, hargs, rfl, rfl, h0, r0⟩ := trodAll_cons hA
  obtain ⟨v1, vs1, d1, ds1, p1, q1, rfl, rfl, rfl, h1, r1⟩ := trodAll_cons r0
  obtain ⟨v2, vs2, d2, ds2, p2, q2, rfl, rfl, rfl, h2, r2⟩ := trodAll_cons r1
  obtain ⟨rfl, rfl, rfl⟩ := trodAll_nil r2
  obtain rfl : args = #[v0, v1, v2] := by cases args; simp_all
  obtain ⟨rfl, rfl⟩ := trodVars_none hV
  have hbig : Rows.uptoBulkAll [d0, d1, d2] ≤ 1048576 := of_decide_eq_true hk
  have lt0 : ∀ x ∈ p0, x.block < W.heap.size := by obtain ⟨m, hm⟩ := h0; exact DataW.trod_lt m _ _ _ hm
  obtain ⟨x0, w0, s0, c0⟩ := open_val bulk Try.tabOK (t := 35) (ti := ⟨(.pair (.arr 11 (.pair (.int .i64) (.pair (.pair (.pair (.int .u64) (.pair (.int .u64) .unit)) (.pair (.int .u64) (.pair (.int .u64) .unit))) (.pair (.int .i64) (.pair (.int .i64) (.pair (.int .i64) .unit)))))) (.pair (.arr 64 (.pair (.int .i64) (.pair (.int .i64) (.pair (.pair (.int .i64) (.pair (.pair (.pair (.int .u64) (.pair (.int .u64) .unit)) (.pair (.int .u64) (.pair (.int .u64) .unit))) (.pair (.int .i64) (.pair (.int .i64) (.pair (.int .i64) .unit))))) .unit)))) (.pair (.int .i64) (.pair (.vsl (.int .i64)) (.pair (.int .i64) .unit))))), 5864, [29, 32, 3, 33, 3], false⟩) (by kernel_rfl) (by kernel_rfl) (hval 0 35 v0 rfl rfl) h0
  have s0 := s0 1048576 (Nat.le_trans (part_le (by simp)) hbig)
  have lt1 : ∀ x ∈ p1, x.block < W.heap.size := by obtain ⟨m, hm⟩ := h1; exact DataW.trod_lt m _ _ _ hm
  obtain ⟨x1, w1, s1, c1⟩ := open_val bulk Try.tabOK (t := 36) (ti := ⟨(.vsl (.pair (.int .i64) (.pair (.int .i64) (.pair (.int .i64) (.pair (.int .i64) .unit))))), 24, [51], false⟩) (by kernel_rfl) (by kernel_rfl) (hval 1 36 v1 rfl rfl) h1
  have s1 := s1 1048576 (Nat.le_trans (part_le (by simp)) hbig)
  have lt2 : ∀ x ∈ p2, x.block < W.heap.size := by obtain ⟨m, hm⟩ := h2; exact DataW.trod_lt m _ _ _ hm
  obtain ⟨x2, w2, s2, c2⟩ := open_val bulk Try.tabOK (t := 3) (ti := ⟨(.int .i64), 8, [], true⟩) (by kernel_rfl) (by kernel_rfl) (hval 2 3 v2 rfl rfl) h2
  have s2 := s2 1048576 (Nat.le_trans (part_le (by simp)) hbig)
  clear hA0 hval0
  refine (law_calls (Go.Proofs.protoClears_pure x0 w0 s0 x1 w1 s1 x2 w2 s2) W (ARL.cons c0 (ARL.cons c1 (ARL.cons c2 ARL.nil)))).mono fun e W' ⟨he, bel⟩ => ?_
  subst he
  exact ⟨_, rfl, _, _, _, [], _, [], hW', trodAll_mk1 (shut_bool Try.underlying4 _), (trodAll_cons_mk (Below.trod laidOut (by kernel_rfl) (of_decide_eq_true (by kernel_rfl)) h0 bel lt0) (trodAll_cons_mk (Below.trod laidOut (by kernel_rfl) (of_decide_eq_true (by kernel_rfl)) h1 bel lt1) (trodAll_cons_mk (Below.trod laidOut (by kernel_rfl) (of_decide_eq_true (by kernel_rfl)) h2 bel lt2) trodAll_mk0))), rfl, bel.frame _, fun h => by cases h⟩
theorem proved : Rows.ProtoClearsUptoSaid :=
  OpenClaim.holds_of_cond 3 Try.f3 rfl rfl rfl rfl rfl rfl rfl ⟨rfl, rfl, rfl, rfl, rfl⟩ rfl rfl rfl rfl rfl (by kernel_rfl) Try.func3 (by kernel_rfl)
    (of_decide_eq_true (by kernel_rfl)) (by unfold Func.isWrapper; first | (rw [if_pos (by decide +kernel)]; kernel_rfl) | (rw [if_neg (by decide +kernel)]; exact ⟨rfl, rfl⟩))
    (fun os started H enc _ F => lifted os started H enc F)
end Go.Proofs.Ytfhpihomdnbgpaa.protoClearsUpto
namespace Go.Proofs.Ytfhpihomdnbgpaa
theorem protoClearsUpto_holds : Rows.ProtoClearsUptoSaid := protoClearsUpto.proved
#print axioms protoClearsUpto_holds
end Go.Proofs.Ytfhpihomdnbgpaa

