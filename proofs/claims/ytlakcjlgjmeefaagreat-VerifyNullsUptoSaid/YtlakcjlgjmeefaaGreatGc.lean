import Derived.Test.YtlakcjlgjmeefaaGreatGb
import Derived.LoopN
import Derived.Scope
import Derived.WalkKit
import Derived.ProofKit
import Derived.OpenShut
import Derived.ShutString
import Derived.ChangeOld
import Derived.SizedLaws
/-! An executor for translated code over abstract states, and its soundness. -/
namespace Go.GX
set_option linter.unusedSimpArgs false
set_option linter.unusedVariables false
set_option linter.unusedSectionVars false
open Go.RowKit (Below)
theorem opv_memFree {Θ : Tab} {tm : TM} {mem mem' : Mem} {o : Oper} (h : memFree o.op = true) : opv Θ tm mem o = opv Θ tm mem' o := by
  obtain ⟨dst, op, type, pos, after, guard⟩ := o
  unfold opv
  cases op <;> first | (cases h; done) | (simp only [opn, opm, opv0]; done)
theorem tameX_memFree {Θ : Tab} {K : Kn} {tm : TM} {mem mem' : Mem} {nxt nxt' : Nat} {o : Oper} (h : memFree o.op = true) : tameX Θ K tm mem nxt o = tameX Θ K tm mem' nxt' o := by
  unfold tameX
  rw [opv_memFree h (mem' := mem')]
  cases hv : opv Θ tm mem' o with
  | some r => rfl
  | none =>
    obtain ⟨dst, op, type, pos, after, guard⟩ := o
    cases op <;> first | (cases h; done) | rfl
theorem opx_congr {Θ : Tab} {K : Kn} {tm tm' : TM} {mem : Mem} {nxt : Nat} {o : Oper} (h : ∀ x ∈ o.op.operands, rd tm x = rd tm' x) : opx Θ K tm mem nxt o = opx Θ K tm' mem nxt o := by
  unfold opx
  obtain ⟨dst, op, type, pos, after, guard⟩ := o
  cases op
  case store t a x => simp only [opxI]; rw [h a (by simp [Op.operands]), h x (by simp [Op.operands])]
  case call c =>
    obtain ⟨callee, args, ts⟩ := c
    cases callee
    case value f =>
      simp only [opxI]
      rw [h f (by simp [Op.operands, Call.operands]), rds_congr (tm' := tm') (fun x hx => h x (by simp [Op.operands, Call.operands] at hx ⊢; exact .inr hx))]
    case builtin b =>
      cases b <;> try rfl
      case copy =>
        simp only [opxI]
        rw [copX_congr (tm' := tm') (fun x hx => h x (by simp [Op.operands, Call.operands] at hx ⊢; exact hx))]
      case clear =>
        simp only [opxI]
        rw [clrX_congr (tm' := tm') (fun x hx => h x (by simp [Op.operands, Call.operands] at hx ⊢; exact hx))]
      simp only [opxI]
      rw [appX_congr (tm' := tm') (fun x hx => h x (by simp [Op.operands, Call.operands] at hx ⊢; exact hx))]
    all_goals rfl
  all_goals exact opxI_congr (fun _ _ _ => by simp) rfl h
theorem putV_get {tm tm' : TM} {n : Nat} {dst : Option Tmp} {v : V} {g : Bool} (hn : n ≤ 1000000) (h : putV tm n dst (some v) g = some tm') :
    (∀ s, dst ≠ some s → tm'.get s = tm.get s) ∧ (∀ d, dst = some d → tm'.get d = some (v, g) ∧ d < n) := by
  unfold putV at h
  split at h
  · cases h; exact ⟨fun _ _ => rfl, fun d e => by cases e⟩
  · rename_i d
    cases hd : Nat.blt d n <;> rw [hd] at h
    · cases h
    · have hd : d < n := Nat.le_of_ble_eq_true hd
      simp only [cond_true] at h
      cases h
      have hp : ∀ m, (Tr.set tm d (v, g)).get m = if m = d then some (v, g) else tm.get m := fun m => Tr.get_put_eq 40 tm d (v, g) m (Nat.lt_of_lt_of_le (Nat.succ_lt_succ (Nat.lt_of_lt_of_le hd hn)) (by decide))
      exact ⟨fun s hs => by rw [hp, if_neg (fun e => hs (by rw [e]))], fun d' e => by cases e; exact ⟨by rw [hp, if_pos rfl], hd⟩⟩
def frE (Θ : Tab) (tm : TM) (o : Oper) : Bool := match opn Θ tm o with | some _ => true | none => memFree o.op
def opE (Θ : Tab) (K : Kn) (st : St) (o : Oper) : Option (St × (Bool × Bool)) :=
  match tameX Θ K st.tm st.mem st.nxt o with
  | some (v, c) => match putV st.tm st.n o.dst (some v) true with | some tm => some (⟨tm, st.n, st.mem, st.nxt, c && st.ok⟩, (false, frE Θ st.tm o)) | none => none
  | none => match opx Θ K st.tm st.mem st.nxt o with
    | some r => match putV st.tm st.n o.dst r.v true with | some tm => some (⟨tm, st.n, r.mem, r.nxt, r.ok && st.ok⟩, (true, false)) | none => none
    | none => none
def opN (st : St) (o : Oper) : Option (St × (Bool × Bool)) := match putV st.tm st.n o.dst (some dummy) false with | some tm => some (⟨tm, st.n, st.mem, st.nxt, st.ok⟩, (false, true)) | none => none
def opZ (Θ : Tab) (K : Kn) (ops : List Oper) (st : St) (o : Oper) : Option (St × (Bool × Bool)) :=
  match o.guard with
  | none => opE Θ K st o
  | some (j, want) => match guardV st.tm ops j want with
    | none => none
    | some true => opE Θ K st o
    | some false => opN st o
def runZ (Θ : Tab) (K : Kn) (ops : List Oper) : List Oper → St → Option (St × List (Bool × Bool))
  | [], st => some (st, [])
  | o :: r, st => match opZ Θ K ops st o with
    | some (st', b) => match runZ Θ K ops r st' with | some (s, l) => some (s, b :: l) | none => none
    | none => none
def strictZ (pr : List Nat) (ops : List Oper) (fl : List (Bool × Bool)) : Bool :=
  allIdx (fun k b => allIdx (fun i a => !(Nat.blt i k) || (((fl.getD i (true, false)).2 || ((fl.getD k (true, false)).2 || (!(fl.getD i (true, false)).1 && !(fl.getD k (true, false)).1))) || (pr.getD k 0).testBit i)) ops 0) ops 0
structure RunZ (Θ : Tab) (K : Kn) (st : St) (o : Oper) (st' : St) (v : Option V) (b : Bool × Bool) : Prop where
  n : st'.n = st.n
  oth : ∀ s, o.dst ≠ some s → st'.tm.get s = st.tm.get s
  own : ∀ d, o.dst = some d → ∃ u, v = some u ∧ st'.tm.get d = some (u, true) ∧ d < st.n
  quiet : b.1 = false → ∃ u, v = some u ∧ tameX Θ K st.tm st.mem st.nxt o = some (u, true) ∧ st'.mem = st.mem ∧ st'.nxt = st.nxt
  acts : b.1 = true → b.2 = false ∧ ∃ r, opx Θ K st.tm st.mem st.nxt o = some r ∧ r.ok = true ∧ v = r.v ∧ st'.mem = r.mem ∧ st'.nxt = r.nxt
  free : b.2 = true → ∃ u, v = some u ∧ ∀ tms mem nxt, (∀ x ∈ o.op.operands, rd st.tm x = rd tms x) → tameX Θ K tms mem nxt o = some (u, true)
  ok : st.ok = true
theorem free_tame {Θ : Tab} {K : Kn} {st : St} {o : Oper} {v : V} {c : Bool} (hv : tameX Θ K st.tm st.mem st.nxt o = some (v, c)) (hf : frE Θ st.tm o = true) {tms : TM} {mem : Mem} {nxt : Nat} (hop : ∀ x ∈ o.op.operands, rd st.tm x = rd tms x) :
    tameX Θ K tms mem nxt o = some (v, c) := by
  unfold frE at hf
  rw [← tameX_congr (tm := st.tm) hop]
  split at hf
  · rename_i r hr
    have e : ∀ (mem : Mem) (nxt : Nat), tameX Θ K st.tm mem nxt o = some r := fun mem nxt => by unfold tameX opv; rw [hr]
    rw [e] at hv ⊢
    exact hv
  · rw [tameX_memFree hf (mem' := st.mem) (nxt' := st.nxt)]; exact hv
theorem opE_runZ {Θ : Tab} {K : Kn} {st st' : St} {o : Oper} {b : Bool × Bool} (hn : st.n ≤ 1000000) (h : opE Θ K st o = some (st', b)) (hok : st'.ok = true) : ∃ v, RunZ Θ K st o st' v b := by
  unfold opE at h
  split at h
  · rename_i v c hv
    split at h
    · rename_i tm ht
      simp only [Option.some.injEq, Prod.mk.injEq] at h
      obtain ⟨rfl, rfl⟩ := h
      obtain ⟨rfl, hok2⟩ := and_split hok
      obtain ⟨h1, h2⟩ := putV_get hn ht
      exact ⟨some v, rfl, h1, fun d hd => ⟨v, rfl, (h2 d hd).1, (h2 d hd).2⟩, fun _ => ⟨v, rfl, hv, rfl, rfl⟩, fun e => (by cases e), fun hf => ⟨v, rfl, fun tms mem nxt hop => free_tame hv hf hop⟩, hok2⟩
    · cases h
  · rename_i hv
    split at h
    · rename_i r hx
      split at h
      · rename_i tm ht
        simp only [Option.some.injEq, Prod.mk.injEq] at h
        obtain ⟨rfl, rfl⟩ := h
        obtain ⟨hrok, hok2⟩ := and_split hok
        cases hrv : r.v with
        | some u =>
          rw [hrv] at ht
          obtain ⟨h1, h2⟩ := putV_get hn ht
          exact ⟨some u, rfl, h1, fun d hd => ⟨u, rfl, (h2 d hd).1, (h2 d hd).2⟩, fun e => (by cases e), fun _ => ⟨rfl, r, hx, hrok, hrv.symm, rfl, rfl⟩, fun e => (by cases e), hok2⟩
        | none =>
          rw [hrv] at ht
          unfold putV at ht
          cases hd : o.dst with
          | none =>
            rw [hd] at ht
            cases ht
            exact ⟨none, rfl, fun _ _ => rfl, fun d e => (by rw [hd] at e; cases e), fun e => (by cases e), fun _ => ⟨rfl, r, hx, hrok, hrv.symm, rfl, rfl⟩, fun e => (by cases e), hok2⟩
          | some d =>
            rw [hd] at ht
            simp only at ht
            cases hb : Nat.blt d st.n <;> rw [hb] at ht <;> cases ht
      · cases h
    · cases h
theorem opE_mono {Θ : Tab} {K : Kn} {st st' : St} {o : Oper} {b : Bool × Bool} (h : opE Θ K st o = some (st', b)) (hok : st'.ok = true) : st.ok = true := by
  unfold opE at h
  split at h
  · split at h
    · simp only [Option.some.injEq, Prod.mk.injEq] at h
      obtain ⟨rfl, _⟩ := h
      exact (and_split hok).2
    · cases h
  · split at h
    · split at h
      · simp only [Option.some.injEq, Prod.mk.injEq] at h
        obtain ⟨rfl, _⟩ := h
        exact (and_split hok).2
      · cases h
    · cases h
theorem opZ_mono {Θ : Tab} {K : Kn} {ops : List Oper} {st st' : St} {o : Oper} {b : Bool × Bool} (h : opZ Θ K ops st o = some (st', b)) (hok : st'.ok = true) : st.ok = true := by
  unfold opZ at h
  split at h
  · exact opE_mono h hok
  · split at h
    · cases h
    · exact opE_mono h hok
    · unfold opN at h
      split at h
      · simp only [Option.some.injEq, Prod.mk.injEq] at h
        obtain ⟨rfl, _⟩ := h
        exact hok
      · cases h
theorem runZ_states {Θ : Tab} {K : Kn} {ops : List Oper} : ∀ {l : List Oper} {st stN : St} {fl : List (Bool × Bool)}, runZ Θ K ops l st = some (stN, fl) → ∃ F : Nat → St, F 0 = st ∧ F l.length = stN ∧ ∀ (k : Nat) o, l[k]? = some o → opZ Θ K ops (F k) o = some (F (k + 1), fl.getD k (true, false))
  | [], st, stN, fl, h => by
    simp only [runZ, Option.some.injEq, Prod.mk.injEq] at h
    obtain ⟨rfl, rfl⟩ := h
    exact ⟨fun _ => st, rfl, rfl, fun k o hk => by simp at hk⟩
  | o :: r, st, stN, fl, h => by
    simp only [runZ] at h
    split at h
    · rename_i st' b hs
      split at h
      · rename_i s l hr
        simp only [Option.some.injEq, Prod.mk.injEq] at h
        obtain ⟨rfl, rfl⟩ := h
        obtain ⟨F, h0, hN, hk⟩ := runZ_states hr
        refine ⟨fun k => match k with | 0 => st | k + 1 => F k, rfl, by simpa using hN, fun k o' hk' => ?_⟩
        cases k with
        | zero => simp at hk'; subst hk'; show opZ Θ K ops st o = some (F 0, b); rw [h0]; exact hs
        | succ k => exact hk k o' (by simpa using hk')
      · cases h
    · cases h
structure SkipZ (st : St) (o : Oper) (st' : St) : Prop where
  n : st'.n = st.n
  oth : ∀ s, o.dst ≠ some s → st'.tm.get s = st.tm.get s
  own : ∀ d, o.dst = some d → st'.tm.get d = some (dummy, false) ∧ d < st.n
  mem : st'.mem = st.mem ∧ st'.nxt = st.nxt
  ok : st.ok = true
theorem opZ_cases {Θ : Tab} {K : Kn} {ops : List Oper} {st st' : St} {o : Oper} {b : Bool × Bool} (hn : st.n ≤ 1000000) (h : opZ Θ K ops st o = some (st', b)) (hok : st'.ok = true) :
    (∃ v, RunZ Θ K st o st' v b ∧ ∀ j want, o.guard = some (j, want) → guardV st.tm ops j want = some true) ∨ (SkipZ st o st' ∧ b.1 = false ∧ ∃ j want, o.guard = some (j, want) ∧ guardV st.tm ops j want = some false) := by
  unfold opZ at h
  split at h
  · rename_i hg
    obtain ⟨v, hv⟩ := opE_runZ hn h hok
    exact .inl ⟨v, hv, fun j want e => by rw [hg] at e; cases e⟩
  · rename_i j want hg
    split at h
    · cases h
    · rename_i hgv
      obtain ⟨v, hv⟩ := opE_runZ hn h hok
      exact .inl ⟨v, hv, fun j' want' e => by rw [hg] at e; cases e; exact hgv⟩
    · rename_i hgv
      unfold opN at h
      split at h
      · rename_i tm ht
        simp only [Option.some.injEq, Prod.mk.injEq] at h
        obtain ⟨rfl, rfl⟩ := h
        obtain ⟨h1, h2⟩ := putV_get hn ht
        exact .inr ⟨⟨rfl, h1, h2, ⟨rfl, rfl⟩, hok⟩, rfl, j, want, hg, hgv⟩
      · cases h
end Go.GX

namespace Go.GX
set_option linter.unusedSimpArgs false
set_option linter.unusedVariables false
set_option linter.unusedSectionVars false
open Go.RowKit (Below)
variable [DefL]
def pendZ (ops : Array Oper) (listed : Array Bool) (s : Nat) : Bool := (List.range ops.size).any fun j => (match ops[j]? with | some o => o.dst == some s | none => false) && !listed.getD j false
def mixZ (tm0 tmN : TM) (ops : Array Oper) (listed : Array Bool) : TM := tm0.mix (pendZ ops listed) tmN 1 0
theorem mixZ_get {tm0 tmN : TM} {ops : Array Oper} {listed : Array Bool} (s : Nat) : (mixZ tm0 tmN ops listed).get s = bif pendZ ops listed s then tm0.get s else tmN.get s := by
  have := Tr.get_mix (p := pendZ ops listed) (t := tm0) (u := tmN) (a := 1) (b := 0) (n := s)
  simpa [mixZ] using this
theorem pendZ_f {ops : Array Oper} {listed : Array Bool} {s : Nat} : pendZ ops listed s = false ↔ ∀ (j : Nat) o, ops[j]? = some o → o.dst = some s → listed.getD j false = true := by
  simp only [pendZ, List.any_eq_false, List.mem_range]
  constructor
  · intro h j o' hj hd'
    have := h j (Array.getElem?_eq_some_iff.1 hj).1
    rw [hj] at this
    simp [hd'] at this
    simpa using this
  · intro h j hj
    rw [Array.getElem?_eq_getElem hj]
    by_cases e : ops[j].dst = some s
    · have := h j _ (Array.getElem?_eq_getElem hj) e
      rw [this]; simp
    · simp [e]
def wpAnyJ (P : Program) (ops : Array Oper) (Q : Exit → Act → World → Prop) (J : Act → World → Prop) : Nat → Array Bool → Act → World → Prop
  | 0, listed, a, w => J a w ∧ (Region.ready .any ops listed = [] ∧ Q .normal a w)
  | fuel + 1, listed, a, w => J a w ∧ ((Region.ready .any ops listed = [] → Q .normal a w) ∧
    ∀ i ∈ Region.ready .any ops listed, match ops[i]? with
      | none => wpAnyJ P ops Q J fuel (listed.setIfInBounds i true) a w
      | some o => if Region.wanted o (yielded ops a.tmps) then o.wp P a w (wpAnyJ P ops Q J fuel (listed.setIfInBounds i true)) Q else wpAnyJ P ops Q J fuel (listed.setIfInBounds i true) (a.put o.dst undef) w)
structure Rep (P : Program) (ops rops : Array Oper) (Q : Exit → Act → World → Prop) (J : Act → World → Prop) : Prop where
  fwd : ∀ (i : Nat) o, ops[i]? = some o → ∃ o', rops[i]? = some o' ∧ o'.dst = o.dst ∧ o'.after = o.after ∧ o'.guard = o.guard ∧ ∀ a w, J a w → ∀ next, o.wp P a w next Q → o'.wp P a w next Q
  bwd : ∀ (i : Nat) o', rops[i]? = some o' → ∃ o, ops[i]? = some o
theorem Rep.refl {P : Program} {ops : Array Oper} {Q : Exit → Act → World → Prop} {J : Act → World → Prop} : Rep P ops ops Q J := ⟨fun i o h => ⟨o, h, rfl, rfl, rfl, fun _ _ _ _ h => h⟩, fun i o h => ⟨o, h⟩⟩
theorem Rep.ready {P : Program} {ops rops : Array Oper} {Q : Exit → Act → World → Prop} {J : Act → World → Prop} (h : Rep P ops rops Q J) {listed : Array Bool} {j : Nat} : j ∈ Region.ready .any rops listed ↔ j ∈ Region.ready .any ops listed := by
  rw [mem_ready, mem_ready]
  constructor
  · rintro ⟨h1, o', h2, h3⟩
    obtain ⟨o, ho⟩ := h.bwd j o' h2
    obtain ⟨o2, k1, k2, k3, _⟩ := h.fwd j o ho
    rw [h2] at k1; cases k1
    exact ⟨h1, o, ho, by rw [← k3]; exact h3⟩
  · rintro ⟨h1, o, h2, h3⟩
    obtain ⟨o', k1, k2, k3, _⟩ := h.fwd j o h2
    exact ⟨h1, o', k1, by rw [k3]; exact h3⟩
theorem Rep.yielded {P : Program} {ops rops : Array Oper} {Q : Exit → Act → World → Prop} {J : Act → World → Prop} (h : Rep P ops rops Q J) {t : Array Value} {j : Nat} : Go.yielded rops t j = Go.yielded ops t j := by
  unfold Go.yielded
  cases ho : ops[j]? with
  | some o =>
    obtain ⟨o', k1, k2, _⟩ := h.fwd j o ho
    rw [k1]
    simp only [Option.bind_some, k2]
  | none =>
    cases hr : rops[j]? with
    | none => rfl
    | some o' => obtain ⟨o, h1⟩ := h.bwd j o' hr; rw [ho] at h1; cases h1
theorem wpAnyJ_rep {P : Program} {ops rops : Array Oper} {Q : Exit → Act → World → Prop} {J : Act → World → Prop} (h : Rep P ops rops Q J) : ∀ {fuel : Nat} {listed : Array Bool} {a : Act} {w : World}, wpAnyJ P ops Q J fuel listed a w → wpAny P .any rops Q fuel listed a w
  | 0, listed, a, w, ⟨_, h1, h2⟩ => by
    refine ⟨?_, h2⟩
    rw [List.eq_nil_iff_forall_not_mem] at h1 ⊢
    exact fun j hj => h1 j (h.ready.1 hj)
  | fuel + 1, listed, a, w, ⟨hj, h1, h2⟩ => by
    refine ⟨fun hr => h1 ?_, fun i hi => ?_⟩
    · rw [List.eq_nil_iff_forall_not_mem] at hr ⊢
      exact fun j hj => hr j (h.ready.2 hj)
    · have := h2 i (h.ready.1 hi)
      unfold wpOp
      cases ho : ops[i]? with
      | none =>
        rw [ho] at this
        cases hr : rops[i]? with
        | none => exact wpAnyJ_rep h this
        | some o' => obtain ⟨o, h1⟩ := h.bwd i o' hr; rw [ho] at h1; cases h1
      | some o =>
        rw [ho] at this
        obtain ⟨o', k1, k2, k3, k4, k5⟩ := h.fwd i o ho
        rw [k1]
        simp only at this ⊢
        have hwant : Region.wanted o' (Go.yielded rops a.tmps) = Region.wanted o (Go.yielded ops a.tmps) := by
          unfold Region.wanted
          rw [k4]
          cases o.guard with
          | none => rfl
          | some p => simp only [h.yielded]
        rw [hwant]
        by_cases hw : Region.wanted o (Go.yielded ops a.tmps) = true
        · rw [if_pos hw] at this ⊢
          exact .inl (k5 a w hj _ (Oper.wp_mono (fun a w h' => wpAnyJ_rep h h') this))
        · rw [if_neg hw] at this ⊢
          rw [k2]
          exact wpAnyJ_rep h this
structure DrawnZ (base : Nat) (φ0 : Phi) (ops : Array Oper) (F : Nat → St) (A : Nat → Bool) (n : Nat) (w0 : World) (listed : Array Bool) (a : Act) (w : World) (φ : Phi) : Prop where
  size : listed.size = ops.size
  le : φ0.le φ
  tm : TmR φ (mixZ (F 0).tm (F ops.size).tm ops listed) a.tmps
  n : a.tmps.size = n
  defers : a.defers = DefL.ds
  mem : ∃ k, k ≤ ops.size ∧ (∀ j, j < ops.size → A j = true → (j < k ↔ listed.getD j false = true)) ∧ MemRel base φ (F k).mem (F k).nxt w
  closed : ∀ (k : Nat) o, ops[k]? = some o → listed.getD k false = true → ∀ e ∈ o.after, Region.binds .any e = true → listed.getD e.on false = true
  below : Below base w0 w
def JZ (φ0 : Phi) (ops : Array Oper) (F : Nat → St) (a : Act) (w : World) : Prop :=
  ∃ φ : Phi, φ0.le φ ∧ (∀ k o, φ.imm k = some o → w.heap[k]? = some o) ∧ ∀ s, (∀ (j : Nat) o, ops[j]? = some o → o.dst ≠ some s) → ∀ v, (F 0).tm.get s = some (v, true) → VR φ v (a.tmps.getD s undef)
section
variable {P : Program} {Θ : Tab} {K : Kn} (hΘ : TabOK P Θ) (hK : KOK P K) {ops : Array Oper} {base : Nat} {φ0 : Phi} {n : Nat} {F : Nat → St} {A B : Nat → Bool} {fl : List (Bool × Bool)}
variable (hD : DepsY ops.toList n) (hS : strictZ (predsY ops.toList []) ops.toList fl = true) (hA : ∀ k, fl.getD k (true, false) = (A k, B k)) (hF : ∀ (k : Nat) o, ops.toList[k]? = some o → opZ Θ K ops.toList (F k) o = some (F (k + 1), (A k, B k)))
variable (hok : (F ops.size).ok = true) (hn0 : (F 0).n = n) (hn : n ≤ 1000000)
include hF hok
theorem okZ : ∀ j, j ≤ ops.size → (F (ops.size - j)).ok = true
  | 0, _ => hok
  | j + 1, h => by
    have ih := okZ j (by omega)
    have hlt : ops.size - (j + 1) < ops.size := by omega
    have h1 := hF (ops.size - (j + 1)) _ (by rw [Array.getElem?_toList]; exact Array.getElem?_eq_getElem hlt)
    rw [show ops.size - (j + 1) + 1 = ops.size - j by omega] at h1
    exact opZ_mono h1 ih
theorem okZ' {k : Nat} (h : k ≤ ops.size) : (F k).ok = true := by
  have := okZ hF hok (ops.size - k) (by omega)
  rwa [show ops.size - (ops.size - k) = k by omega] at this
include hn0 hn
theorem nZ : ∀ k, k ≤ ops.size → (F k).n = n
  | 0, _ => hn0
  | k + 1, h => by
    have ih := nZ k (by omega)
    have hlt : k < ops.size := by omega
    rcases opZ_cases (by rw [ih]; exact hn) (hF k _ (by rw [Array.getElem?_toList]; exact Array.getElem?_eq_getElem hlt)) (okZ' hF hok (by omega)) with ⟨v, hv, _⟩ | ⟨hs, _⟩
    · rw [hv.n, ih]
    · rw [hs.n, ih]
theorem atZ {k : Nat} {o : Oper} (h : ops[k]? = some o) : (∃ v, RunZ Θ K (F k) o (F (k + 1)) v (A k, B k) ∧ ∀ j want, o.guard = some (j, want) → guardV (F k).tm ops.toList j want = some true) ∨
    (SkipZ (F k) o (F (k + 1)) ∧ A k = false ∧ ∃ j want, o.guard = some (j, want) ∧ guardV (F k).tm ops.toList j want = some false) := by
  have hlt := (Array.getElem?_eq_some_iff.1 h).1
  exact opZ_cases (by rw [nZ hF hok hn0 hn k (by omega)]; exact hn) (hF k o (by rw [Array.getElem?_toList]; exact h)) (okZ' hF hok (by omega))
theorem frameZ {i : Nat} : ∀ {k : Nat}, i ≤ k → k ≤ ops.size → ∀ s, (∀ j o, i ≤ j → j < k → ops[j]? = some o → o.dst ≠ some s) → (F k).tm.get s = (F i).tm.get s
  | 0, h, _, s, _ => by rw [show i = 0 by omega]
  | k + 1, h, hk, s, hs => by
    rcases Nat.lt_or_ge k i with h1 | h1
    · rw [show i = k + 1 by omega]
    · have hlt : k < ops.size := by omega
      have ho : ops[k]? = some ops[k] := Array.getElem?_eq_getElem hlt
      have hne := hs k _ h1 (by omega) ho
      have ih := frameZ h1 (by omega) s (fun j o h2 h3 => hs j o h2 (by omega))
      rcases atZ hF hok hn0 hn ho with ⟨v, hv, _⟩ | ⟨hs', _⟩
      · rw [hv.oth s hne, ih]
      · rw [hs'.oth s hne, ih]
theorem memZ {i : Nat} : ∀ {k : Nat}, i ≤ k → k ≤ ops.size → (∀ j, i ≤ j → j < k → A j = false) → (F k).mem = (F i).mem ∧ (F k).nxt = (F i).nxt
  | 0, h, _, _ => by rw [show i = 0 by omega]; exact ⟨rfl, rfl⟩
  | k + 1, h, hk, hs => by
    rcases Nat.lt_or_ge k i with h1 | h1
    · rw [show i = k + 1 by omega]; exact ⟨rfl, rfl⟩
    · have hlt : k < ops.size := by omega
      have ho : ops[k]? = some ops[k] := Array.getElem?_eq_getElem hlt
      have hq := hs k h1 (by omega)
      obtain ⟨ih1, ih2⟩ := memZ h1 (by omega) (fun j h2 h3 => hs j h2 (by omega))
      rcases atZ hF hok hn0 hn ho with ⟨v, hv, _⟩ | ⟨hs', _⟩
      · obtain ⟨_, _, _, e1, e2⟩ := hv.quiet hq
        exact ⟨e1.trans ih1, e2.trans ih2⟩
      · exact ⟨hs'.mem.1.trans ih1, hs'.mem.2.trans ih2⟩
theorem JZ_of {w0 : World} {listed : Array Bool} {a : Act} {w : World} {φ : Phi} (hI : DrawnZ base φ0 ops F A n w0 listed a w φ) : JZ φ0 ops F a w := by
  obtain ⟨k, _, _, hm⟩ := hI.mem
  refine ⟨φ, hI.le, hm.imm, fun s hs v hv => ?_⟩
  refine (hI.tm s v true ?_).1 rfl
  rw [mixZ_get]
  cases hp : pendZ ops listed s with
  | true => exact hv
  | false =>
    simp only [cond_false]
    rw [frameZ hF hok hn0 hn (Nat.zero_le _) (Nat.le_refl _) s (fun j o _ _ hj => hs j o (by simpa using hj))]
    exact hv
include hΘ hK hD hS hA
theorem drawnZ_any {Q : Exit → Act → World → Prop} {w0 : World}
    (hQ : ∀ φ a w, φ0.le φ → TmR φ (F ops.size).tm a.tmps → a.tmps.size = n → a.defers = DefL.ds → MemRel base φ (F ops.size).mem (F ops.size).nxt w → Below base w0 w → Q .normal a w) :
    ∀ (fuel : Nat) (listed : Array Bool) (a : Act) (w : World) (φ : Phi), DrawnZ base φ0 ops F A n w0 listed a w φ → cntF listed.toList ≤ fuel → wpAnyJ P ops Q (JZ φ0 ops F) fuel listed a w := by
  have hpred : ∀ (listed : Array Bool), (∀ (k : Nat) o, ops[k]? = some o → listed.getD k false = true → ∀ e ∈ o.after, Region.binds .any e = true → listed.getD e.on false = true) →
      ∀ k, k < ops.size → listed.getD k false = true → ∀ i, ((predsY ops.toList []).getD k 0).testBit i = true → listed.getD i false = true := by
    intro listed hc k hk
    exact predsY_spec (D := fun k => listed.getD k false) (fun j o hj e he hb => by have := hD.low j o hj e he hb; simpa using this) (fun j hj => by simp at hj) (fun j o hj hDj e he hb => hc j o (by simpa using hj) (by simpa using hDj) e he hb) k (by simpa using hk)
  have hstr : ∀ (i k : Nat) a b, ops[i]? = some a → ops[k]? = some b → i < k → (B i = true ∨ B k = true ∨ (A i = false ∧ A k = false)) ∨ ((predsY ops.toList []).getD k 0).testBit i = true := by
    intro i k a b hi hk hlt
    have h1 := allIdx_spec hS k b (by rw [Array.getElem?_toList]; exact hk)
    have h2 := allIdx_spec h1 i a (by rw [Array.getElem?_toList]; exact hi)
    simp only [Nat.zero_add] at h2
    rw [show Nat.blt i k = true from Nat.ble_eq_true_of_le hlt, hA, hA] at h2
    simpa using h2
  have done : ∀ (listed : Array Bool) (a : Act) (w : World) (φ : Phi), DrawnZ base φ0 ops F A n w0 listed a w φ → Region.ready .any ops listed = [] → Q .normal a w := by
    intro listed a w φ hI hr
    have hl : ∀ j, j < ops.size → listed.getD j false = true := by
      intro j
      induction j using Nat.strongRecOn with
      | _ j ih =>
        intro hj
        cases hb : listed.getD j true with
        | true =>
          have hjl : j < listed.size := by rw [hI.size]; exact hj
          simp [hjl] at hb ⊢
          exact hb
        | false =>
          exfalso
          have : j ∈ Region.ready .any ops listed := by
            rw [mem_ready]
            refine ⟨hb, _, Array.getElem?_eq_getElem hj, fun e he hbd => ?_⟩
            have hlt := hD.low j _ (by rw [Array.getElem?_toList]; exact Array.getElem?_eq_getElem hj) e he hbd
            exact ih e.on hlt (by omega)
          rw [hr] at this; cases this
    obtain ⟨k, hk, hact, hm⟩ := hI.mem
    have hmm := memZ hF hok hn0 hn hk (Nat.le_refl _) (fun j h1 h2 => by
      cases ha : A j with
      | false => rfl
      | true => have := (hact j h2 ha).2 (hl j h2); omega)
    rw [← hmm.1, ← hmm.2] at hm
    refine hQ φ a w hI.le (fun s v c hs => hI.tm s v c ?_) hI.n hI.defers hm hI.below
    rw [mixZ_get, pendZ_f.2 (fun j o hj _ => hl j (Array.getElem?_eq_some_iff.1 hj).1)]
    exact hs
  intro fuel
  induction fuel with
  | zero =>
    intro listed a w φ hI hc
    have hr : Region.ready .any ops listed = [] := by
      rw [List.eq_nil_iff_forall_not_mem]
      intro j hj
      rw [mem_ready] at hj
      obtain ⟨hb, o, ho, _⟩ := hj
      have hjl : j < listed.size := by rw [hI.size]; exact (Array.getElem?_eq_some_iff.1 ho).1
      have := cntF_zero (l := listed.toList) (by omega) j (listed[j]) (by simp [hjl])
      simp [hjl] at hb
      rw [this] at hb; cases hb
    exact ⟨JZ_of hF hok hn0 hn hI, hr, done listed a w φ hI hr⟩
  | succ fuel ih =>
    intro listed a w φ hI hc
    refine ⟨JZ_of hF hok hn0 hn hI, done listed a w φ hI, fun i hi => ?_⟩
    rw [mem_ready] at hi
    obtain ⟨hb, o, ho, hpre⟩ := hi
    have hol : ops.toList[i]? = some o := by simpa using ho
    have hiops : i < ops.size := (Array.getElem?_eq_some_iff.1 ho).1
    have hisz : i < listed.size := by rw [hI.size]; exact hiops
    have hni : listed.getD i false = false := by simp [hisz] at hb ⊢; exact hb
    have hT := hI.tm
    have hlist : ∀ j, (listed.setIfInBounds i true).getD j false = (decide (j = i) || listed.getD j false) := fun j => getD_set_eq hisz
    have hslot : ∀ t, (∀ (k : Nat) o', ops.toList[k]? = some o' → o'.dst = some t → k < i ∧ edgeTo o k = true) → (F i).tm.get t = (mixZ (F 0).tm (F ops.size).tm ops listed).get t := by
      intro t ht
      have hp : pendZ ops listed t = false := pendZ_f.2 (fun k o' hk hdk => by
        obtain ⟨hlt, hed⟩ := ht k o' (by simpa using hk) hdk
        obtain ⟨e, hem, heo, heb⟩ := edgeTo_mem hed
        have := hpre e hem heb
        rwa [heo] at this)
      rw [mixZ_get, hp]
      simp only [cond_false]
      exact (frameZ hF hok hn0 hn (Nat.le_of_lt hiops) (Nat.le_refl _) t (fun j o' h1 h2 hj e => by have := (ht j o' (by simpa using hj) e).1; omega)).symm
    have hop : ∀ x ∈ o.op.operands, rd (F i).tm x = rd (mixZ (F 0).tm (F ops.size).tm ops listed) x := fun x hx => rd_keep (fun t hxt => by
      have hmem : t ∈ opdTmps o := by
        simp only [opdTmps, List.mem_filterMap]
        exact ⟨x, by simpa using hx, by rw [hxt]⟩
      by_cases hlate : ∃ (k : Nat) (o' : Oper), ops.toList[k]? = some o' ∧ o'.dst = some t ∧ i < k
      · obtain ⟨k, o', hk, hdk, hlt⟩ := hlate
        have hed : edgeTo o' i = true := by
          rcases hD.data k i o' o t hk hol hdk hmem with h | h
          · omega
          · exact h.2
        have hkn : listed.getD k false = false := by
          cases hl : listed.getD k false with
          | false => rfl
          | true =>
            obtain ⟨e, hem, heo, heb⟩ := edgeTo_mem hed
            have := hI.closed k o' (by simpa using hk) hl e hem heb
            rw [heo, hni] at this; cases this
        have hp : pendZ ops listed t = true := by
          cases hp : pendZ ops listed t with
          | true => rfl
          | false =>
            have := pendZ_f.1 hp k o' (by simpa using hk) hdk
            rw [hkn] at this; cases this
        rw [mixZ_get, hp]
        simp only [cond_true]
        exact frameZ hF hok hn0 hn (Nat.zero_le _) (Nat.le_of_lt hiops) t (fun j o2 h1 h2 hj e2 => by
          have := hD.uniq j k o2 o' t (by simpa using hj) hk e2 hdk
          omega)
      · exact hslot t (fun k o' hk hdk => by
          rcases hD.data k i o' o t hk hol hdk hmem with h | h
          · exact h
          · exact absurd ⟨k, o', hk, hdk, h.1⟩ hlate))
    have hgd : ∀ j want, o.guard = some (j, want) → guardV (F i).tm ops.toList j want = guardV (mixZ (F 0).tm (F ops.size).tm ops listed) ops.toList j want := by
      intro j want hg
      have hed := hD.guard i o j want hol hg
      obtain ⟨e, hem, heo, heb⟩ := edgeTo_mem hed
      have hlow := hD.low i o hol e hem heb
      unfold guardV
      cases hoj : ops.toList[j]? with
      | none => rfl
      | some oj =>
        cases hdj : oj.dst with
        | none => simp only [hdj]
        | some dj =>
          simp only [hdj]
          rw [hslot dj (fun k o' hk hdk => by
            have := hD.uniq k j o' oj dj hk hoj hdk hdj
            subst this
            exact ⟨by omega, hed⟩)]
    have hcnt : cntF (listed.setIfInBounds i true).toList ≤ fuel := by
      have hf : listed.toList[i]? = some false := by
        have : listed[i]? = some false := by
          rw [Array.getElem?_eq_getElem hisz]
          simp [hisz] at hb
          rw [hb]
        simpa using this
      have := cntF_set hf
      rw [show (listed.setIfInBounds i true).toList = listed.toList.set i true from by simp]; omega
    have hclosed : ∀ (k : Nat) o, ops[k]? = some o → (listed.setIfInBounds i true).getD k false = true → ∀ e ∈ o.after, Region.binds .any e = true → (listed.setIfInBounds i true).getD e.on false = true := by
      intro k o' hk hl e he' hb'
      rw [hlist] at hl ⊢
      by_cases e1 : k = i
      · subst e1
        rw [ho] at hk; cases hk
        rw [hpre e he' hb']; simp
      · simp only [e1, decide_false, Bool.false_or] at hl
        rw [hI.closed k o' hk hl e he' hb']; simp
    have hprei : ∀ j, j ≠ i → ((predsY ops.toList []).getD i 0).testBit j = true → listed.getD j false = true := by
      intro j e1 hj
      have h1 := hpred _ hclosed i hiops (by rw [hlist]; simp) j hj
      rw [hlist] at h1
      simpa [e1] using h1
    have htm : ∀ (x : Option (V × Bool)) (tm' : TM) (ψ : Phi) (tmps : Array Value), φ.le ψ → (∀ s, o.dst ≠ some s → tm'.get s = (mixZ (F 0).tm (F ops.size).tm ops listed).get s) → (∀ d, o.dst = some d → tm'.get d = (F (i + 1)).tm.get d) → TmR ψ tm' tmps →
        TmR ψ (mixZ (F 0).tm (F ops.size).tm ops (listed.setIfInBounds i true)) tmps := by
      intro _ tm' ψ tmps hle ho1 ho2 hT' s v c hs
      rw [mixZ_get] at hs
      by_cases e : o.dst = some s
      · have hp : pendZ ops (listed.setIfInBounds i true) s = false := pendZ_f.2 (fun j oj hj hdj => by
          have := hD.uniq j i oj o s (by simpa using hj) hol hdj e
          rw [hlist, this]; simp)
        rw [hp] at hs
        simp only [cond_false] at hs
        refine hT' s v c ?_
        rw [ho2 s e, ← hs]
        exact (frameZ hF hok hn0 hn hiops (Nat.le_refl _) s (fun j oj h1 h2 hj hdj => by
          have := hD.uniq j i oj o s (by simpa using hj) hol hdj e
          omega)).symm
      · have hp : pendZ ops (listed.setIfInBounds i true) s = pendZ ops listed s := by
          rw [Bool.eq_iff_iff, ← Bool.not_eq_false, ← Bool.not_eq_false (pendZ ops listed s), pendZ_f, pendZ_f]
          have : (∀ (j : Nat) o', ops[j]? = some o' → o'.dst = some s → (listed.setIfInBounds i true).getD j false = true) ↔ (∀ (j : Nat) o', ops[j]? = some o' → o'.dst = some s → listed.getD j false = true) := by
            constructor
            · intro h j oj hj hdj
              have := h j oj hj hdj
              rw [hlist] at this
              have hji : j ≠ i := by
                intro e'; subst e'
                rw [ho] at hj; cases hj
                exact e hdj
              simpa [hji] using this
            · intro h j oj hj hdj
              rw [hlist, h j oj hj hdj]; simp
          rw [this]
        rw [hp] at hs
        refine hT' s v c ?_
        rw [ho1 s e, mixZ_get]
        exact hs
    obtain ⟨k, hk, hact, hm⟩ := hI.mem
    have hfreeA : ∀ j oj, ops[j]? = some oj → A j = true → B j = false := by
      intro j oj hj ha
      rcases atZ hF hok hn0 hn hj with ⟨v, hv, _⟩ | ⟨_, h, _⟩
      · exact (hv.acts ha).1
      · have h : A j = false := h
        rw [ha] at h; cases h
    have hsame : B i = true ∨ ((F k).mem = (F i).mem ∧ (F k).nxt = (F i).nxt ∧ (A i = true → ∀ j, j < ops.size → A j = true → j ≠ i → (j < i ↔ listed.getD j false = true))) := by
      cases hf : B i with
      | true => exact .inl rfl
      | false =>
        refine .inr ?_
        have key : ∀ j, j < ops.size → A j = true → j ≠ i → (j < i ↔ listed.getD j false = true) := by
          intro j hjs ha hne
          have hj : ops[j]? = some ops[j] := Array.getElem?_eq_getElem hjs
          have hfj := hfreeA j _ hj ha
          constructor
          · intro hlt
            rcases hstr j i _ o hj ho hlt with h | h
            · rw [hf, hfj, ha] at h; simp at h
            · exact hprei j hne h
          · intro hl
            rcases Nat.lt_or_ge j i with h | h
            · exact h
            · exfalso
              have hlt : i < j := by omega
              rcases hstr i j o _ ho hj hlt with h | h
              · rw [hf, hfj, ha] at h; simp at h
              · have := hpred listed hI.closed j hjs hl i h
                rw [hni] at this; cases this
        have hmid : ∀ j, j < ops.size → A j = true → ¬ (i ≤ j ∧ j < k) := by
          intro j hj ha ⟨h1, h2⟩
          have hl := (hact j hj ha).1 h2
          by_cases e : j = i
          · subst e; rw [hni] at hl; cases hl
          · have := (key j hj ha e).2 hl; omega
        have hmid2 : ∀ j, j < ops.size → A j = true → ¬ (k ≤ j ∧ j < i) := by
          intro j hj ha ⟨h1, h2⟩
          have hl := (key j hj ha (by omega)).1 h2
          have := (hact j hj ha).2 hl; omega
        rcases Nat.le_total i k with h | h
        · obtain ⟨e1, e2⟩ := memZ hF hok hn0 hn h hk (fun j h1 h2 => by
            cases ha : A j with
            | false => rfl
            | true => exact absurd ⟨h1, h2⟩ (hmid j (by omega) ha))
          exact ⟨e1, e2, fun _ => key⟩
        · obtain ⟨e1, e2⟩ := memZ hF hok hn0 hn h (Nat.le_of_lt hiops) (fun j h1 h2 => by
            cases ha : A j with
            | false => rfl
            | true => exact absurd ⟨h1, h2⟩ (hmid2 j (by omega) ha))
          exact ⟨e1.symm, e2.symm, fun _ => key⟩
    have hni' : (F i).n = n := nZ hF hok hn0 hn i (Nat.le_of_lt hiops)
    have keep : ∀ (ψ : Phi) (w' : World), A i = false → MemRel base ψ (F k).mem (F k).nxt w' →
        ∃ k, k ≤ ops.size ∧ (∀ j, j < ops.size → A j = true → (j < k ↔ (listed.setIfInBounds i true).getD j false = true)) ∧ MemRel base ψ (F k).mem (F k).nxt w' := by
      intro ψ w' hq hm'
      refine ⟨k, hk, fun j hj ha => ?_, hm'⟩
      have hji : j ≠ i := by
        intro e'; subst e'
        rw [hq] at ha; cases ha
      rw [hlist, hact j hj ha]
      simp [hji]
    have next : ∀ (ψ : Phi) (w' : World) (x : Value) (v : V) (g : Bool), φ.le ψ → Below base w w' → (g = true → VR ψ v x) → (g = false → x = undef) → (∀ d, o.dst = some d → d < n ∧ (F (i + 1)).tm.get d = some (v, g)) →
        (∃ k, k ≤ ops.size ∧ (∀ j, j < ops.size → A j = true → (j < k ↔ (listed.setIfInBounds i true).getD j false = true)) ∧ MemRel base ψ (F k).mem (F k).nxt w') →
        wpAnyJ P ops Q (JZ φ0 ops F) fuel (listed.setIfInBounds i true) (a.put o.dst x) w' := by
      intro ψ w' x v g hle hbw hx1 hx2 hd hm'
      have hput : ∃ tm', putV (mixZ (F 0).tm (F ops.size).tm ops listed) n o.dst (some v) g = some tm' := by
        unfold putV
        cases hd' : o.dst with
        | none => exact ⟨_, rfl⟩
        | some d =>
          simp only
          rw [show Nat.blt d n = true from Nat.ble_eq_true_of_le (hd d hd').1]
          exact ⟨_, rfl⟩
      obtain ⟨tm', hput⟩ := hput
      obtain ⟨h1, h2, h3⟩ := putV_ok (x := x) (TmR_mono hle hT) hI.n hput (fun u hu => by cases hu; exact ⟨hx1, hx2⟩)
      have hg := putV_get hn hput
      exact ih _ _ _ ψ ⟨by simp [hI.size], Phi.le_trans hI.le hle, htm none tm' ψ (a.put o.dst x).tmps hle hg.1 (fun d hd' => by rw [(hg.2 d hd').1, (hd d hd').2]) h1, h2, h3.trans hI.defers, hm', hclosed, hI.below.trans hbw⟩ hcnt
    have goes : ∀ v, RunZ Θ K (F i) o (F (i + 1)) v (A i, B i) → o.wp P a w (wpAnyJ P ops Q (JZ φ0 ops F) fuel (listed.setIfInBounds i true)) Q := by
      intro v hv
      cases ha : A i with
      | false =>
        obtain ⟨u, rfl, ht, e1, e2⟩ := hv.quiet ha
        have ht' : tameX Θ K (mixZ (F 0).tm (F ops.size).tm ops listed) (F k).mem (F k).nxt o = some (u, true) := by
          rcases hsame with h | ⟨h1, h2, _⟩
          · obtain ⟨u', h3, h4⟩ := hv.free h
            cases h3
            exact h4 _ _ _ hop
          · rw [← tameX_congr (tm := (F i).tm) hop, h1, h2]; exact ht
        refine tameX_ok hΘ hK hm hT ht' _ _ (fun w' x hbw hx => ?_)
        exact next φ w' x u true (Phi.le_refl _) (hbw.mono hm.base) (fun _ => hx) (fun e => (by cases e)) (fun d hd => by
          obtain ⟨u', h1, h2, h3⟩ := hv.own d hd
          cases h1
          exact ⟨by rw [← hni']; exact h3, h2⟩) (keep φ w' ha (hm.same (Below.same hbw (Nat.le_refl _)) (Nat.le_refl _)))
      | true =>
        obtain ⟨hb0, r, hx, hrok, rfl, e1, e2⟩ := hv.acts ha
        rcases hsame with h | ⟨h1, h2, key⟩
        · have hb0 : B i = false := hb0
          rw [h] at hb0; cases hb0
        · have key := key ha
          have hx' : opx Θ K (mixZ (F 0).tm (F ops.size).tm ops listed) (F k).mem (F k).nxt o = some r := by
            rw [← opx_congr (tm := (F i).tm) hop, h1, h2]; exact hx
          refine opx_ok hΘ hK hm hT hx' hrok _ _ (fun ψ w' x g1 g2 g3 g4 _ => ?_)
          have hmem : ∃ k, k ≤ ops.size ∧ (∀ j, j < ops.size → A j = true → (j < k ↔ (listed.setIfInBounds i true).getD j false = true)) ∧ MemRel base ψ (F k).mem (F k).nxt w' := by
            refine ⟨i + 1, hiops, fun j hj ha' => ?_, by rw [e1, e2]; exact g2⟩
            rw [hlist]
            by_cases e : j = i
            · subst e; simp
            · have := key j hj ha' e
              simp only [e, decide_false, Bool.false_or]
              rw [← this]; omega
          cases hrv : r.v with
          | some u =>
            exact next ψ w' x u true g1 g3 (fun _ => g4 u hrv) (fun e => (by cases e)) (fun d hd => by
              obtain ⟨u', h1, h2, h3⟩ := hv.own d hd
              rw [hrv] at h1; cases h1
              exact ⟨by rw [← hni']; exact h3, h2⟩) hmem
          | none =>
            have hnd : o.dst = none := by
              cases hd : o.dst with
              | none => rfl
              | some d => obtain ⟨u', h1, _⟩ := hv.own d hd; rw [hrv] at h1; cases h1
            rw [hnd]
            have := next ψ w' undef dummy false g1 g3 (fun e => (by cases e)) (fun _ => rfl) (fun d hd => by rw [hnd] at hd; cases hd) hmem
            rw [hnd] at this
            exact this
    rw [ho]
    simp only
    rcases atZ hF hok hn0 hn ho with ⟨v, hv, hg1⟩ | ⟨hs, hAi, j, want, hg, hgv⟩
    · cases hg : o.guard with
      | none =>
        rw [if_pos (by simp [Region.wanted, hg])]
        exact goes v hv
      | some p =>
        obtain ⟨j, want⟩ := p
        have := hg1 j want hg
        rw [hgd j want hg] at this
        rw [guard_ok hT hg this]
        simp only [if_true]
        exact goes v hv
    · rw [hgd j want hg] at hgv
      rw [guard_ok hT hg hgv]
      simp only [Bool.false_eq_true, if_false]
      exact next φ w undef dummy false (Phi.le_refl _) (Below.refl _ _) (fun e => (by cases e)) (fun _ => rfl) (fun d hd => ⟨by rw [← hni']; exact (hs.own d hd).2, (hs.own d hd).1⟩) (keep φ w hAi hm)
end
def drawZ (Θ : Tab) (K : Kn) (ops : List Oper) (st : St) : Option St :=
  bif Nat.ble st.n 1000000 && allIdx (depY st.n ops) ops 0 then
    match runZ Θ K ops ops st with | some (s, fl) => bif strictZ (predsY ops []) ops fl then some s else none | none => none
  else none
theorem drawZ_okR {P : Program} {Θ : Tab} {K : Kn} (hΘ : TabOK P Θ) (hK : KOK P K) (hmix : P.follows .mixedOrders = true) {ops : Array Oper} {base : Nat} {Q : Exit → Act → World → Prop} {st st' : St} {φ : Phi} {a : Act} {w : World} {id : Nat} {rops : Array Oper} (hrs : rops.size = ops.size) (hrep : ∀ F : Nat → St, F 0 = st → Rep P ops rops Q (JZ φ ops F))
    (h : drawZ Θ K ops.toList st = some st') (hok : st'.ok = true) (hr : Rel base φ st a w) (hQ : ∀ ψ a' w', φ.le ψ → Rel base ψ st' a' w' → Below base w w' → Q .normal a' w') : (Code.region id rops true).wp P Q a w := by
  unfold drawZ at h
  cases hb : Nat.ble st.n 1000000 && allIdx (depY st.n ops.toList) ops.toList 0 <;> rw [hb] at h
  · cases h
  · obtain ⟨h1, h2⟩ := and_split hb
    simp only [cond_true] at h
    split at h
    · rename_i s fl hrun
      cases h3 : strictZ (predsY ops.toList []) ops.toList fl <;> rw [h3] at h
      · cases h
      · simp only [cond_true, Option.some.injEq] at h
        subst h
        obtain ⟨F, f0, fN, hF⟩ := runZ_states hrun
        have hD := DepsY.of h2
        have fN : F ops.size = s := by simpa using fN
        have hn1 := Nat.le_of_ble_eq_true h1
        have hok' : (F ops.size).ok = true := by rw [fN]; exact hok
        have hlf : ∀ k, (Array.replicate ops.size false).getD k false = false := fun k => by simp [Array.getD_eq_getD_getElem?, Array.getElem?_replicate]; split <;> simp
        refine wp_region_any hmix ?_
        rw [hrs]
        refine (wpAnyJ_rep (hrep F f0) (drawnZ_any hΘ hK (F := F) (A := fun k => (fl.getD k (true, false)).1) (B := fun k => (fl.getD k (true, false)).2) (fl := fl) (n := st.n) (base := base) (φ0 := φ) (w0 := w) hD h3 (fun _ => rfl) hF hok' (by rw [f0]) hn1
          (fun ψ a' w' g0 g1 g2 g3 g4 g5 => hQ ψ a' w' g0 ⟨by rw [← fN]; exact g1, by rw [g2, ← fN]; exact (nZ hF hok' (by rw [f0]) hn1 ops.size (Nat.le_refl _)).symm, by rw [← fN]; exact g4, g3⟩ g5)
          ops.size _ _ _ φ ⟨by simp, Phi.le_refl _, fun s v c hs => ?_, hr.n, hr.defers, ⟨0, Nat.zero_le _, fun j hj ha => ⟨fun e => by omega, fun e => (by rw [hlf] at e; cases e)⟩, ?_⟩, fun k o hk hl => (by rw [hlf] at hl; cases hl), ?_⟩ ?_))
        · rw [mixZ_get] at hs
          have hs : st.tm.get s = some (v, c) := by
            cases hp : pendZ ops (Array.replicate ops.size false) s <;> rw [hp] at hs
            · simp only [cond_false] at hs
              rw [frameZ hF hok' (by rw [f0]) hn1 (Nat.zero_le _) (Nat.le_refl _) s (fun j o _ _ hj hdj => by
                have := pendZ_f.1 hp j o hj hdj
                rw [hlf] at this; cases this), f0] at hs
              exact hs
            · simp only [cond_true] at hs
              rw [f0] at hs; exact hs
          exact hr.tm s v c hs
        · rw [f0]; exact hr.mem.same ⟨Nat.le_refl _, fun _ _ => rfl⟩ (Nat.le_refl _)
        · exact (Below.refl base w).drew
        · have : ∀ n, cntF (List.replicate n false) = n := by
            intro n
            unfold cntF
            rw [List.filter_replicate]; simp
          simp [this]
    · cases h
theorem drawZ_ok {P : Program} {Θ : Tab} {K : Kn} (hΘ : TabOK P Θ) (hK : KOK P K) (hmix : P.follows .mixedOrders = true) {ops : Array Oper} {base : Nat} {Q : Exit → Act → World → Prop} {st st' : St} {φ : Phi} {a : Act} {w : World} {id : Nat}
    (h : drawZ Θ K ops.toList st = some st') (hok : st'.ok = true) (hr : Rel base φ st a w) (hQ : ∀ ψ a' w', φ.le ψ → Rel base ψ st' a' w' → Below base w w' → Q .normal a' w') : (Code.region id ops true).wp P Q a w :=
  drawZ_okR hΘ hK hmix rfl (fun _ _ => Rep.refl) h hok hr hQ
theorem drawZ_mono {Θ : Tab} {K : Kn} {ops : List Oper} {st s : St} (hs : drawZ Θ K ops st = some s) (hok : s.ok = true) : st.ok = true := by
  unfold drawZ at hs
  cases hb : Nat.ble st.n 1000000 && allIdx (depY st.n ops) ops 0 <;> rw [hb] at hs
  · cases hs
  · simp only [cond_true] at hs
    split at hs
    · rename_i s' fl hrun
      cases h3 : strictZ (predsY ops []) ops fl <;> rw [h3] at hs
      · cases hs
      · simp only [cond_true, Option.some.injEq] at hs
        subst hs
        have : ∀ {l : List Oper} {st : St} {fl : List (Bool × Bool)}, runZ Θ K ops l st = some (s', fl) → st.ok = true := by
          intro l
          induction l with
          | nil => intro st fl h; simp only [runZ, Option.some.injEq, Prod.mk.injEq] at h; rw [h.1]; exact hok
          | cons o r ih =>
            intro st fl h
            simp only [runZ] at h
            split at h
            · rename_i st1 b h1
              split at h
              · rename_i s2 l2 h2
                simp only [Option.some.injEq, Prod.mk.injEq] at h
                obtain ⟨rfl, _⟩ := h
                exact opZ_mono h1 (ih h2)
              · cases h
            · cases h
        exact this hrun
    · cases hs
end Go.GX

namespace Go.GX
set_option linter.unusedSimpArgs false
set_option linter.unusedVariables false
set_option linter.unusedSectionVars false
open Go.RowKit (Below)
variable [DefL]
def quietOps (sym : Bool) : List Oper → Bool
  | [] => true
  | o :: r => (match o.op with
    | .store _ _ _ | .alloc _ | .box _ _ | .buildSlice _ _ _ | .makeSlice _ _ _ => false
    | .call ⟨.value _, _, _⟩ => sym
    | .call ⟨.builtin .append, _, _⟩ => false
    | .mapUpdate _ _ _ _ | .insert _ _ _ _ => false
    | _ => true) && quietOps sym r
def quietD (sym : Bool) (n : Nat) (ops : List Oper) : Bool := quietOps sym ops && depsOK ops [] 0 n
def drawP0 (sym : Bool) (Θ : Tab) (K : Kn) (ops : List Oper) (st : St) : Option St := bif quietD sym st.n ops then drawX sym Θ K ops st else drawY Θ K ops st
theorem drawP0_ok {P : Program} {Θ : Tab} {K : Kn} (hΘ : TabOK P Θ) (hK : KOK P K) (hmix : P.follows .mixedOrders = true) {sym : Bool} {ops : Array Oper} {base : Nat} {Q : Exit → Act → World → Prop} {st st' : St} {φ : Phi} {a : Act} {w : World} {id : Nat}
    (h : drawP0 sym Θ K ops.toList st = some st') (hok : st'.ok = true) (hr : Rel base φ st a w) (hQ : ∀ ψ a' w', φ.le ψ → Rel base ψ st' a' w' → Below base w w' → Q .normal a' w') : (Code.region id ops true).wp P Q a w := by
  unfold drawP0 at h
  cases hq : quietD sym st.n ops.toList <;> rw [hq] at h
  · exact drawY_ok hΘ hK hmix h hok hr hQ
  · exact drawX_ok hΘ hK hmix h hok hr (fun a' w' h1 h2 => hQ φ a' w' (Phi.le_refl _) h1 h2)
theorem drawP0_mono {sym : Bool} {Θ : Tab} {K : Kn} {ops : List Oper} {st s : St} (hs : drawP0 sym Θ K ops st = some s) (hok : s.ok = true) : st.ok = true := by
  unfold drawP0 at hs
  cases hq : quietD sym st.n ops <;> rw [hq] at hs
  · simp only [cond_false] at hs
    unfold drawY at hs
    cases hb : Nat.ble st.n 1000000 && allIdx (depY st.n ops) ops 0 <;> rw [hb] at hs
    · cases hs
    · simp only [cond_true] at hs
      split at hs
      · rename_i E tmN memN okN hL
        cases hc : confY (predsY ops []) E <;> rw [hc] at hs
        · cases hs
        · simp only [cond_true, Option.some.injEq] at hs
          subst hs
          exact (and_split hok).2
      · cases hs
  · simp only [cond_true] at hs
    unfold drawX at hs
    cases hb : Nat.ble st.n 1000000 && depsOK ops [] 0 st.n <;> rw [hb] at hs
    · cases hs
    · simp only [cond_true, Option.map_eq_some_iff] at hs
      obtain ⟨r, _, rfl⟩ := hs
      exact (and_split hok).2
def hasCall : List Oper → Bool
  | [] => false
  | o :: r => match o.op with | .call ⟨.value _, _, _⟩ | .mapEntry _ _ _ | .entryStore _ _ _ _ => true | _ => hasCall r
def drawP (sym : Bool) (Θ : Tab) (K : Kn) (ops : List Oper) (st : St) : Option St :=
  bif hasCall ops then (match drawZ Θ K ops st with | some s => some s | none => drawP0 sym Θ K ops st) else drawP0 sym Θ K ops st
theorem drawP_ok {P : Program} {Θ : Tab} {K : Kn} (hΘ : TabOK P Θ) (hK : KOK P K) (hmix : P.follows .mixedOrders = true) {sym : Bool} {ops : Array Oper} {base : Nat} {Q : Exit → Act → World → Prop} {st st' : St} {φ : Phi} {a : Act} {w : World} {id : Nat}
    (h : drawP sym Θ K ops.toList st = some st') (hok : st'.ok = true) (hr : Rel base φ st a w) (hQ : ∀ ψ a' w', φ.le ψ → Rel base ψ st' a' w' → Below base w w' → Q .normal a' w') : (Code.region id ops true).wp P Q a w := by
  unfold drawP at h
  cases hc : hasCall ops.toList <;> rw [hc] at h
  · exact drawP0_ok hΘ hK hmix h hok hr hQ
  · simp only [cond_true] at h
    split at h
    · rename_i s hs
      cases h
      exact drawZ_ok hΘ hK hmix hs hok hr hQ
    · exact drawP0_ok hΘ hK hmix h hok hr hQ
theorem drawP_mono {sym : Bool} {Θ : Tab} {K : Kn} {ops : List Oper} {st s : St} (hs : drawP sym Θ K ops st = some s) (hok : s.ok = true) : st.ok = true := by
  unfold drawP at hs
  cases hc : hasCall ops <;> rw [hc] at hs
  · exact drawP0_mono hs hok
  · simp only [cond_true] at hs
    split at hs
    · rename_i s' h1
      cases hs
      exact drawZ_mono h1 hok
    · exact drawP0_mono hs hok
end Go.GX

namespace Go.GX
set_option linter.unusedSimpArgs false
set_option linter.unusedVariables false
set_option linter.unusedSectionVars false
open Go.RowKit (Below)
variable [DefL]
inductive X where
  | normal | exit (id : Nat) | ret | goto (l : Nat) | pan (t : Nat) (n : Int)
def chainOf (t : Nat) (n : Int) : List PanicEntry := [{ v := .iface t (.agg #[.int .i64 n]), recovered := false }]
def EX : X → Exit → Prop
  | .normal, .normal => True
  | .exit i, .exit j => j = i
  | .ret, .ret => True
  | .goto i, .goto j => j = i
  | .pan t n, .panic c => c = chainOf t n
  | _, _ => False
def PureOK (P : Program) (f : Nat) (args : List V) (v : V) : Prop :=
  ∀ φ w xs, ImmOK φ w → AR φ args xs → Calls P f xs w fun e w' => ∃ ψ m n x, e = .returned x ∧ (φ.bare w.heap.size).le ψ ∧ MemRel w.heap.size ψ m n w' ∧ VR ψ v x ∧ Below w.heap.size w w'
def PanOK (P : Program) (f : Nat) (args : List V) (t : Nat) (n : Int) : Prop :=
  ∀ φ w xs, ImmOK φ w → AR φ args xs → Calls P f xs w fun e w' => e = .panicked (chainOf t n) ∧ Below w.heap.size w w'
abbrev PSm := List V → Option (List (Bool × Nat × Int) × V × Bool)
def pickP : List (Bool × Nat × Int) → Option (Nat × Int)
  | [] => none
  | (c, t, n) :: r => match c with | true => some (t, n) | false => pickP r
def POK (P : Program) (Q : Nat → Option PSm) : Prop := ∀ f g, Q f = some g → (∀ args w, (callFunc f args).run P w = .ok (.enter f args) w) ∧
  ∀ args al v k, g args = some (al, v, k) → valV v = true ∧ match pickP al with | some (t, n) => PanOK P f args t n | none => k = true → PureOK P f args v
theorem POK.none {P : Program} : POK P (fun _ => none) := fun f g h => by cases h
structure Cx where
  sym : Bool
  Θ : Tab
  K : Kn
  lf : Nat
  L : Nat → Option (St → List (Bool × X × St))
  P : Nat → Option PSm
def pickA : List (Bool × X × St) → Option (X × St)
  | [] => none
  | (c, x, s) :: r => match c with | true => some (x, s) | false => pickA r
abbrev Out := Option (X × St × List Bool)
def loopX (f : St → List Bool → Out) : Nat → St → List Bool → Out
  | 0, _, _ => none
  | n + 1, st, gs => match f st gs with
    | some (.normal, s, g) => loopX f n s g
    | r => r
abbrev RunX := St → List Bool → Out
def jumpX (fr : Nat → Option RunX) : Nat → Out → Out
  | 0, _ => none
  | n + 1, r => match r with
    | some (.goto l, s, g) => match fr l with | some f => jumpX fr n (f s g) | none => none
    | r => r
def blkL (C : Cx) (id : Nat) : Option (St → List (Bool × X × St)) := bif Nat.blt id 1000000 then C.L id else none
def jkey : Code → Nat
  | .seq a _ => jkey a
  | .region id _ _ => 1000001 + id
  | _ => 0
def codeXX (C : Cx) : Code → RunX × (Nat → Option RunX)
  | .skip => (fun st gs => some (.normal, st, gs), fun _ => none)
  | .region _ ops draw => (fun st gs => match draw with
    | false => match regionX C.sym C.Θ C.K ops.toList ops.toList st with | some s => some (.normal, s, gs) | none => none
    | true => match drawP C.sym C.Θ C.K ops.toList (pubL C.Θ ops.toList st) with | some s => some (.normal, s, gs) | none => none, fun _ => none)
  | .seq a b => (fun st gs => match (codeXX C a).1 st gs with
    | some (.normal, s, g) => (codeXX C b).1 s g
    | r => r, fun l => match (codeXX C a).2 l with
      | some f => some fun st gs => match f st gs with
        | some (.normal, s, g) => (codeXX C b).1 s g
        | r => r
      | none => (codeXX C b).2 l)
  | .cond c a b => (fun st gs => match rd st.tm c with
    | some (⟨.bool, x⟩, cc) => match C.sym with
      | true => match gs with
        | true :: r => (codeXX C a).1 ⟨st.tm, st.n, st.mem, st.nxt, (cc && x) && st.ok⟩ r
        | false :: r => (codeXX C b).1 ⟨st.tm, st.n, st.mem, st.nxt, (cc && !x) && st.ok⟩ r
        | [] => none
      | false => match x with
        | true => (codeXX C a).1 ⟨st.tm, st.n, st.mem, st.nxt, cc && st.ok⟩ gs
        | false => (codeXX C b).1 ⟨st.tm, st.n, st.mem, st.nxt, cc && st.ok⟩ gs
    | _ => none, fun _ => none)
  | .block id b => (fun st gs => match blkL C id with
    | some f => match pickA (f st) with | some (x, s) => some (x, s, gs) | none => none
    | none => match (codeXX C b).1 st gs with
      | some (.exit j, s, g) => bif Nat.beq j id then some (.normal, s, g) else some (.exit j, s, g)
      | r => r, fun _ => none)
  | .loop b => (fun st gs => loopX (codeXX C b).1 C.lf st gs, fun _ => none)
  | .exit id => (fun st gs => some (.exit id, st, gs), fun _ => none)
  | .ret => (fun st gs => some (.ret, st, gs), fun _ => none)
  | .label j => (fun st gs => some (.normal, st, gs), fun l => bif Nat.beq j l then some fun st gs => some (.normal, st, gs) else none)
  | .goto l => (fun st gs => some (.goto l, st, gs), fun _ => none)
  | .scope b => (fun st gs => jumpX (codeXX C b).2 C.lf ((codeXX C b).1 st gs), fun _ => none)
  | _ => (fun _ _ => none, fun _ => none)
def codeX (C : Cx) (c : Code) : RunX := (codeXX C c).1
def CodeOK (P : Program) (kp : Nat) (c : Code) (st : St) (x : X) (st' : St) : Prop :=
  (st'.ok = true → st.ok = true) ∧ (st'.ok = true → ∀ base φ a w, Rel base φ st a w → c.wp P (fun e a' w' => EX x e ∧ ∃ ψ, Phi.leK kp φ ψ ∧ Rel base ψ st' a' w' ∧ Below base w w') a w)
def blocksOf : Code → List (Nat × Code)
  | .seq a b => blocksOf a ++ ((bif Nat.beq (jkey b) 0 then [] else [(jkey b, b)]) ++ blocksOf b)
  | .cond _ a b => blocksOf a ++ blocksOf b
  | .block id b => (id, b) :: blocksOf b
  | .loop b => blocksOf b
  | .scope b => blocksOf b
  | _ => []
structure CxOK (P : Program) (C : Cx) : Prop where
  Θ : TabOK P C.Θ
  K : KOK P C.K
  mix : P.follows .mixedOrders = true
  P : POK P C.P
def unitC (id : Nat) (b : Code) : Code := bif Nat.blt id 1000000 then .block id b else b
theorem jkey_ge (c : Code) : jkey c = 0 ∨ 1000000 ≤ jkey c := by
  induction c <;> first | exact .inl rfl | assumption | (refine .inr ?_; show 1000000 ≤ 1000001 + _; omega)
theorem blkL_some {C : Cx} {id : Nat} {f} (h : blkL C id = some f) : C.L id = some f ∧ ∀ b, unitC id b = .block id b := by
  unfold blkL at h
  cases hb : Nat.blt id 1000000 <;> rw [hb] at h
  · cases h
  · exact ⟨h, fun b => by unfold unitC; rw [hb]; rfl⟩
theorem unitC_j {b : Code} (h : Nat.beq (jkey b) 0 = false) : unitC (jkey b) b = b := by
  rcases jkey_ge b with e | e
  · rw [e] at h; cases h
  · unfold unitC
    rw [show Nat.blt (jkey b) 1000000 = false from by rw [Bool.eq_false_iff]; intro hh; have := Nat.le_of_ble_eq_true hh; omega]
    rfl
def LOK (P : Program) (C : Cx) (kp : Nat) (c : Code) : Prop := ∀ id b, (id, b) ∈ blocksOf c → ∀ f, C.L id = some f → ∀ st x st', pickA (f st) = some (x, st') → CodeOK P kp (unitC id b) st x st'
theorem rounds_mono {P : Program} {b : Code} {Q Q' : Exit → Act → World → Prop} (hq : ∀ e a w, Q e a w → Q' e a w) : ∀ {n : Nat} {a : Act} {w : World}, Code.rounds P b Q n a w → Code.rounds P b Q' n a w := by
  intro n
  induction n with
  | zero => intro a w h; exact h.elim
  | succ n ih =>
    intro a w h
    rw [rounds_succ] at h ⊢
    refine wp_mono h (fun e a w he => ?_)
    cases e <;> first | exact ih he | exact hq _ _ _ he
theorem CodeOK.loop {P : Program} {C : Cx} {kp : Nat} {b : Code} (hb : ∀ st gs x st' gs', codeX C b st gs = some (x, st', gs') → CodeOK P kp b st x st') :
    ∀ (n : Nat) (st : St) (gs : List Bool) (x : X) (st' : St) (gs' : List Bool), loopX (codeX C b) n st gs = some (x, st', gs') →
      (st'.ok = true → st.ok = true) ∧ (st'.ok = true → ∀ base φ a w, Rel base φ st a w → Code.rounds P b (fun e a' w' => EX x e ∧ ∃ ψ, Phi.leK kp φ ψ ∧ Rel base ψ st' a' w' ∧ Below base w w') n a w)
  | 0, st, gs, x, st', gs', h => by simp [loopX] at h
  | n + 1, st, gs, x, st', gs', h => by
    simp only [loopX] at h
    split at h
    · rename_i s g hc
      have h1 := hb _ _ _ _ _ hc
      have h2 := CodeOK.loop hb n s g x st' gs' h
      refine ⟨fun hok => h1.1 (h2.1 hok), fun hok base φ a w hr => ?_⟩
      rw [rounds_succ]
      refine wp_mono (h1.2 (h2.1 hok) base φ a w hr) ?_
      rintro e a' w' ⟨he, ψ, hle, hr', hb'⟩
      cases e <;> simp only [EX] at he
      show Code.rounds P b _ n a' w'
      have := h2.2 hok base ψ a' w' hr'
      refine rounds_mono ?_ this
      rintro e a2 w2 ⟨he2, ψ2, hle2, hr2, hb2⟩
      exact ⟨he2, ψ2, Phi.leK_trans hle hle2, hr2, hb'.trans hb2⟩
    · rename_i hne
      have h1 := hb _ _ _ _ _ h
      refine ⟨h1.1, fun hok base φ a w hr => ?_⟩
      rw [rounds_succ]
      refine wp_mono (h1.2 hok base φ a w hr) ?_
      rintro e a' w' ⟨he, hrest⟩
      cases e with
      | normal => cases x <;> simp only [EX] at he; exact absurd h (hne _ _)
      | exit id => exact ⟨he, hrest⟩
      | ret => exact ⟨he, hrest⟩
      | goto l => exact ⟨he, hrest⟩
      | panic c => exact ⟨he, hrest⟩
      | outgrown => cases x <;> simp [EX] at he
def JumpWp (P : Program) (c : Code) (Q : Exit → Act → World → Prop) : Nat → Code → Act → World → Prop
  | 0, _, _, _ => False
  | n + 1, x, a, w => x.wp P (fun e a' w' => match e with | .goto l => ∃ rest, findLabel c l = some rest ∧ JumpWp P c Q n rest a' w' | e => Q e a' w') a w
theorem wp_scope_n {P : Program} {c : Code} {Q : Exit → Act → World → Prop} {n : Nat} {a : Act} {w : World} (h : JumpWp P c Q n c a w) : (Code.scope c).wp P Q a w := by
  intro b k cs
  have key : ∀ n x a w, JumpWp P c Q n x a w → ∃ e a' w', Q e a' w' ∧ Arrives P (lone (b.at a (.code x :: .inScope c :: k)) cs w) b k cs e a' w' := by
    intro n
    induction n with
    | zero => intro x a w h; exact h.elim
    | succ n ih =>
      intro x a w h
      obtain ⟨e, a₁, w₁, hq, harr⟩ := h b (.inScope c :: k) cs
      cases e with
      | normal => exact ⟨.normal, a₁, w₁, hq, Steps.trans harr (.one step_inScope)⟩
      | exit id => exact ⟨.exit id, a₁, w₁, hq, fun k' hk => harr k' (by simp [exitTo, hk])⟩
      | goto l =>
        obtain ⟨rest, hf, hJ⟩ := hq
        have hg : gotoIn l (.inScope c :: k) = some (.code rest :: .inScope c :: k) := by simp [gotoIn, hf]
        obtain ⟨e₂, a₂, w₂, hq₂, harr₂⟩ := ih _ _ _ hJ
        exact ⟨e₂, a₂, w₂, hq₂, .of_steps (harr _ hg) harr₂⟩
      | ret => exact ⟨_, a₁, w₁, hq, harr⟩
      | panic ch => exact ⟨_, a₁, w₁, hq, harr⟩
      | outgrown => exact ⟨_, a₁, w₁, hq, harr⟩
  obtain ⟨e, a₁, w₁, hq, harr⟩ := key n c a w h
  exact ⟨e, a₁, w₁, hq, .of_steps (.one step_scope) harr⟩
theorem JumpWp.mono {P : Program} {c : Code} {Q Q' : Exit → Act → World → Prop} (hq : ∀ e a w, Q e a w → Q' e a w) : ∀ (n : Nat) {x : Code} {a : Act} {w : World}, JumpWp P c Q n x a w → JumpWp P c Q' n x a w
  | 0, _, _, _, h => h.elim
  | n + 1, x, a, w, h => wp_mono h fun e a' w' he => by
    cases e with
    | goto l =>
      obtain ⟨rest, h1, h2⟩ := he
      exact ⟨rest, h1, JumpWp.mono hq n h2⟩
    | normal => exact hq _ _ _ he
    | exit id => exact hq _ _ _ he
    | ret => exact hq _ _ _ he
    | panic ch => exact hq _ _ _ he
    | outgrown => exact hq _ _ _ he
theorem CodeOK.seq {P : Program} {kp : Nat} {a b : Code} {fa fb : RunX} (ha : ∀ st gs x st' gs', fa st gs = some (x, st', gs') → CodeOK P kp a st x st') (hb : ∀ st gs x st' gs', fb st gs = some (x, st', gs') → CodeOK P kp b st x st')
    {st : St} {gs : List Bool} {x : X} {st' : St} {gs' : List Bool} (h : (match fa st gs with | some (.normal, s, g) => fb s g | r => r) = some (x, st', gs')) : CodeOK P kp (.seq a b) st x st' := by
  split at h
  · rename_i s g hs
    have h1 := ha _ _ _ _ _ hs
    have h2 := hb _ _ _ _ _ h
    refine ⟨fun hok => h1.1 (h2.1 hok), fun hok base φ a w hr => wp_seq (wp_mono (h1.2 (h2.1 hok) base φ a w hr) ?_)⟩
    rintro e a' w' ⟨he, ψ, hle, hr', hb'⟩
    cases e <;> simp only [EX] at he
    refine wp_mono (h2.2 hok base ψ a' w' hr') ?_
    rintro e a2 w2 ⟨he2, ψ2, hle2, hr2, hb2⟩
    exact ⟨he2, ψ2, Phi.leK_trans hle hle2, hr2, hb'.trans hb2⟩
  · rename_i hne
    have h1 := ha _ _ _ _ _ h
    refine ⟨h1.1, fun hok base φ a w hr => wp_seq (wp_mono (h1.2 hok base φ a w hr) ?_)⟩
    rintro e a' w' ⟨he, hrest⟩
    cases e with
    | normal => cases x <;> simp only [EX] at he; exact absurd h (hne _ _)
    | exit id => exact ⟨he, hrest⟩
    | ret => exact ⟨he, hrest⟩
    | goto l => exact ⟨he, hrest⟩
    | panic c => exact ⟨he, hrest⟩
    | outgrown => cases x <;> simp [EX] at he
def GoodX (P : Program) (kp : Nat) (c : Code) (f : RunX × (Nat → Option RunX)) : Prop :=
  (∀ st gs x st' gs', f.1 st gs = some (x, st', gs') → CodeOK P kp c st x st') ∧
  ∀ l, match f.2 l with
    | some g => ∃ rest, findLabel c l = some rest ∧ ∀ st gs x st' gs', g st gs = some (x, st', gs') → CodeOK P kp rest st x st'
    | none => findLabel c l = none
theorem jumpX_ok {P : Program} {kp : Nat} {c : Code} {f : RunX × (Nat → Option RunX)} (hf : GoodX P kp c f) : ∀ (n : Nat) {y : Code} {st : St} {r : Out} (_ : ∀ x s g, r = some (x, s, g) → CodeOK P kp y st x s) {x : X} {st' : St} {gs' : List Bool}, jumpX f.2 n r = some (x, st', gs') →
      (st'.ok = true → st.ok = true) ∧ (st'.ok = true → ∀ base φ a w, Rel base φ st a w → JumpWp P c (fun e a' w' => EX x e ∧ ∃ ψ, Phi.leK kp φ ψ ∧ Rel base ψ st' a' w' ∧ Below base w w') n y a w)
  | 0, _, _, _, _, _, _, _, h => by cases h
  | n + 1, y, st, r, hy, x, st', gs', h => by
    simp only [jumpX] at h
    split at h
    · rename_i l s g
      have hg := hf.2 l
      split at h
      · rename_i f' hf'
        rw [hf'] at hg
        obtain ⟨rest, hr1, hr2⟩ := hg
        have h1 := hy _ _ _ rfl
        have h2 := jumpX_ok hf n (fun x s' g' hx => hr2 _ _ _ _ _ hx) h
        refine ⟨fun hok => h1.1 (h2.1 hok), fun hok base φ a w hr => wp_mono (h1.2 (h2.1 hok) base φ a w hr) ?_⟩
        rintro e a' w' ⟨he, ψ, hle, hr', hb'⟩
        cases e <;> simp only [EX] at he
        subst he
        refine ⟨rest, hr1, ?_⟩
        have := h2.2 hok base ψ a' w' hr'
        exact JumpWp.mono (fun e a2 w2 ⟨he2, ψ2, hle2, hr2', hb2⟩ => ⟨he2, ψ2, Phi.leK_trans hle hle2, hr2', hb'.trans hb2⟩) n this
      · cases h
    · rename_i hne
      have h1 := hy _ _ _ h
      refine ⟨h1.1, fun hok base φ a w hr => wp_mono (h1.2 hok base φ a w hr) ?_⟩
      rintro e a' w' ⟨he, hrest⟩
      cases e with
      | goto l => cases x <;> simp only [EX] at he; exact absurd h (hne _ _ _)
      | normal => exact ⟨he, hrest⟩
      | exit id => exact ⟨he, hrest⟩
      | ret => exact ⟨he, hrest⟩
      | panic ch => exact ⟨he, hrest⟩
      | outgrown => exact ⟨he, hrest⟩
theorem codeXX_ok {P : Program} {C : Cx} (hC : CxOK P C) {kp : Nat} : ∀ {c : Code}, LOK P C kp c → GoodX P kp c (codeXX C c) := by
  intro c
  induction c with
  | skip =>
    intro _
    refine ⟨fun st gs x st' gs' h => ?_, fun l => rfl⟩
    simp only [codeXX, Option.some.injEq, Prod.mk.injEq] at h
    obtain ⟨rfl, rfl, rfl⟩ := h
    exact ⟨id, fun _ base φ a w hr => wp_skip ⟨trivial, φ, Phi.leK_refl _, hr, Below.refl _ _⟩⟩
  | region id ops draw =>
    intro _
    refine ⟨fun st gs x st' gs' h => ?_, fun l => rfl⟩
    simp only [codeXX] at h
    split at h
    · split at h
      · rename_i s hs
        simp only [Option.some.injEq, Prod.mk.injEq] at h
        obtain ⟨rfl, rfl, rfl⟩ := h
        refine ⟨regionX_mono hs, fun hok base φ a w hr => wp_region_list ?_⟩
        exact regionX_ok hC.Θ hC.K (φ0 := φ) (w0 := w) (fun ψ a' w' h1 h2 h3 => ⟨trivial, ψ, h1.toK, h2, h3⟩) (Phi.le_refl _) hr (Below.refl _ _) hs hok
      · cases h
    · split at h
      · rename_i s hs
        simp only [Option.some.injEq, Prod.mk.injEq] at h
        obtain ⟨rfl, rfl, rfl⟩ := h
        refine ⟨fun hok => pubL_mono (drawP_mono hs hok), fun hok base φ a w hr => ?_⟩
        obtain ⟨χ, hle, hr2⟩ := pubL_ok hr (drawP_mono hs hok)
        exact drawP_ok hC.Θ hC.K hC.mix hs hok hr2 (fun ψ a' w' h0 h1 h2 => ⟨trivial, ψ, (Phi.le_trans hle h0).toK, h1, h2⟩)
      · cases h
  | seq a b iha ihb =>
    intro hL
    have hLa : LOK P C kp a := fun id b hb => hL id b (by simp [blocksOf, hb])
    have hLb : LOK P C kp b := fun id b hb => hL id b (by simp [blocksOf, hb])
    have ga := iha hLa
    have gb := ihb hLb
    refine ⟨fun st gs x st' gs' h => CodeOK.seq ga.1 gb.1 h, fun l => ?_⟩
    have h1 := ga.2 l
    have h2 := gb.2 l
    simp only [codeXX, findLabel]
    cases e : (codeXX C a).2 l with
    | some f =>
      rw [e] at h1
      obtain ⟨rest, hr1, hr2⟩ := h1
      rw [hr1]
      exact ⟨_, rfl, fun st gs x st' gs' h => CodeOK.seq hr2 gb.1 h⟩
    | none =>
      rw [e] at h1
      rw [h1]
      exact h2
  | cond c a b iha ihb =>
    intro hL
    refine ⟨fun st gs x st' gs' h => ?_, fun l => rfl⟩
    simp only [codeXX] at h
    have hLa : LOK P C kp a := fun id b hb => hL id b (by simp [blocksOf, hb])
    have hLb : LOK P C kp b := fun id b hb => hL id b (by simp [blocksOf, hb])
    split at h
    · rename_i y cc hc
      have key : ∀ (t : Bool) (okx : Bool), (okx = true → cc = true ∧ y = t) → (CodeOK P kp (if t then a else b) ⟨st.tm, st.n, st.mem, st.nxt, okx && st.ok⟩ x st') → CodeOK P kp (.cond c a b) st x st' := by
        intro t okx hx hk
        refine ⟨fun hok => (and_split (hk.1 hok)).2, fun hok base φ a' w hr => ?_⟩
        obtain ⟨h2, h1⟩ := and_split (hk.1 hok)
        obtain ⟨rfl, rfl⟩ := hx h2
        exact wp_cond (VR_bool.1 (rd_ok hr.tm hc)) (hk.2 hok base φ a' w ⟨hr.tm, hr.n, hr.mem, hr.defers⟩)
      split at h
      · split at h
        · exact key true _ (fun hx => by simpa using hx) ((iha hLa).1 _ _ _ _ _ h)
        · exact key false _ (fun hx => by simpa using hx) ((ihb hLb).1 _ _ _ _ _ h)
        · cases h
      · split at h
        · exact key true _ (fun hx => ⟨hx, rfl⟩) ((iha hLa).1 _ _ _ _ _ h)
        · exact key false _ (fun hx => ⟨hx, rfl⟩) ((ihb hLb).1 _ _ _ _ _ h)
    · cases h
  | block id b ih =>
    intro hL
    refine ⟨fun st gs x st' gs' h => ?_, fun l => rfl⟩
    simp only [codeXX] at h
    split at h
    · rename_i f hf
      split at h
      · rename_i x' s hs
        simp only [Option.some.injEq, Prod.mk.injEq] at h
        obtain ⟨rfl, rfl, rfl⟩ := h
        obtain ⟨hf, hu⟩ := blkL_some hf
        have := hL id b (by simp [blocksOf]) f hf _ _ _ hs
        rw [hu] at this
        exact this
      · cases h
    · have hLb : LOK P C kp b := fun id' b' hb => hL id' b' (by simp [blocksOf, hb])
      split at h
      · rename_i j s g hs
        have h1 := (ih hLb).1 _ _ _ _ _ hs
        cases hj : Nat.beq j id <;> rw [hj] at h
        · simp only [cond_false, Option.some.injEq, Prod.mk.injEq] at h
          obtain ⟨rfl, rfl, rfl⟩ := h
          refine ⟨h1.1, fun hok base φ a w hr => wp_block (wp_mono (h1.2 hok base φ a w hr) ?_)⟩
          rintro e a' w' ⟨he, hrest⟩
          cases e <;> simp only [EX] at he
          subst he
          simp only [Exit.inBlock]
          rw [if_neg (by intro e; subst e; simp at hj)]
          exact ⟨rfl, hrest⟩
        · simp only [cond_true, Option.some.injEq, Prod.mk.injEq] at h
          obtain ⟨rfl, rfl, rfl⟩ := h
          have hj := Nat.eq_of_beq_eq_true hj
          subst hj
          refine ⟨h1.1, fun hok base φ a w hr => wp_block (wp_mono (h1.2 hok base φ a w hr) ?_)⟩
          rintro e a' w' ⟨he, hrest⟩
          cases e <;> simp only [EX] at he
          subst he
          simp only [Exit.inBlock, if_true]
          exact ⟨trivial, hrest⟩
      · rename_i hne
        have h1 := (ih hLb).1 _ _ _ _ _ h
        refine ⟨h1.1, fun hok base φ a w hr => wp_block (wp_mono (h1.2 hok base φ a w hr) ?_)⟩
        rintro e a' w' ⟨he, hrest⟩
        cases e with
        | normal => exact ⟨he, hrest⟩
        | exit j => cases x <;> simp only [EX] at he; exact absurd h (hne _ _ _)
        | ret => exact ⟨he, hrest⟩
        | goto l => exact ⟨he, hrest⟩
        | panic c => exact ⟨he, hrest⟩
        | outgrown => cases x <;> simp [EX] at he
  | loop b ih =>
    intro hL
    refine ⟨fun st gs x st' gs' h => ?_, fun l => rfl⟩
    simp only [codeXX] at h
    have hLb : LOK P C kp b := fun id' b' hb => hL id' b' (by simpa [blocksOf] using hb)
    have := CodeOK.loop (P := P) (C := C) (kp := kp) (b := b) (fun st gs x st' gs' h => (ih hLb).1 _ _ _ _ _ h) C.lf st gs x st' gs' h
    exact ⟨this.1, fun hok base φ a w hr => wp_loop_rounds C.lf (this.2 hok base φ a w hr)⟩
  | exit id =>
    intro _
    refine ⟨fun st gs x st' gs' h => ?_, fun l => rfl⟩
    simp only [codeXX, Option.some.injEq, Prod.mk.injEq] at h
    obtain ⟨rfl, rfl, rfl⟩ := h
    exact ⟨fun h => h, fun _ base φ a w hr => wp_exit ⟨rfl, φ, Phi.leK_refl _, hr, Below.refl _ _⟩⟩
  | ret =>
    intro _
    refine ⟨fun st gs x st' gs' h => ?_, fun l => rfl⟩
    simp only [codeXX, Option.some.injEq, Prod.mk.injEq] at h
    obtain ⟨rfl, rfl, rfl⟩ := h
    exact ⟨fun h => h, fun _ base φ a w hr => wp_ret ⟨trivial, φ, Phi.leK_refl _, hr, Below.refl _ _⟩⟩
  | scope b ih =>
    intro hL
    refine ⟨fun st gs x st' gs' h => ?_, fun l => rfl⟩
    simp only [codeXX] at h
    have hLb : LOK P C kp b := fun id' b' hb => hL id' b' (by simpa [blocksOf] using hb)
    have hg := ih hLb
    have h1 := jumpX_ok hg C.lf (y := b) (st := st) (fun x s g hx => hg.1 _ _ _ _ _ hx) h
    exact ⟨h1.1, fun hok base φ a w hr => wp_scope_n (h1.2 hok base φ a w hr)⟩
  | label j =>
    intro _
    refine ⟨fun st gs x st' gs' h => ?_, fun l => ?_⟩
    · simp only [codeXX, Option.some.injEq, Prod.mk.injEq] at h
      obtain ⟨rfl, rfl, rfl⟩ := h
      exact ⟨id, fun _ base φ a w hr => wp_label ⟨trivial, φ, Phi.leK_refl _, hr, Below.refl _ _⟩⟩
    · simp only [codeXX, findLabel]
      cases e : Nat.beq j l
      · have : ¬ j = l := fun h => by subst h; simp at e
        simp [this]
      · have := Nat.eq_of_beq_eq_true e
        subst this
        simp only [cond_true, beq_self_eq_true, if_true]
        refine ⟨_, rfl, fun st gs x st' gs' h => ?_⟩
        simp only [Option.some.injEq, Prod.mk.injEq] at h
        obtain ⟨rfl, rfl, rfl⟩ := h
        exact ⟨id, fun _ base φ a w hr => wp_skip ⟨trivial, φ, Phi.leK_refl _, hr, Below.refl _ _⟩⟩
  | goto l =>
    intro _
    refine ⟨fun st gs x st' gs' h => ?_, fun l => rfl⟩
    simp only [codeXX, Option.some.injEq, Prod.mk.injEq] at h
    obtain ⟨rfl, rfl, rfl⟩ := h
    exact ⟨fun h => h, fun _ base φ a w hr => wp_goto ⟨rfl, φ, Phi.leK_refl _, hr, Below.refl _ _⟩⟩
  | _ => intro _; exact ⟨fun st gs x st' gs' h => by simp [codeXX] at h, fun l => rfl⟩
theorem codeX_ok {P : Program} {C : Cx} (hC : CxOK P C) {kp : Nat} {c : Code} (hL : LOK P C kp c) {st : St} {gs : List Bool} {x : X} {st' : St} {gs' : List Bool} (h : codeX C c st gs = some (x, st', gs')) : CodeOK P kp c st x st' :=
  (codeXX_ok hC hL).1 _ _ _ _ _ h
end Go.GX

namespace Go.GX
set_option linter.unusedSimpArgs false
set_option linter.unusedVariables false
set_option linter.unusedSectionVars false
open Go.RowKit (Below)
section
variable [DefL]
def putArgs : List V → Nat → TM → TM
  | [], _, tm => tm
  | v :: r, i, tm => putArgs r (i + 1) (tm.set i (v, true))
def resX (Θ : Tab) (st : St) : List ResultVar → Option (List V × Bool)
  | [] => some ([], true)
  | .tmp t :: r => match st.tm.get t, resX Θ st r with
    | some (v, c), some (l, d) => bif isTup v.t then none else some (v :: l, c && d)
    | _, _ => none
  | .cell a t :: r => match Θ t, st.tm.get a, resX Θ st r with
    | some ti, some (⟨.ptr, some p⟩, c), some (l, d) => match loadX st.mem ti.ty p with
      | some (v, e) => some (v :: l, c && (d && e))
      | none => none
    | _, _, _ => none
def mkTup : List V → V
  | [] => ⟨.tnil, ()⟩
  | v :: r => ⟨.tup v.t (mkTup r).t, (v.x, (mkTup r).x)⟩
def oneOf : List V → V
  | [v] => v
  | l => mkTup l
def wantsR (Θ : Tab) (fn : Func) : List (Operand × Option Ty) := (fn.results.toList.zip fn.resultTypes.toList).map fun p => (match p.1 with | .tmp t => .tmp t | .cell a _ => .tmp a, match p.1 with | .tmp _ => (Θ p.2).map (·.ty) | .cell _ _ => none)
def coeR (Θ : Tab) : List V → List TypeId → List V
  | v :: l, t :: ts => (match Θ t with | some ti => coeV ti.ty v | none => v) :: coeR Θ l ts
  | l, _ => l
def resY (Θ : Tab) (fn : Func) (st : St) : Option (V × St × Bool) :=
  match resX Θ (pubs (wantsR Θ fn) st) fn.results.toList with
  | some (l, c) => some (oneOf (coeR Θ l fn.resultTypes.toList), pubs (wantsR Θ fn) st, c && (pubs (wantsR Θ fn) st).ok)
  | none => none
def fnRun (C : Cx) (fn : Func) (gs : List Bool) (args : List V) (mem : Mem) (nxt : Nat) : Option (V × St × Bool) :=
  match fn.body with
  | none => none
  | some c => bif Nat.ble args.length fn.ntmps then
      (match codeX C c ⟨putArgs args 0 .lf, fn.ntmps, mem, nxt, true⟩ gs with
      | some (.exit _, _, _) => none
      | some (.goto _, _, _) => none
      | some (.pan _ _, _, _) => none
      | some (_, st, _) => resY C.Θ fn st
      | none => none) else none
def fnX (C : Cx) (pr : Nat) (fn : Func) (gs : List Bool) : Sm := fun args mem nxt =>
  match pr with
  | 0 => match fnRun C fn gs args mem nxt with
    | some (v, st, ok) => some (v, st.mem, st.nxt, ok)
    | none => none
  | 1 => match fnRun C fn gs args (protect mem) nxt with
    | some (v, _, ok) => bif valV v then some (v, mem, nxt, ok) else none
    | none => none
  | _ => bif args.all valV then
      (match fnRun C fn gs args [] 0 with
      | some (v, _, ok) => bif valV v then some (v, mem, nxt, ok) else none
      | none => none) else none
theorem putArgs_get : ∀ {l : List V} {i : Nat} {tm : TM} {s : Nat} {v : V} {c : Bool}, (putArgs l i tm).get s = some (v, c) → (c = true ∧ i ≤ s ∧ l[s - i]? = some v) ∨ (tm.get s = some (v, c))
  | [], _, _, _, _, _, h => .inr h
  | u :: r, i, tm, s, v, c, h => by
    rcases putArgs_get (l := r) (i := i + 1) h with ⟨h1, h2, h3⟩ | h
    · refine .inl ⟨h1, by omega, ?_⟩
      rw [show s - i = (s - (i + 1)) + 1 from by omega]
      simpa using h3
    · rcases Tr.get_set h with ⟨rfl, he⟩ | ⟨_, h⟩
      · cases he; exact .inl ⟨rfl, Nat.le_refl _, by simp⟩
      · exact .inr h
theorem resX_ok {P : Program} {Θ : Tab} (hΘ : TabOK P Θ) {base : Nat} {φ : Phi} {st : St} {a : Act} {w : World} (hr : Rel base φ st a w) : ∀ {rs : List ResultVar} {l : List V} {c : Bool}, resX Θ st rs = some (l, c) → c = true →
    ∃ xs : List Value, ((rs.mapM fun | .tmp t => pure (a.tmps.getD t undef) | .cell x t => do loadVar t (← asAddr (a.tmps.getD x undef))) : Sem (List Value)).run P w = .ok xs w ∧ xs.length = l.length ∧
      ∀ (i : Nat) v, l[i]? = some v → ∃ x, xs[i]? = some x ∧ V1 φ v.t v.x x ∧ isTup v.t = false
  | [], l, c, h, _ => by
    simp [resX] at h; obtain ⟨rfl, _⟩ := h
    exact ⟨[], by simp [Sem.run_pure], rfl, fun i v hi => by simp at hi⟩
  | .tmp t :: r, l, c, h, hc => by
    simp only [resX] at h
    split at h
    · rename_i v c1 l1 d h1 h2
      cases ht : isTup v.t <;> rw [ht] at h
      · simp only [cond_false, Option.some.injEq, Prod.mk.injEq] at h
        obtain ⟨rfl, rfl⟩ := h
        obtain ⟨hc1, hd⟩ := and_split hc
        subst hc1; subst hd
        obtain ⟨xs, hx, hl, hg⟩ := resX_ok hΘ hr h2 rfl
        refine ⟨a.tmps.getD t undef :: xs, ?_, by simp [hl], fun i u hi => ?_⟩
        · simp only [List.mapM_cons, Sem.run_bind, Sem.run_pure, Result.andThen]
          rw [hx]
        · cases i with
          | zero => simp at hi; subst hi; exact ⟨_, rfl, V1_of_VR ht ((hr.tm _ _ _ h1).1 rfl), ht⟩
          | succ i => simpa using hg i u (by simpa using hi)
      · cases h
    · cases h
  | .cell y t :: r, l, c, h, hc => by
    simp only [resX] at h
    split at h
    · rename_i ti p c1 l1 d hti h1 h2
      split at h
      · rename_i v e hld
        simp only [Option.some.injEq, Prod.mk.injEq] at h
        obtain ⟨rfl, rfl⟩ := h
        obtain ⟨hc1, hd⟩ := and_split hc
        obtain ⟨hd, he⟩ := and_split hd
        subst hc1; subst hd; subst he
        obtain ⟨xs, hx, hl, hg⟩ := resX_ok hΘ hr h2 rfl
        obtain ⟨ad, had, hav⟩ := VR_ptr.1 ((hr.tm _ _ _ h1).1 rfl)
        have hT := hΘ.get hti
        obtain ⟨z, hz, hzr⟩ := loadX_ok hT hr.mem hld had
        have hvt : v.t = ti.ty := by
          unfold loadX at hld
          split at hld
          · split at hld
            · split at hld
              · rename_i h3
                simp only [Option.some.injEq, Prod.mk.injEq] at hld
                rw [← hld.1]; exact h3
              · cases hld
            · cases hld
          · cases hld
        have hnt : isTup v.t = false := by rw [hvt]; exact hT.tup
        refine ⟨z :: xs, ?_, by simp [hl], fun i u hi => ?_⟩
        · have hasa : (asAddr (a.tmps.getD y undef)).run P w = .ok ad w := by rw [hav]; rfl
          simp only [List.mapM_cons, Sem.run_bind, Sem.run_pure, Result.andThen, hasa, hz]
          rw [hx]
        · cases i with
          | zero => simp at hi; subst hi; exact ⟨_, rfl, V1_of_VR hnt hzr, hnt⟩
          | succ i => simpa using hg i u (by simpa using hi)
      · cases h
    · cases h
theorem mkTup_ok {φ : Phi} : ∀ {l : List V} {xs : List Value}, xs.length = l.length → (∀ (i : Nat) v, l[i]? = some v → ∃ x, xs[i]? = some x ∧ V1 φ v.t v.x x ∧ isTup v.t = false) → TR φ (mkTup l).t (mkTup l).x xs ∧ isTup (mkTup l).t = true
  | [], xs, hl, _ => by
    have : xs = [] := List.length_eq_zero_iff.1 (by simpa using hl)
    subst this
    exact ⟨rfl, rfl⟩
  | v :: r, x :: xs, hl, h => by
    obtain ⟨x', hx', hv, _⟩ := h 0 v rfl
    simp at hx'; subst hx'
    have := mkTup_ok (l := r) (xs := xs) (by simpa using hl) (fun i u hi => by simpa using h (i + 1) u (by simpa using hi))
    exact ⟨⟨x, xs, rfl, hv, this.1⟩, rfl⟩
theorem coeR_ok {φ : Phi} {Θ : Tab} : ∀ {l : List V} {ts : List TypeId} {xs : List Value}, xs.length = l.length → (∀ (i : Nat) v, l[i]? = some v → ∃ x, xs[i]? = some x ∧ V1 φ v.t v.x x ∧ isTup v.t = false) →
    xs.length = (coeR Θ l ts).length ∧ ∀ (i : Nat) v, (coeR Θ l ts)[i]? = some v → ∃ x, xs[i]? = some x ∧ V1 φ v.t v.x x ∧ isTup v.t = false
  | [], ts, xs, hl, h => by
    have e : coeR Θ [] ts = [] := by cases ts <;> rfl
    rw [e]; exact ⟨hl, h⟩
  | v :: l, [], xs, hl, h => ⟨hl, h⟩
  | v :: l, t :: ts, [], hl, h => by simp at hl
  | v :: l, t :: ts, x :: xs, hl, h => by
    obtain ⟨h1, h2⟩ := coeR_ok (Θ := Θ) (l := l) (ts := ts) (xs := xs) (by simpa using hl) (fun i u hi => by simpa using h (i + 1) u (by simpa using hi))
    refine ⟨by simp [coeR, h1], fun i u hi => ?_⟩
    cases i with
    | zero =>
      simp only [coeR, List.getElem?_cons_zero, Option.some.injEq] at hi
      subst hi
      obtain ⟨x', hx', hv, ht⟩ := h 0 v rfl
      simp at hx'; subst hx'
      refine ⟨x, rfl, ?_⟩
      split
      · rename_i ti _
        have hc := coeV_ok (t := ti.ty) (VR_of_V1 ht hv)
        have htt : isTup (coeV ti.ty v).t = false := by
          unfold coeV
          split
          · split
            · rfl
            · exact ht
          · exact ht
        exact ⟨V1_of_VR htt hc, htt⟩
      · exact ⟨hv, ht⟩
    | succ i => simpa using h2 i u (by simpa [coeR] using hi)
theorem resY_ok {P : Program} {Θ : Tab} (hΘ : TabOK P Θ) {base : Nat} {φ : Phi} {st s : St} {a : Act} {w : World} {fn : Func} {v : V} (hr : Rel base φ st a w) (h : resY Θ fn st = some (v, s, true)) :
    ∃ ψ, φ.le ψ ∧ Rel base ψ s a w ∧ st.ok = true ∧ ∃ z, (results fn a.tmps).run P w = .ok z w ∧ VR ψ v z := by
  unfold resY at h
  split at h
  · rename_i l cc hres
    simp only [Option.some.injEq, Prod.mk.injEq] at h
    obtain ⟨rfl, rfl, hok⟩ := h
    obtain ⟨hcc, hok1⟩ := and_split hok
    subst hcc
    obtain ⟨ψ, hle, hr2⟩ := pubs_ok hr hok1
    obtain ⟨ys, hy, hlen0, hget0⟩ := resX_ok hΘ hr2 hres rfl
    obtain ⟨hlen, hget⟩ := coeR_ok (Θ := Θ) (ts := fn.resultTypes.toList) hlen0 hget0
    have hrun : (results fn a.tmps).run P w = .ok (if h : ys.toArray.size = 1 then ys.toArray[0] else .tuple ys.toArray) w := by
      simp only [results, Sem.run_bind]
      rw [Array.mapM_eq_mapM_toList]
      simp only [Sem.run_map]
      exact congrArg (fun r : Result (List Value) => (r.andThen fun a w' => Result.ok a.toArray w').andThen fun a w' => Sem.run P (pure (if h : a.size = 1 then a[0] else .tuple a)) w') hy
    refine ⟨ψ, hle, hr2, pubs_mono hok1, _, hrun, ?_⟩
    revert hlen hget
    generalize coeR Θ l fn.resultTypes.toList = l'
    intro hlen hget
    match l', ys, hlen, hget with
    | [], [], _, _ => exact (by unfold VR; rw [if_pos (show isTup (mkTup []).t = true from rfl)]; exact ⟨#[], rfl, rfl⟩ : VR ψ (mkTup []) (.tuple #[]))
    | [u], [y], _, hget =>
      obtain ⟨y', hy', hv', ht⟩ := hget 0 u rfl
      simp at hy'; subst hy'
      exact VR_of_V1 ht hv'
    | u1 :: u2 :: r, y1 :: y2 :: ys, hlen, hget =>
      obtain ⟨h1, h2⟩ := mkTup_ok (φ := ψ) hlen hget
      show VR ψ (mkTup (u1 :: u2 :: r)) _
      rw [dif_neg (by simp)]
      unfold VR
      rw [if_pos h2]
      exact ⟨_, rfl, by simpa using h1⟩
  · cases h
end
theorem fnRun_ok {P : Program} {C : Cx} (hC : CxOK P C) {fn : Func} {f : Nat} (hf : P.funcs[f]? = some fn) {nxt : Nat} (hL : ∀ c, fn.body = some c → LOK P C nxt c) {gs : List Bool} {args : List V} {mem : Mem} {v : V} {st : St}
    (h : fnRun C fn gs args mem nxt = some (v, st, true)) {base : Nat} {φ : Phi} {w : World} {xs : Array Value} (hm : MemRel base φ mem nxt w) (hA : AR φ args xs) :
    Calls P f xs w fun e w' => ∃ ψ x, e = .returned x ∧ φ.le ψ ∧ MemRel base ψ st.mem st.nxt w' ∧ Below base w w' ∧ VR ψ v x := by
  unfold fnRun at h
  split at h
  · cases h
  · rename_i c hc
    cases hb : Nat.ble args.length fn.ntmps <;> rw [hb] at h
    · cases h
    · simp only [cond_true] at h
      have hle := Nat.le_of_ble_eq_true hb
      have key : ∀ x st1 g, codeX C c ⟨putArgs args 0 .lf, fn.ntmps, mem, nxt, true⟩ gs = some (x, st1, g) → (∀ i, x ≠ .exit i ∧ x ≠ .goto i ∧ ∀ n, x ≠ .pan i n) → resY C.Θ fn st1 = some (v, st, true) →
          Calls P f xs w fun e w' => ∃ ψ x, e = .returned x ∧ φ.le ψ ∧ MemRel base ψ st.mem st.nxt w' ∧ Below base w w' ∧ VR ψ v x := by
        intro x st1 g hcode hx hres
        have hok1 : st1.ok = true := by
          unfold resY at hres
          split at hres
          · simp only [Option.some.injEq, Prod.mk.injEq] at hres
            exact pubs_mono (and_split hres.2.2).2
          · cases hres
        have hwp := (codeX_ok hC (hL c hc) hcode).2 hok1 base φ { tmps := xs ++ Array.replicate (fn.ntmps - xs.size) undef, defers := [] } w
          ⟨fun s u c' hs => ?_, by simp [hA.1]; omega, hm, rfl⟩
        · refine calls_of_wp hf hc (wp_mono hwp ?_)
          rintro e a' w' ⟨he, ψ, hψ, hr', hb'⟩
          have hψ := hψ.toLe (fun i p hp => (hm.fresh i p hp).1)
          have post : a'.defers = [] ∧ ∃ z, (results fn a'.tmps).run P w' = .ok z w' ∧ (∃ ψ x, Ending.returned z = .returned x ∧ φ.le ψ ∧ MemRel base ψ st.mem st.nxt w' ∧ Below base w w' ∧ VR ψ v x) := by
            obtain ⟨χ, hχ, hr2, _, z, hrun, hz⟩ := resY_ok hC.Θ hr' hres
            exact ⟨hr'.defers, z, hrun, χ, z, rfl, Phi.le_trans hψ hχ, hr2.mem, hb', hz⟩
          cases e with
          | normal => exact post
          | ret => exact post
          | exit j => cases x <;> simp only [EX] at he; exact absurd rfl (hx _).1
          | goto l => cases x <;> simp only [EX] at he; exact absurd rfl (hx _).2.1
          | panic c => cases x <;> simp only [EX] at he; exact absurd rfl ((hx _).2.2 _)
          | outgrown => cases x <;> simp [EX] at he
        · rcases putArgs_get hs with ⟨hc', _, hg⟩ | hg
          · subst hc'
            simp only [Nat.sub_zero] at hg
            obtain ⟨x, hx, hr⟩ := hA.2 s u hg
            refine ⟨fun _ => ?_, fun e => by cases e⟩
            have hsz : s < xs.size := (Array.getElem?_eq_some_iff.1 hx).1
            rw [Array.getD_eq_getD_getElem?, Array.getElem?_append_left hsz, hx]
            exact hr
          · simp [Tr.get] at hg
      split at h
      · cases h
      · cases h
      · cases h
      · rename_i x st1 g hne1 hne2 hne3 hcode
        exact key x st1 g hcode (fun i => ⟨fun e => hne1 i e, fun e => hne2 i e, fun n e => hne3 i n e⟩) h
      · cases h
theorem fnX_ok {P : Program} {C : Cx} (hC : CxOK P C) {fn : Func} {f : Nat} (hf : P.funcs[f]? = some fn) (hL : ∀ kp c, fn.body = some c → LOK P C kp c) {pr : Nat} {gs : List Bool} {args : List V} {mem mem' : Mem} {nxt nxt' : Nat} {v : V}
    (h : fnX C pr fn gs args mem nxt = some (v, mem', nxt', true)) {base : Nat} {φ : Phi} {w : World} {xs : Array Value} (hm : MemRel base φ mem nxt w) (hA : AR φ args xs) :
    Calls P f xs w fun e w' => ∃ ψ x, e = .returned x ∧ φ.le ψ ∧ MemRel base ψ mem' nxt' w' ∧ Below base w w' ∧ VR ψ v x := by
  unfold fnX at h
  split at h
  · split at h
    · rename_i v' st ok hr
      simp only [Option.some.injEq, Prod.mk.injEq] at h
      obtain ⟨rfl, rfl, rfl, rfl⟩ := h
      exact fnRun_ok hC hf (hL _) hr hm hA
    · cases h
  · split at h
    · rename_i v' st ok hr
      cases hp : valV v' <;> rw [hp] at h
      · cases h
      · simp only [cond_true, Option.some.injEq, Prod.mk.injEq] at h
        obtain ⟨rfl, rfl, rfl, rfl⟩ := h
        refine (fnRun_ok hC hf (hL _) hr hm.protect (hA.mono (φ.sub_rise _))).mono ?_
        rintro e w' ⟨ψ, x, rfl, h1, h2, h3, h4⟩
        obtain ⟨g1, g2⟩ := hm.back (φ0 := φ.rise w.heap.size) rfl rfl h1 h2 h3
        exact ⟨_, x, rfl, g1, g2, h3.mono hm.base, valV_ok (φ := ψ) (ψ := φ.with ψ.imm) (fun _ _ h => h) hp h4⟩
    · cases h
  · cases hpa : args.all valV <;> rw [hpa] at h
    · cases h
    · simp only [cond_true] at h
      split at h
      · rename_i v' st ok hr
        cases hp : valV v' <;> rw [hp] at h
        · cases h
        · simp only [cond_true, Option.some.injEq, Prod.mk.injEq] at h
          obtain ⟨rfl, rfl, rfl, rfl⟩ := h
          refine (fnRun_ok hC hf (hL _) hr (MemRel.nil w hm.imm) ⟨hA.1, fun i v hi => ?_⟩).mono ?_
          · obtain ⟨x, hx, hxr⟩ := hA.2 i v hi
            exact ⟨x, hx, valV_ok (φ := φ) (ψ := φ.bare w.heap.size) (fun _ _ h => h) (List.all_eq_true.1 hpa v (List.mem_of_getElem? hi)) hxr⟩
          · rintro e w' ⟨ψ, x, rfl, h1, h2, h3, h4⟩
            obtain ⟨g1, g2⟩ := hm.back (φ0 := φ.bare w.heap.size) rfl rfl h1 h2 h3
            exact ⟨_, x, rfl, g1, g2, h3.mono hm.base, valV_ok (φ := ψ) (ψ := φ.with ψ.imm) (fun _ _ h => h) hp h4⟩
      · cases h
structure FI where
  fn : Func
  pr : Nat
def FOK (P : Program) (F : Nat → Option FI) : Prop := ∀ f i, F f = some i → P.funcs[f]? = some i.fn ∧ ∀ args w, (callFunc f args).run P w = .ok (.enter f args) w
def KX (Θ : Tab) (F : Nat → Option FI) (D : Kn) (lf : Nat) : Nat → Kn
  | 0 => D
  | n + 1 => fun f => match D f with
    | some g => some g
    | none => match F f with
      | some i => some (fnX ⟨false, Θ, KX Θ F D lf n, lf, fun _ => none, fun _ => none⟩ i.pr i.fn [])
      | none => none
theorem KX_ok {P : Program} {Θ : Tab} {F : Nat → Option FI} {D : Kn} {lf : Nat} (hΘ : TabOK P Θ) (hF : FOK P F) (hD : KOK P D) (hmix : P.follows .mixedOrders = true) : ∀ n, KOK P (KX Θ F D lf n)
  | 0 => hD
  | n + 1 => by
    intro f g hg
    simp only [KX] at hg
    split at hg
    · rename_i g' hd
      cases hg
      exact hD f g hd
    · split at hg
      · rename_i i hi
        cases hg
        obtain ⟨h1, h2⟩ := hF f i hi
        refine ⟨h2, fun args mem nxt v mem' nxt' hr base φ w xs hm hA => ?_⟩
        exact fnX_ok ⟨hΘ, KX_ok hΘ hF hD hmix n, hmix, POK.none⟩ h1 (fun kp c _ id b _ f hf => by cases hf) hr hm hA
      · cases hg
end Go.GX
namespace Go.GX
def Tr.allP {α : Type} (p : Nat → α → Prop) : Tr α → (a b : Nat) → Prop
  | .lf, _, _ => True
  | .nd l v r, a, b => (∀ x, v = some x → p b x) ∧ l.allP p (2 * a) (a + b) ∧ r.allP p (2 * a) (2 * a + b)
theorem Tr.allP_get {α : Type} {p : Nat → α → Prop} : ∀ {t : Tr α} {a b : Nat}, t.allP p a b → ∀ {n : Nat} {x : α}, t.get n = some x → p (a * n + b) x
  | .lf, _, _, _, _, _, h => by simp [get] at h
  | .nd l v r, a, b, h, n, x, hg => by
    obtain ⟨h1, h2, h3⟩ := h
    simp only [get] at hg
    rcases Nat.eq_zero_or_pos n with hn | hn
    · subst hn
      simp at hg; subst hg
      simpa using h1 x rfl
    · rw [beq_pos hn] at hg
      simp only [cond_false] at hg
      by_cases ho : n % 2 = 1
      · rw [beq_odd ho] at hg
        have := allP_get h2 hg
        rw [show 2 * a * Nat.div n 2 + (a + b) = a * n + b from by
          have e : n = 2 * (n / 2) + 1 := by omega
          have : a * n = a * (2 * (n / 2) + 1) := congrArg (a * ·) e
          rw [Nat.mul_add] at this
          have e2 : 2 * a * (n / 2) = a * (2 * (n / 2)) := by rw [Nat.mul_comm 2 a, Nat.mul_assoc]
          show 2 * a * (n / 2) + (a + b) = _
          omega] at this
        exact this
      · rw [beq_even ho] at hg
        have := allP_get h3 hg
        rw [show 2 * a * Nat.sub (Nat.div n 2) 1 + (2 * a + b) = a * n + b from by
          have e : n = 2 * (n / 2 - 1) + 2 := by omega
          have : a * n = a * (2 * (n / 2 - 1) + 2) := congrArg (a * ·) e
          rw [Nat.mul_add] at this
          have e2 : 2 * a * (n / 2 - 1) = a * (2 * (n / 2 - 1)) := by rw [Nat.mul_comm 2 a, Nat.mul_assoc]
          show 2 * a * (n / 2 - 1) + (2 * a + b) = _
          omega] at this
        exact this
theorem TabOK.of {P : Program} {t : Tr TI} (h : t.all (chk P (fun n => t.get n)) 1 0 = true) : TabOK P (fun n => t.get n) := fun n x hn => by
  have := Tr.all_get h hn
  simpa using this
theorem FOK.of {P : Program} {t : Tr FI} (h : t.allP (fun f i => P.funcs[f]? = some i.fn ∧ ∀ args w, (callFunc f args).run P w = .ok (.enter f args) w) 1 0) : FOK P (fun n => t.get n) := fun n x hn => by
  have := Tr.allP_get h hn
  simpa using this
end Go.GX

namespace Go.GX
set_option linter.unusedSimpArgs false
set_option linter.unusedVariables false
set_option linter.unusedSectionVars false
open Go.RowKit (Below)
variable [DefL]
def pubBox (st : St) (s : Nat) : St :=
  match st.tm.get s with
  | some (⟨.ptr, some p⟩, true) => match p.path, Mem.getC st.mem p.id with
    | [0], some b => bif b.wr && (Nat.beq b.n 1 && valT b.t) then ⟨st.tm.set s (⟨.vptr b.t, b.row.getD 0 (dflt b.t)⟩, true), st.n, frz st.mem p.id b, st.nxt, st.ok⟩ else st
    | _, _ => st
  | _ => st
theorem pubBox_mono {st : St} {s : Nat} (h : (pubBox st s).ok = true) : st.ok = true := by
  unfold pubBox at h
  split at h
  · split at h
    · rename_i b _ _
      cases hb : b.wr && (Nat.beq b.n 1 && valT b.t) <;> rw [hb] at h
      · exact h
      · exact h
    · exact h
  · exact h
theorem pubBox_ok {base : Nat} {φ : Phi} {st : St} {a : Act} {w : World} (hr : Rel base φ st a w) {s : Nat} : ∃ ψ, φ.le ψ ∧ Rel base ψ (pubBox st s) a w := by
  have same : ∃ ψ, φ.le ψ ∧ Rel base ψ st a w := ⟨φ, Phi.le_refl _, hr⟩
  unfold pubBox
  split
  · rename_i p hs
    split
    · rename_i b hp hb
      obtain ⟨hb, hbnt⟩ := Mem.getC_spec hb
      cases hbb : b.wr && (Nat.beq b.n 1 && valT b.t)
      · exact same
      · simp only [cond_true]
        obtain ⟨hbw, hbb⟩ := and_split hbb
        obtain ⟨hn1, hval⟩ := and_split hbb
        have hn1 := Nat.eq_of_beq_eq_true hn1
        obtain ⟨ad, had, hav⟩ := VR_ptr.1 ((hr.tm _ _ _ hs).1 rfl)
        obtain ⟨ph, hph⟩ := addr_phys had
        have hbr := hr.mem.blkAt hb hph
        obtain ⟨cs, el, fr, h1, h2, h3⟩ := hbr.cells hbnt
        obtain ⟨hbs, rfl, him, hcap, hsz⟩ := h3 hbw
        have hadd : ad = ⟨ph.blk, ph.off, none⟩ := by
          unfold addr at had
          have h0 : offs b.t [] = some 0 := by cases b.t <;> rfl
          simp only [hph, hp, hbr.t] at had
          simp only [offs, h0, Option.map_some, Nat.add_zero, Nat.zero_mul, Option.some.injEq] at had
          exact had.symm
        let ψ : Phi := ⟨φ.ad, fun k => if k = ph.blk then some (.cells cs el (0, 0)) else φ.imm k, φ.lo⟩
        have hle : φ.le ψ := ⟨⟨fun _ _ h => h, fun k o h => by
          show (if k = ph.blk then _ else φ.imm k) = some o
          rw [if_neg (by intro e; subst e; rw [him] at h; cases h)]; exact h⟩, fun k o h => by
          have h : (if k = ph.blk then _ else φ.imm k) = some o := h
          by_cases e : k = ph.blk
          · exact .inr (by rw [hr.mem.lo, e]; exact hbs)
          · rw [if_neg e] at h; exact .inl h, rfl⟩
        refine ⟨ψ, hle, fun j v c hj => ?_, hr.n, ⟨fun i b' hi => ?_, fun i j b1 b2 p1 p2 hi hj hij hw g1 g2 => ?_, hr.mem.fresh, hr.mem.lo, hr.mem.base, fun k o hk => ?_⟩, hr.defers⟩
        · rcases Tr.get_set hj with ⟨rfl, he⟩ | ⟨_, hj⟩
          · cases he
            refine ⟨fun _ => ?_, fun e => by cases e⟩
            rw [VR_vptr]
            unfold CR
            refine ⟨ad, hav, by rw [hadd], cs, el, (0, 0), by rw [hadd]; show (if ph.blk = ph.blk then _ else _) = _; rw [if_pos rfl], ?_⟩
            rw [CRs_iff]
            intro i d hi
            have e1 : flat (.arr b.n b.t) b.row = flat b.t (b.row.getD 0 (dflt b.t)) := by rw [hn1]; simp [flat, List.range_succ]
            obtain ⟨v, hv, hx⟩ := h2 i d (by show (flat (.arr b.n b.t) b.row)[i]? = some d; rw [e1]; exact hi)
            refine ⟨v, ?_, CR_mono hle hx⟩
            rw [List.getElem?_drop, Array.getElem?_toList, hadd]
            exact hv
          · obtain ⟨q1, q2⟩ := hr.tm j v c hj
            exact ⟨fun hc => VR_mono hle (q1 hc), q2⟩
        · rcases Mem.get_set _ _ _ _ _ hi with ⟨rfl, rfl⟩ | ⟨hne, hi⟩
          · exact .inr ⟨ph, hph, hbr.t, fun e => (by cases e), hbr.mp.same hle.1 rfl, fun _ => ⟨cs, el, (0, 0), h1, fun k d hk => let ⟨v, hv, hx⟩ := h2 k d hk; ⟨v, hv, CR_mono hle hx⟩, fun e => by cases e⟩⟩
          · rcases hr.mem.blk i b' hi with g | ⟨ph', hp', hr'⟩
            · exact .inl g
            · refine .inr ⟨ph', hp', hr'.same hle (fun hw' h0 => ?_) rfl⟩
              show (if ph'.blk = ph.blk then _ else φ.imm ph'.blk) = none
              rw [if_neg (hr.mem.apart i p.id b' b ph' ph hi hb hne hw' hp' hph)]
              exact h0
        · rcases Mem.get_set _ _ _ _ _ hi with ⟨rfl, rfl⟩ | ⟨_, hi⟩
          · cases hw
          · rcases Mem.get_set _ _ _ _ _ hj with ⟨rfl, rfl⟩ | ⟨_, hj⟩
            · exact hr.mem.apart i p.id b1 b p1 p2 hi hb hij hw g1 g2
            · exact hr.mem.apart i j b1 b2 p1 p2 hi hj hij hw g1 g2
        · have hk : (if k = ph.blk then _ else φ.imm k) = some o := hk
          by_cases e : k = ph.blk
          · rw [if_pos e] at hk; cases hk; rw [e]; exact h1
          · rw [if_neg e] at hk; exact hr.mem.imm k o hk
    · exact same
  · exact same
def pubBs (mark : Nat → Bool) : List Nat → St → St
  | [], st => st
  | s :: r, st => pubBs mark r (bif mark s then pubBox st s else st)
theorem pubBs_mono {mark : Nat → Bool} : ∀ {l : List Nat} {st : St}, (pubBs mark l st).ok = true → st.ok = true
  | [], _, h => h
  | s :: r, st, h => by
    have := pubBs_mono (l := r) h
    cases hm : mark s <;> rw [hm] at this
    · exact this
    · exact pubBox_mono this
theorem pubBs_ok {base : Nat} {a : Act} {w : World} {mark : Nat → Bool} : ∀ {l : List Nat} {φ : Phi} {st : St}, Rel base φ st a w → ∃ ψ, φ.le ψ ∧ Rel base ψ (pubBs mark l st) a w
  | [], φ, _, hr => ⟨φ, Phi.le_refl _, hr⟩
  | s :: r, φ, st, hr => by
    have h1 : ∃ ψ, φ.le ψ ∧ Rel base ψ (bif mark s then pubBox st s else st) a w := by
      cases mark s
      · exact ⟨φ, Phi.le_refl _, hr⟩
      · exact pubBox_ok hr
    obtain ⟨ψ, h2, h3⟩ := h1
    obtain ⟨χ, h4, h5⟩ := pubBs_ok (l := r) (mark := mark) h3
    exact ⟨χ, Phi.le_trans h2 h4, h5⟩
end Go.GX

namespace Go.GX
set_option linter.unusedSimpArgs false
set_option linter.unusedVariables false
set_option linter.unusedSectionVars false
open Go.RowKit (Below)
variable [DefL]
def noDst (s : Nat) (ops : List Oper) : Bool := ops.all fun o => match o.dst with | some d => !(Nat.beq d s) | none => true
def pkOp (Θ : Tab) (s : Nat) (kd : IntKind) (n : Int) (o : Oper) : Oper := match o.op with
  | .load t (.tmp s') => bif Nat.beq s' s && (match Θ t with | some ti => decide (ti.ty = .int kd) | none => false) then ⟨o.dst, .assign (.const (.int kd n)), o.type, o.pos, o.after, o.guard⟩ else o
  | _ => o
def pkBox (st : St) (s : Nat) : Option (Nat × Blk × IntKind × Int) := match st.tm.get s with
  | some (⟨.ptr, some p⟩, true) => match p.path, Mem.getC st.mem p.id with
    | [0], some ⟨.int kd, n, row, wr⟩ => bif wr && Nat.beq n 1 then some (p.id, ⟨.int kd, n, row, wr⟩, kd, row.getD 0 0) else none
    | _, _ => none
  | _ => none
def pkSt (st : St) (i : Nat) (b : Blk) : St := ⟨st.tm, st.n, frz st.mem i b, st.nxt, st.ok⟩
structure PkFact (ψ : Phi) (st : St) (s : Nat) (kd : IntKind) (n : Int) : Prop where
  ex : ∃ i ph cs el fr, st.tm.get s = some (⟨.ptr, some ⟨i, [0]⟩⟩, true) ∧ ψ i = some ph ∧ ψ.imm ph.blk = some (.cells cs el fr) ∧ cs[ph.off]? = some (.int kd n)
theorem pkBox_ok {base : Nat} {φ : Phi} {st : St} {a : Act} {w : World} (hr : Rel base φ st a w) {s i : Nat} {b : Blk} {kd : IntKind} {n : Int} (h : pkBox st s = some (i, b, kd, n)) :
    ∃ ψ, φ.le ψ ∧ Rel base ψ (pkSt st i b) a w ∧ PkFact ψ (pkSt st i b) s kd n := by
  unfold pkBox at h
  split at h
  · rename_i p hs
    split at h
    · rename_i kd' bn row wr hp hb
      cases hw : wr && Nat.beq bn 1 <;> rw [hw] at h
      · cases h
      · simp only [cond_true, Option.some.injEq, Prod.mk.injEq] at h
        obtain ⟨rfl, rfl, rfl, rfl⟩ := h
        obtain ⟨hbw, hn1⟩ := and_split hw
        have hn1 := Nat.eq_of_beq_eq_true hn1
        subst hn1; subst hbw
        obtain ⟨hb, hbnt⟩ := Mem.getC_spec hb
        obtain ⟨ad, had, hav⟩ := VR_ptr.1 ((hr.tm _ _ _ hs).1 rfl)
        obtain ⟨ph, hph⟩ := addr_phys had
        have hbr := hr.mem.blkAt hb hph
        obtain ⟨cs, el, fr, h1, h2, h3⟩ := hbr.cells hbnt
        obtain ⟨hbs, rfl, him, hcap, hsz⟩ := h3 rfl
        let ψ : Phi := ⟨φ.ad, fun k => if k = ph.blk then some (.cells cs el (0, 0)) else φ.imm k, φ.lo⟩
        have hle : φ.le ψ := ⟨⟨fun _ _ h => h, fun k o h => by
          show (if k = ph.blk then _ else φ.imm k) = some o
          rw [if_neg (by intro e; subst e; rw [him] at h; cases h)]; exact h⟩, fun k o h => by
          have h : (if k = ph.blk then _ else φ.imm k) = some o := h
          by_cases e : k = ph.blk
          · exact .inr (by rw [hr.mem.lo, e]; exact hbs)
          · rw [if_neg e] at h; exact .inl h, rfl⟩
        refine ⟨ψ, hle, ⟨fun j v c hj => ?_, hr.n, ⟨fun i b' hi => ?_, fun i j b1 b2 p1 p2 hi hj hij hw g1 g2 => ?_, hr.mem.fresh, hr.mem.lo, hr.mem.base, fun k o hk => ?_⟩, hr.defers⟩, ⟨p.id, ph, cs, el, (0, 0), ?_, hph, ?_, ?_⟩⟩
        · obtain ⟨q1, q2⟩ := hr.tm j v c hj
          exact ⟨fun hc => VR_mono hle (q1 hc), q2⟩
        · rcases Mem.get_set _ _ _ _ _ hi with ⟨rfl, rfl⟩ | ⟨hne, hi⟩
          · exact .inr ⟨ph, hph, hbr.t, fun e => (by cases e), hbr.mp.same hle.1 rfl, fun _ => ⟨cs, el, (0, 0), h1, fun k d hk => let ⟨v, hv, hx⟩ := h2 k d hk; ⟨v, hv, CR_mono hle hx⟩, fun e => by cases e⟩⟩
          · rcases hr.mem.blk i b' hi with g | ⟨ph', hp', hr'⟩
            · exact .inl g
            · refine .inr ⟨ph', hp', hr'.same hle (fun hw' h0 => ?_) rfl⟩
              show (if ph'.blk = ph.blk then _ else φ.imm ph'.blk) = none
              rw [if_neg (hr.mem.apart i p.id b' _ ph' ph hi hb hne hw' hp' hph)]
              exact h0
        · rcases Mem.get_set _ _ _ _ _ hi with ⟨rfl, rfl⟩ | ⟨_, hi⟩
          · cases hw
          · rcases Mem.get_set _ _ _ _ _ hj with ⟨rfl, rfl⟩ | ⟨_, hj⟩
            · exact hr.mem.apart i p.id b1 _ p1 p2 hi hb hij hw g1 g2
            · exact hr.mem.apart i j b1 b2 p1 p2 hi hj hij hw g1 g2
        · have hk : (if k = ph.blk then _ else φ.imm k) = some o := hk
          by_cases e : k = ph.blk
          · rw [if_pos e] at hk; cases hk; rw [e]; exact h1
          · rw [if_neg e] at hk; exact hr.mem.imm k o hk
        · show st.tm.get s = some (⟨.ptr, some ⟨p.id, [0]⟩⟩, true)
          rw [hs, ← hp]
        · show (if ph.blk = ph.blk then _ else _) = _
          rw [if_pos rfl]
        · obtain ⟨v, hv, hx⟩ := h2 0 (.c0 (.int kd' (row.getD 0 0))) (by simp [flat, Blk.val, List.range_succ]; rfl)
          unfold CR at hx
          have hx : v = .int kd' (row.getD 0 0) := hx
          rw [hx, Nat.add_zero] at hv
          exact hv
    · cases h
  · cases h
theorem load_at {P : Program} {Θ : Tab} {t : Nat} {ti : TI} (hT : TIOK P Θ t ti) {kd : IntKind} (ht : ti.ty = .int kd) {w : World} {k o : Nat} {cs : Array Value} {el : TypeId} {fr} {n : Int} (hk : w.heap[k]? = some (.cells cs el fr)) (hc : cs[o]? = some (.int kd n)) :
    (loadVar t ⟨k, o, none⟩).run P w = .ok (.int kd n) w := by
  obtain ⟨v, hv, hr⟩ := run_loadVar (φ := ⟨fun _ => none, fun _ => none, 0⟩) hT (x := ht ▸ (n : (Ty.int kd).den)) (w := w) (k := k) (o := o) (fun i c hi => by
    obtain ⟨ty, b, sub, cmp⟩ := ti
    simp only at ht
    subst ht
    cases i with
    | zero =>
      simp [flat] at hi; subst hi
      exact ⟨.int kd n, by simp only [World.cell?, hk, Nat.add_zero]; exact hc, by unfold CR; rfl⟩
    | succ i => simp [flat] at hi)
  rw [hv]
  obtain ⟨ty, b, sub, cmp⟩ := ti
  simp only at ht
  subst ht
  have := VR_int.1 (VR_of_V1 (t := .int kd) rfl hr)
  rw [this]
theorem pk_rep {P : Program} {Θ : Tab} (hΘ : TabOK P Θ) {ops : Array Oper} {s : Nat} {kd : IntKind} {n : Int} {ψ : Phi} {st : St} (hf : PkFact ψ st s kd n) (hd : noDst s ops.toList = true) {Q : Exit → Act → World → Prop} (F : Nat → St) (hF : F 0 = st) :
    Rep P (ops.toList.map (pkOp Θ s kd n)).toArray ops Q (JZ ψ (ops.toList.map (pkOp Θ s kd n)).toArray F) := by
  have hget : ∀ (i : Nat) o, (ops.toList.map (pkOp Θ s kd n)).toArray[i]? = some o → ∃ o0, ops[i]? = some o0 ∧ o = pkOp Θ s kd n o0 := by
    intro i o h
    rw [List.getElem?_toArray, List.getElem?_map, Option.map_eq_some_iff] at h
    obtain ⟨o0, h0, rfl⟩ := h
    exact ⟨o0, by simpa using h0, rfl⟩
  have hdst : ∀ o, (pkOp Θ s kd n o).dst = o.dst ∧ (pkOp Θ s kd n o).after = o.after ∧ (pkOp Θ s kd n o).guard = o.guard := by
    intro o
    unfold pkOp
    split
    · rename_i t s' _
      cases Nat.beq s' s && _ <;> exact ⟨rfl, rfl, rfl⟩
    · exact ⟨rfl, rfl, rfl⟩
  refine ⟨fun i o hi => ?_, fun i o hi => ?_⟩
  · obtain ⟨o0, h0, rfl⟩ := hget i o hi
    obtain ⟨d1, d2, d3⟩ := hdst o0
    refine ⟨o0, h0, d1.symm, d2.symm, d3.symm, fun a w hJ next h => ?_⟩
    unfold pkOp at h
    split at h
    · rename_i t s' hop
      cases hb : Nat.beq s' s && (match Θ t with | some ti => decide (ti.ty = .int kd) | none => false) <;> rw [hb] at h
      · exact h
      · simp only [cond_true] at h
        obtain ⟨h1, h2⟩ := and_split hb
        have h1 := Nat.eq_of_beq_eq_true h1
        subst h1
        split at h2
        · rename_i ti hti
          have hty := of_decide_eq_true h2
          obtain ⟨j, ph, cs, el, fr, g1, g2, g3, g4⟩ := hf.ex
          obtain ⟨φ, hle, himm, hsl⟩ := hJ
          have hv := hsl s' (fun k o2 hk e => by
            obtain ⟨o3, k1, rfl⟩ := hget k o2 hk
            rw [(hdst o3).1] at e
            unfold noDst at hd
            rw [List.all_eq_true] at hd
            have := hd o3 (by rw [Array.mem_toList_iff]; exact Array.mem_of_getElem? k1)
            rw [e] at this
            simp at this) _ (by rw [hF]; exact g1)
          obtain ⟨ad, had, hav⟩ := VR_ptr.1 hv
          have hadd : ad = ⟨ph.blk, ph.off, none⟩ := by
            unfold addr at had
            have h0 : offs ph.t [] = some 0 := by cases ph.t <;> rfl
            simp only [hle.ad _ _ g2] at had
            simp only [offs, h0, Option.map_some, Nat.add_zero, Nat.zero_mul, Option.some.injEq] at had
            exact had.symm
          subst hadd
          have hrun := load_at (hΘ.get hti) hty (himm _ _ (hle.imm _ _ g3)) g4
          obtain ⟨dst, op, type, pos, after, guard⟩ := o0
          simp only at hop
          subst hop
          have e1 : (execOp a.eval ⟨dst, .load t (.tmp s'), type, pos, after, guard⟩).run P w = .ok (.value (.int kd n)) w := by
            refine run_v ?_
            have hav' : a.eval (.tmp s') = .pointer (some ⟨ph.blk, ph.off, none⟩) := hav
            simp only [Instr.loadAt, hav', Instr.sureAddr, Sem.run_bind, Sem.run_pure, Result.andThen]
            exact hrun
          unfold Oper.wp at h ⊢
          rw [e1]
          exact h
        · cases h2
    · exact h
  · have hl : i < (ops.toList.map (pkOp Θ s kd n)).toArray.size := by
      have := (Array.getElem?_eq_some_iff.1 hi).1
      simpa using this
    exact ⟨_, Array.getElem?_eq_getElem hl⟩
def drawK (Θ : Tab) (K : Kn) (s : Nat) (ops : List Oper) (st : St) : Option St := match pkBox st s with
  | some (i, b, kd, n) => bif noDst s ops then drawZ Θ K (ops.map (pkOp Θ s kd n)) (pkSt st i b) else none
  | none => none
theorem drawK_ok {P : Program} {Θ : Tab} {K : Kn} (hΘ : TabOK P Θ) (hK : KOK P K) (hmix : P.follows .mixedOrders = true) {s : Nat} {ops : Array Oper} {base : Nat} {Q : Exit → Act → World → Prop} {st st' : St} {φ : Phi} {a : Act} {w : World} {id : Nat}
    (h : drawK Θ K s ops.toList st = some st') (hok : st'.ok = true) (hr : Rel base φ st a w) (hQ : ∀ ψ a' w', φ.le ψ → Rel base ψ st' a' w' → Below base w w' → Q .normal a' w') : (Code.region id ops true).wp P Q a w := by
  unfold drawK at h
  split at h
  · rename_i i b kd n hpk
    cases hd : noDst s ops.toList <;> rw [hd] at h
    · cases h
    · simp only [cond_true] at h
      obtain ⟨ψ, hle, hr2, hf⟩ := pkBox_ok hr hpk
      exact drawZ_okR (ops := (ops.toList.map (pkOp Θ s kd n)).toArray) hΘ hK hmix (by simp) (fun F hF => pk_rep hΘ hf hd F hF) (by simpa using h) hok hr2 (fun ψ' a' w' h0 h1 h2 => hQ ψ' a' w' (Phi.le_trans hle h0) h1 h2)
  · cases h
theorem drawK_mono {Θ : Tab} {K : Kn} {s : Nat} {ops : List Oper} {st st' : St} (hs : drawK Θ K s ops st = some st') (hok : st'.ok = true) : st.ok = true := by
  unfold drawK at hs
  split at hs
  · rename_i i b kd n hpk
    cases hd : noDst s ops <;> rw [hd] at hs
    · cases hs
    · have := drawZ_mono (st := pkSt st i b) (by simpa using hs) hok
      exact this
  · cases hs
end Go.GX

namespace Go.GX
set_option linter.unusedSimpArgs false
set_option linter.unusedVariables false
set_option linter.unusedSectionVars false
open Go.RowKit (Below)
section
variable [DefL]
theorem Tr.put_same {α : Type} : ∀ (f : Nat) (t : Tr α) (n : Nat) (x : α), n + 1 < 2 ^ f → t.get n = some x → put f t n x = t
  | 0, _, _, _, h, _ => by simp at h
  | f + 1, .lf, n, x, _, h => by simp [get] at h
  | f + 1, .nd l v r, n, x, hlt, h => by
    have hp : 2 ^ (f + 1) = 2 * 2 ^ f := by rw [Nat.pow_succ, Nat.mul_comm]
    simp only [get] at h
    simp only [put]
    rcases Nat.eq_zero_or_pos n with hn | hn
    · subst hn
      simp at h; subst h; rfl
    · rw [beq_pos hn] at h ⊢
      simp only [cond_false] at h ⊢
      by_cases ho : n % 2 = 1
      · rw [beq_odd ho] at h ⊢
        simp only [cond_true] at h ⊢
        rw [Tr.put_same f l (Nat.div n 2) x (by show n / 2 + 1 < _; omega) h]
      · rw [beq_even ho] at h ⊢
        simp only [cond_false] at h ⊢
        rw [Tr.put_same f r (Nat.sub (Nat.div n 2) 1) x (by show (n / 2 - 1) + 1 < _; omega) h]
theorem Tr.set_same {α : Type} {t : Tr α} {n : Nat} {x : α} (hn : Nat.blt n 1000000 = true) (h : t.get n = some x) : t.set n x = t :=
  Tr.put_same 40 t n x (Nat.lt_of_lt_of_le (Nat.succ_lt_succ (Nat.le_of_ble_eq_true hn)) (by decide)) h
def slotOf (ops : List Oper) (j : Nat) : Option Nat := match ops[j]? with | some o => o.dst | none => none
def opGo (Θ : Tab) (K : Kn) (st : St) (o : Oper) (g : Bool) : Option St :=
  match g with
  | true => opRun Θ K st o
  | false => match putV st.tm st.n o.dst (some dummy) false with | some tm => some ⟨tm, st.n, st.mem, st.nxt, st.ok⟩ | none => none
def regionT {ρ : Type} (Θ : Tab) (K : Kn) (ops : List Oper) : List Oper → St → (St → Option ρ) → Option ρ
  | [], st, k => k st
  | o :: r, st, k => match o.guard with
    | none => match opRun Θ K st o with | some s => regionT Θ K ops r s k | none => none
    | some (j, want) => match slotOf ops j with
      | none => none
      | some d => match st.tm.get d with
        | some (⟨.bool, b⟩, true) => bif Nat.blt d 1000000 then
            (bif b then (match opGo Θ K ⟨st.tm.set d (⟨.bool, true⟩, true), st.n, st.mem, st.nxt, st.ok⟩ o want with | some s => regionT Θ K ops r s k | none => none)
            else (match opGo Θ K ⟨st.tm.set d (⟨.bool, false⟩, true), st.n, st.mem, st.nxt, st.ok⟩ o (!want) with | some s => regionT Θ K ops r s k | none => none)) else none
        | some (_, false) => match opGo Θ K st o false with | some s => regionT Θ K ops r s k | none => none
        | _ => none
theorem opS_guard {Θ : Tab} {K : Kn} {ops : List Oper} {st : St} {o : Oper} {j : Nat} {want g : Bool} (hg : o.guard = some (j, want)) (h : guardV st.tm ops j want = some g) : opS false Θ K ops st o = opGo Θ K st o g := by
  unfold opS
  rw [hg]
  simp only
  rw [h]
  cases g
  · simp only [cond_false, opGo]
    cases putV st.tm st.n o.dst (some dummy) false <;> rfl
  · rfl
theorem regionT_spec {ρ : Type} {Θ : Tab} {K : Kn} {ops : List Oper} {r : ρ} : ∀ {l : List Oper} {st : St} {k : St → Option ρ}, regionT Θ K ops l st k = some r → ∃ s, regionX false Θ K ops l st = some s ∧ k s = some r
  | [], st, k, h => ⟨st, rfl, h⟩
  | o :: rest, st, k, h => by
    simp only [regionT] at h
    have go : ∀ {s1 : Option St}, opS false Θ K ops st o = s1 → (match s1 with | some s => regionT Θ K ops rest s k | none => none) = some r → ∃ s, regionX false Θ K ops (o :: rest) st = some s ∧ k s = some r := by
      intro s1 hs h
      simp only [regionX]
      rw [hs]
      cases s1 with
      | none => cases h
      | some s => exact regionT_spec h
    split at h
    · rename_i hg
      refine go ?_ h
      unfold opS; rw [hg]
    · rename_i j want hg
      split at h
      · cases h
      · rename_i d hd
        have hgv : ∀ {x : V × Bool}, st.tm.get d = some x → guardV st.tm ops j want = (match x with | (⟨.bool, b⟩, c) => some (c && (bif want then b else !b)) | (_, false) => some false | _ => none) := by
          intro x hx
          unfold slotOf at hd
          unfold guardV
          cases ho' : ops[j]? with
          | none => rw [ho'] at hd; cases hd
          | some o' =>
            rw [ho'] at hd
            simp only at hd
            simp only [hd, hx]
            obtain ⟨⟨t, y⟩, c⟩ := x
            cases t <;> cases c <;> rfl
        split at h
        · rename_i b hb
          cases hlt : Nat.blt d 1000000 <;> rw [hlt] at h
          · cases h
          · simp only [cond_true] at h
            have hgv := hgv hb
            cases b
            · simp only [cond_false] at h
              rw [Tr.set_same hlt hb] at h
              exact go (opS_guard hg (by rw [hgv]; cases want <;> rfl)) h
            · simp only [cond_true] at h
              rw [Tr.set_same hlt hb] at h
              exact go (opS_guard hg (by rw [hgv]; cases want <;> rfl)) h
        · rename_i x hx
          refine go (opS_guard (g := false) hg ?_) h
          rw [hgv hx]
          obtain ⟨t, y⟩ := x
          cases t <;> rfl
        · cases h
def drawGo (Θ : Tab) (K : Kn) (mem : Mem) (nxt : Nat) (tm : TM) (o : Oper) : Bool → Option (V × Bool × Bool)
  | true => match tameX Θ K tm mem nxt o with | some (v, c) => some (v, true, c) | none => none
  | false => some (dummy, false, true)
def drawLT {ρ : Type} (Θ : Tab) (K : Kn) (ops : List Oper) (mem : Mem) (nxt : Nat) : List Oper → TM → Bool → (TM → Bool → Option ρ) → Option ρ
  | [], tm, ok, k => k tm ok
  | o :: r, tm, ok, k => match o.guard, o.dst with
    | _, none => none
    | none, some d => match tameX Θ K tm mem nxt o with
      | some (v, c) => drawLT Θ K ops mem nxt r (tm.set d (v, true)) (c && ok) k
      | none => none
    | some (j, want), some d => match slotOf ops j with
      | none => none
      | some e => match tm.get e with
        | some (⟨.bool, b⟩, true) => bif Nat.blt e 1000000 then
            (bif b then (match drawGo Θ K mem nxt (tm.set e (⟨.bool, true⟩, true)) o want with | some (v, g, c) => drawLT Θ K ops mem nxt r ((tm.set e (⟨.bool, true⟩, true)).set d (v, g)) (c && ok) k | none => none)
            else (match drawGo Θ K mem nxt (tm.set e (⟨.bool, false⟩, true)) o (!want) with | some (v, g, c) => drawLT Θ K ops mem nxt r ((tm.set e (⟨.bool, false⟩, true)).set d (v, g)) (c && ok) k | none => none)) else none
        | some (_, false) => drawLT Θ K ops mem nxt r (tm.set d (dummy, false)) ok k
        | _ => none
theorem entry_guard {Θ : Tab} {K : Kn} {ops : List Oper} {tm : TM} {mem : Mem} {nxt : Nat} {o : Oper} {j : Nat} {want g : Bool} (hg : o.guard = some (j, want)) (h : guardV tm ops j want = some g) :
    entry false Θ K ops tm mem nxt o = drawGo Θ K mem nxt tm o g := by
  unfold entry
  rw [hg]
  simp only
  rw [h]
  cases g
  · rfl
  · simp only [cond_true, drawGo]
    cases tameX Θ K tm mem nxt o <;> rfl
theorem drawLT_spec {ρ : Type} {Θ : Tab} {K : Kn} {ops : List Oper} {mem : Mem} {nxt : Nat} {r : ρ} : ∀ {l : List Oper} {tm : TM} {ok : Bool} {k : TM → Bool → Option ρ}, drawLT Θ K ops mem nxt l tm ok k = some r →
    ∃ tmN okN, drawL false Θ K ops mem nxt l tm ok = some (tmN, okN) ∧ k tmN okN = some r
  | [], tm, ok, k, h => ⟨tm, ok, rfl, h⟩
  | o :: rest, tm, ok, k, h => by
    simp only [drawLT] at h
    split at h
    · cases h
    · rename_i d hg hd
      split at h
      · rename_i v c ht
        obtain ⟨tmN, okN, h1, h2⟩ := drawLT_spec h
        refine ⟨tmN, okN, ?_, h2⟩
        simp only [drawL, entry, hg, ht, hd, Option.map_some]
        exact h1
      · cases h
    · rename_i j want d hg hd
      have go : ∀ {e : Option (V × Bool × Bool)}, entry false Θ K ops tm mem nxt o = e → (match e with | some (v, g, c) => drawLT Θ K ops mem nxt rest (tm.set d (v, g)) (c && ok) k | none => none) = some r →
          ∃ tmN okN, drawL false Θ K ops mem nxt (o :: rest) tm ok = some (tmN, okN) ∧ k tmN okN = some r := by
        intro e he h
        split at h
        · rename_i v g c
          obtain ⟨tmN, okN, h1, h2⟩ := drawLT_spec h
          refine ⟨tmN, okN, ?_, h2⟩
          simp only [drawL]
          rw [he, hd]
          exact h1
        · cases h
      split at h
      · cases h
      · rename_i e hs
        have hgv : ∀ {x : V × Bool}, tm.get e = some x → guardV tm ops j want = (match x with | (⟨.bool, b⟩, c) => some (c && (bif want then b else !b)) | (_, false) => some false | _ => none) := by
          intro x hx
          unfold slotOf at hs
          unfold guardV
          cases ho' : ops[j]? with
          | none => rw [ho'] at hs; cases hs
          | some o' =>
            rw [ho'] at hs
            simp only at hs
            simp only [hs, hx]
            obtain ⟨⟨t, y⟩, c⟩ := x
            cases t <;> cases c <;> rfl
        split at h
        · rename_i b hb
          cases hlt : Nat.blt e 1000000 <;> rw [hlt] at h
          · cases h
          · simp only [cond_true] at h
            have hgv := hgv hb
            cases b
            · simp only [cond_false] at h
              rw [Tr.set_same hlt hb] at h
              exact go (entry_guard hg (by rw [hgv]; cases want <;> rfl)) h
            · simp only [cond_true] at h
              rw [Tr.set_same hlt hb] at h
              exact go (entry_guard hg (by rw [hgv]; cases want <;> rfl)) h
        · rename_i x hx
          refine go (e := some (dummy, false, true)) (entry_guard (g := false) hg ?_) h
          rw [hgv hx]
          obtain ⟨t, y⟩ := x
          cases t <;> rfl
        · cases h
def drawT {ρ : Type} (Θ : Tab) (K : Kn) (ops : List Oper) (st : St) (k : St → Option ρ) : Option ρ :=
  bif Nat.ble st.n 1000000 && depsOK ops [] 0 st.n then
    drawLT Θ K ops st.mem st.nxt ops st.tm true fun tm ok => k ⟨tm, st.n, st.mem, st.nxt, ok && st.ok⟩
  else none
theorem drawT_spec {ρ : Type} {Θ : Tab} {K : Kn} {ops : List Oper} {st : St} {k : St → Option ρ} {r : ρ} (h : drawT Θ K ops st k = some r) : ∃ s, drawX false Θ K ops st = some s ∧ k s = some r := by
  unfold drawT at h
  unfold drawX
  cases hb : Nat.ble st.n 1000000 && depsOK ops [] 0 st.n <;> rw [hb] at h
  · cases h
  · simp only [cond_true] at h ⊢
    obtain ⟨tmN, okN, h1, h2⟩ := drawLT_spec h
    rw [h1]
    exact ⟨_, rfl, h2⟩
def walkGo {ρ : Type} (Θ : Tab) (K : Kn) (B nxt0 : Nat) (f : Nat → TM → Mem → Bool → List Ent → Option ρ) (tm : TM) (mem : Mem) (ok : Bool) (acc : List Ent) (o : Oper) (j : Nat) : Bool → Option ρ
  | true => match stepY Θ K tm mem B (nxt0 + j) o with
    | some y => match setY tm o.dst true y with | some tm' => f (j + 1) tm' (memY mem y) (y.ok && ok) (⟨tm, mem, true, y⟩ :: acc) | none => none
    | none => none
  | false => match setY tm o.dst false ⟨none, [], [], true, []⟩ with | some tm' => f (j + 1) tm' mem ok (⟨tm, mem, false, ⟨none, [], [], true, []⟩⟩ :: acc) | none => none
def walkYT {ρ : Type} (Θ : Tab) (K : Kn) (ops : List Oper) (B nxt0 : Nat) (k : List Ent → TM → Mem → Bool → Option ρ) : List Oper → Nat → TM → Mem → Bool → List Ent → Option ρ
  | [], _, tm, mem, ok, acc => k acc.reverse tm mem ok
  | o :: r, j, tm, mem, ok, acc => match o.guard with
    | none => match stepY Θ K tm mem B (nxt0 + j) o with
      | some y => match setY tm o.dst true y with | some tm' => walkYT Θ K ops B nxt0 k r (j + 1) tm' (memY mem y) (y.ok && ok) (⟨tm, mem, true, y⟩ :: acc) | none => none
      | none => none
    | some (jg, want) => match slotOf ops jg with
      | none => none
      | some e => match tm.get e with
        | some (⟨.bool, b⟩, true) => bif Nat.blt e 1000000 then
            (bif b then walkGo Θ K B nxt0 (walkYT Θ K ops B nxt0 k r) (tm.set e (⟨.bool, true⟩, true)) mem ok acc o j want
            else walkGo Θ K B nxt0 (walkYT Θ K ops B nxt0 k r) (tm.set e (⟨.bool, false⟩, true)) mem ok acc o j (!want)) else none
        | some (_, false) => walkGo Θ K B nxt0 (walkYT Θ K ops B nxt0 k r) tm mem ok acc o j false
        | _ => none
theorem walkGo_spec {ρ : Type} {Θ : Tab} {K : Kn} {ops : List Oper} {B nxt0 : Nat} {k : List Ent → TM → Mem → Bool → Option ρ} {r : ρ} {f : Nat → TM → Mem → Bool → List Ent → Option ρ} {rest : List Oper}
    (hf : ∀ j tm mem ok acc, f j tm mem ok acc = some r → ∃ E tmN memN okN, walkY Θ K ops B nxt0 rest j tm mem ok = some (E, tmN, memN, okN) ∧ k (acc.reverse ++ E) tmN memN okN = some r)
    {tm : TM} {mem : Mem} {ok : Bool} {acc : List Ent} {o : Oper} {j : Nat} {g : Bool} (he : entryY Θ K ops tm mem B (nxt0 + j) o = bif g then (stepY Θ K tm mem B (nxt0 + j) o).map fun y => (true, y) else some (false, ⟨none, [], [], true, []⟩))
    (h : walkGo Θ K B nxt0 f tm mem ok acc o j g = some r) : ∃ E tmN memN okN, walkY Θ K ops B nxt0 (o :: rest) j tm mem ok = some (E, tmN, memN, okN) ∧ k (acc.reverse ++ E) tmN memN okN = some r := by
  cases g
  · simp only [walkGo] at h
    split at h
    · rename_i tm' hs
      obtain ⟨E, tmN, memN, okN, h1, h2⟩ := hf _ _ _ _ _ h
      refine ⟨⟨tm, mem, false, ⟨none, [], [], true, []⟩⟩ :: E, tmN, memN, okN, ?_, by simpa using h2⟩
      simp only [cond_false] at he
      simp only [walkY, he, hs]
      rw [show memY mem ⟨none, [], [], true, []⟩ = mem from rfl, Bool.true_and, h1]
    · cases h
  · simp only [walkGo] at h
    split at h
    · rename_i y hy
      split at h
      · rename_i tm' hs
        obtain ⟨E, tmN, memN, okN, h1, h2⟩ := hf _ _ _ _ _ h
        refine ⟨⟨tm, mem, true, y⟩ :: E, tmN, memN, okN, ?_, by simpa using h2⟩
        rw [hy] at he
        simp only [cond_true, Option.map_some] at he
        simp only [walkY, he, hs, h1]
      · cases h
    · cases h
theorem walkYT_spec {ρ : Type} {Θ : Tab} {K : Kn} {ops : List Oper} {B nxt0 : Nat} {k : List Ent → TM → Mem → Bool → Option ρ} {r : ρ} : ∀ {l : List Oper} {j : Nat} {tm : TM} {mem : Mem} {ok : Bool} {acc : List Ent},
    walkYT Θ K ops B nxt0 k l j tm mem ok acc = some r → ∃ E tmN memN okN, walkY Θ K ops B nxt0 l j tm mem ok = some (E, tmN, memN, okN) ∧ k (acc.reverse ++ E) tmN memN okN = some r
  | [], j, tm, mem, ok, acc, h => ⟨[], tm, mem, ok, rfl, by simpa [walkYT] using h⟩
  | o :: rest, j, tm, mem, ok, acc, h => by
    have hf : ∀ j tm mem ok acc, walkYT Θ K ops B nxt0 k rest j tm mem ok acc = some r → ∃ E tmN memN okN, walkY Θ K ops B nxt0 rest j tm mem ok = some (E, tmN, memN, okN) ∧ k (acc.reverse ++ E) tmN memN okN = some r :=
      fun j tm mem ok acc h => walkYT_spec h
    simp only [walkYT] at h
    split at h
    · rename_i hg
      refine walkGo_spec (f := walkYT Θ K ops B nxt0 k rest) (g := true) hf ?_ h
      unfold entryY; rw [hg]; rfl
    · rename_i jg want hg
      split at h
      · cases h
      · rename_i e hs
        have hgv : ∀ {x : V × Bool}, tm.get e = some x → guardV tm ops jg want = (match x with | (⟨.bool, b⟩, c) => some (c && (bif want then b else !b)) | (_, false) => some false | _ => none) := by
          intro x hx
          unfold slotOf at hs
          unfold guardV
          cases ho' : ops[jg]? with
          | none => rw [ho'] at hs; cases hs
          | some o' =>
            rw [ho'] at hs
            simp only at hs
            simp only [hs, hx]
            obtain ⟨⟨t, y⟩, c⟩ := x
            cases t <;> cases c <;> rfl
        have hent : ∀ g, guardV tm ops jg want = some g → entryY Θ K ops tm mem B (nxt0 + j) o = bif g then (stepY Θ K tm mem B (nxt0 + j) o).map fun y => (true, y) else some (false, ⟨none, [], [], true, []⟩) := by
          intro g h
          unfold entryY
          rw [hg]
          simp only
          rw [h]
          cases g <;> rfl
        split at h
        · rename_i b hb
          cases hlt : Nat.blt e 1000000 <;> rw [hlt] at h
          · cases h
          · simp only [cond_true] at h
            have hgv := hgv hb
            cases b
            · simp only [cond_false] at h
              rw [Tr.set_same hlt hb] at h
              exact walkGo_spec hf (hent _ (by rw [hgv]; cases want <;> rfl)) h
            · simp only [cond_true] at h
              rw [Tr.set_same hlt hb] at h
              exact walkGo_spec hf (hent _ (by rw [hgv]; cases want <;> rfl)) h
        · rename_i x hx
          refine walkGo_spec (g := false) hf (hent false ?_) h
          rw [hgv hx]
          obtain ⟨t, y⟩ := x
          cases t <;> rfl
        · cases h
def drawPT0 {ρ : Type} (Θ : Tab) (K : Kn) (ops : List Oper) (st : St) (k : St → Option ρ) : Option ρ :=
  bif quietD false st.n ops then drawT Θ K ops st k
  else bif Nat.ble st.n 1000000 && allIdx (depY st.n ops) ops 0 then
    walkYT Θ K ops (st.nxt + ops.length) st.nxt (fun E tmN memN okN => bif confY (predsY ops []) E then k ⟨tmN, st.n, memN, st.nxt + ops.length, okN && st.ok⟩ else none) ops 0 st.tm st.mem true []
  else none
theorem drawPT0_spec {ρ : Type} {Θ : Tab} {K : Kn} {ops : List Oper} {st : St} {k : St → Option ρ} {r : ρ} (h : drawPT0 Θ K ops st k = some r) : ∃ s, drawP0 false Θ K ops st = some s ∧ k s = some r := by
  unfold drawPT0 at h
  unfold drawP0
  cases hq : quietD false st.n ops <;> rw [hq] at h
  · simp only [cond_false] at h ⊢
    unfold drawY
    cases hb : Nat.ble st.n 1000000 && allIdx (depY st.n ops) ops 0 <;> rw [hb] at h
    · cases h
    · simp only [cond_true] at h ⊢
      obtain ⟨E, tmN, memN, okN, h1, h2⟩ := walkYT_spec h
      rw [h1]
      simp only [List.reverse_nil, List.nil_append] at h2 ⊢
      cases hc : confY (predsY ops []) E <;> rw [hc] at h2
      · cases h2
      · exact ⟨_, rfl, h2⟩
  · exact drawT_spec h
def runGo {ρ : Type} (Θ : Tab) (K : Kn) (f : St → List (Bool × Bool) → Option ρ) (st : St) (o : Oper) (fl : List (Bool × Bool)) : Bool → Option ρ
  | true => match opE Θ K st o with | some (s, b) => f s (b :: fl) | none => none
  | false => match opN st o with | some (s, b) => f s (b :: fl) | none => none
def runZT {ρ : Type} (Θ : Tab) (K : Kn) (ops : List Oper) (k : St → List (Bool × Bool) → Option ρ) : List Oper → St → List (Bool × Bool) → Option ρ
  | [], st, fl => k st fl.reverse
  | o :: r, st, fl => match o.guard with
    | none => match opE Θ K st o with | some (s, b) => runZT Θ K ops k r s (b :: fl) | none => none
    | some (j, want) => match slotOf ops j with
      | none => none
      | some d => match st.tm.get d with
        | some (⟨.bool, b⟩, true) => bif Nat.blt d 1000000 then
            (bif b then runGo Θ K (runZT Θ K ops k r) ⟨st.tm.set d (⟨.bool, true⟩, true), st.n, st.mem, st.nxt, st.ok⟩ o fl want
            else runGo Θ K (runZT Θ K ops k r) ⟨st.tm.set d (⟨.bool, false⟩, true), st.n, st.mem, st.nxt, st.ok⟩ o fl (!want)) else none
        | some (_, false) => runGo Θ K (runZT Θ K ops k r) st o fl false
        | _ => none
theorem runZT_spec {ρ : Type} {Θ : Tab} {K : Kn} {ops : List Oper} {r : ρ} {k : St → List (Bool × Bool) → Option ρ} : ∀ {l : List Oper} {st : St} {fl : List (Bool × Bool)}, runZT Θ K ops k l st fl = some r → ∃ s fl', runZ Θ K ops l st = some (s, fl') ∧ k s (fl.reverse ++ fl') = some r
  | [], st, fl, h => ⟨st, [], rfl, by simpa [runZT] using h⟩
  | o :: rest, st, fl, h => by
    simp only [runZT] at h
    have fin : ∀ {s : St} {b : Bool × Bool}, opZ Θ K ops st o = some (s, b) → runZT Θ K ops k rest s (b :: fl) = some r → ∃ s fl', runZ Θ K ops (o :: rest) st = some (s, fl') ∧ k s (fl.reverse ++ fl') = some r := by
      intro s b hs h
      obtain ⟨s', fl', h1, h2⟩ := runZT_spec h
      refine ⟨s', b :: fl', ?_, by simpa using h2⟩
      simp only [runZ, hs, h1]
    have go : ∀ {g : Bool}, opZ Θ K ops st o = (bif g then opE Θ K st o else opN st o) → runGo Θ K (runZT Θ K ops k rest) st o fl g = some r → ∃ s fl', runZ Θ K ops (o :: rest) st = some (s, fl') ∧ k s (fl.reverse ++ fl') = some r := by
      intro g hz h
      cases g
      · simp only [runGo] at h
        split at h
        · rename_i s b hs
          exact fin (by rw [hz]; exact hs) h
        · cases h
      · simp only [runGo] at h
        split at h
        · rename_i s b hs
          exact fin (by rw [hz]; exact hs) h
        · cases h
    split at h
    · rename_i hg
      split at h
      · rename_i s b hs
        exact fin (by unfold opZ; rw [hg]; exact hs) h
      · cases h
    · rename_i j want hg
      have zg : ∀ {g : Bool}, guardV st.tm ops j want = some g → opZ Θ K ops st o = (bif g then opE Θ K st o else opN st o) := by
        intro g hv
        unfold opZ
        rw [hg]
        simp only
        rw [hv]
        cases g <;> rfl
      split at h
      · cases h
      · rename_i d hd
        have hgv : ∀ {x : V × Bool}, st.tm.get d = some x → guardV st.tm ops j want = (match x with | (⟨.bool, b⟩, c) => some (c && (bif want then b else !b)) | (_, false) => some false | _ => none) := by
          intro x hx
          unfold slotOf at hd
          unfold guardV
          cases ho' : ops[j]? with
          | none => rw [ho'] at hd; cases hd
          | some o' =>
            rw [ho'] at hd
            simp only at hd
            simp only [hd, hx]
            obtain ⟨⟨t, y⟩, c⟩ := x
            cases t <;> cases c <;> rfl
        split at h
        · rename_i b hb
          cases hlt : Nat.blt d 1000000 <;> rw [hlt] at h
          · cases h
          · simp only [cond_true] at h
            have hgv := hgv hb
            cases b
            · simp only [cond_false] at h
              rw [Tr.set_same hlt hb] at h
              exact go (zg (by rw [hgv]; cases want <;> rfl)) h
            · simp only [cond_true] at h
              rw [Tr.set_same hlt hb] at h
              exact go (zg (by rw [hgv]; cases want <;> rfl)) h
        · rename_i x hx
          refine go (g := false) (zg ?_) h
          rw [hgv hx]
          obtain ⟨t, y⟩ := x
          cases t <;> rfl
        · cases h
def drawPT {ρ : Type} (Θ : Tab) (K : Kn) (ops : List Oper) (st : St) (k : St → Option ρ) : Option ρ :=
  bif hasCall ops && (Nat.ble st.n 1000000 && allIdx (depY st.n ops) ops 0) then runZT Θ K ops (fun s fl => bif strictZ (predsY ops []) ops fl then k s else drawPT0 Θ K ops st k) ops st []
  else drawPT0 Θ K ops st k
theorem drawPT_spec {ρ : Type} {Θ : Tab} {K : Kn} {ops : List Oper} {st : St} {k : St → Option ρ} {r : ρ} (h : drawPT Θ K ops st k = some r) : ∃ s, drawP false Θ K ops st = some s ∧ k s = some r := by
  unfold drawPT at h
  unfold drawP
  cases hc : hasCall ops
  · rw [hc] at h
    exact drawPT0_spec h
  · rw [hc] at h
    simp only [Bool.true_and] at h
    simp only [cond_true]
    unfold drawZ
    cases hb : Nat.ble st.n 1000000 && allIdx (depY st.n ops) ops 0 <;> rw [hb] at h
    · exact drawPT0_spec h
    · simp only [cond_true] at h ⊢
      obtain ⟨s, fl, h1, h2⟩ := runZT_spec h
      rw [h1]
      simp only [List.reverse_nil, List.nil_append] at h2 ⊢
      cases h3 : strictZ (predsY ops []) ops fl <;> rw [h3] at h2
      · exact drawPT0_spec h2
      · exact ⟨s, rfl, h2⟩
def loopT {ρ : Type} (f : St → (X → St → Option ρ) → Option ρ) (k : X → St → Option ρ) : Nat → St → Option ρ
  | 0, _ => none
  | n + 1, st => f st fun x s => match x with
    | .normal => loopT f k n s
    | x => k x s
def learn (tm : TM) (c : Operand) (b : Bool) : TM :=
  match c with
  | .tmp t => tm.set t (⟨.bool, b⟩, true)
  | _ => tm
theorem learn_ok {φ : Phi} {tm : TM} {a : Act} (ht : TmR φ tm a.tmps) {c : Operand} {b : Bool} (h : a.eval c = .bool b) : TmR φ (learn tm c b) a.tmps := by
  unfold learn
  split
  · rename_i t
    intro s v c' hs
    rcases Tr.get_set hs with ⟨rfl, he⟩ | ⟨_, hs⟩
    · cases he
      exact ⟨fun _ => VR_bool.2 h, fun e => by cases e⟩
    · exact ht s v c' hs
  · exact ht
def altsT {ρ : Type} : List (Bool × X × St) → (X → St → Option ρ) → Option ρ
  | [], _ => none
  | (c, x, s) :: r, k => bif c then k x s else altsT r k
theorem altsT_spec {ρ : Type} {k : X → St → Option ρ} {r : ρ} : ∀ {l : List (Bool × X × St)}, altsT l k = some r → ∃ x s, pickA l = some (x, s) ∧ k x s = some r
  | [], h => by cases h
  | (c, x, s) :: l, h => by
    cases c
    · exact altsT_spec (l := l) h
    · exact ⟨x, s, rfl, h⟩
abbrev RunT (ρ : Type) := St → (X → St → Option ρ) → Option ρ
def jumpT {ρ : Type} (fr : Nat → Option (RunT ρ)) (k : X → St → Option ρ) : Nat → X → St → Option ρ
  | 0, x, s => match x with | .goto _ => none | x => k x s
  | n + 1, x, s => match x with
    | .goto l => match fr l with | some f => f s (jumpT fr k n) | none => none
    | x => k x s
def drawKT {ρ : Type} (Θ : Tab) (K : Kn) (s : Nat) (ops : List Oper) (st : St) (k : St → Option ρ) : Option ρ := match pkBox st s with
  | some (i, b, kd, n) => bif noDst s ops && (Nat.ble st.n 1000000 && allIdx (depY st.n (ops.map (pkOp Θ s kd n))) (ops.map (pkOp Θ s kd n)) 0) then
      runZT Θ K (ops.map (pkOp Θ s kd n)) (fun s' fl => bif strictZ (predsY (ops.map (pkOp Θ s kd n)) []) (ops.map (pkOp Θ s kd n)) fl then k s' else none) (ops.map (pkOp Θ s kd n)) (pkSt st i b) [] else none
  | none => none
theorem drawKT_spec {ρ : Type} {Θ : Tab} {K : Kn} {s : Nat} {ops : List Oper} {st : St} {k : St → Option ρ} {r : ρ} (h : drawKT Θ K s ops st k = some r) : ∃ s', drawK Θ K s ops st = some s' ∧ k s' = some r := by
  unfold drawKT at h
  unfold drawK
  split at h
  · rename_i i b kd n hpk
    cases hb : noDst s ops && (Nat.ble st.n 1000000 && allIdx (depY st.n (ops.map (pkOp Θ s kd n))) (ops.map (pkOp Θ s kd n)) 0) <;> rw [hb] at h
    · cases h
    · simp only [cond_true] at h
      obtain ⟨h1, h2⟩ := and_split hb
      obtain ⟨s', fl, h3, h4⟩ := runZT_spec h
      simp only [List.reverse_nil, List.nil_append] at h4
      cases h5 : strictZ (predsY (ops.map (pkOp Θ s kd n)) []) (ops.map (pkOp Θ s kd n)) fl <;> rw [h5] at h4
      · cases h4
      · refine ⟨s', ?_, h4⟩
        try rw [hpk]
        simp only [h1, cond_true]
        unfold drawZ
        have h2' : (Nat.ble (pkSt st i b).n 1000000 && allIdx (depY (pkSt st i b).n (ops.map (pkOp Θ s kd n))) (ops.map (pkOp Θ s kd n)) 0) = true := h2
        rw [h2', h3]
        simp only [cond_true, h5]
  · cases h
def pkSlot (C : Cx) (ops : List Oper) : Option Nat := (ops.flatMap opdTmps).find? (fun s => match C.L (3000000 + s) with | some _ => true | none => false)
def pubF (C : Cx) (ops : List Oper) (st : St) : St := bif hasCall ops then pubBs (fun s => match C.L (2000000 + s) with | some _ => true | none => false) (ops.flatMap opdTmps) st else st
theorem pubF_mono {C : Cx} {ops : List Oper} {st : St} (h : (pubF C ops st).ok = true) : st.ok = true := by
  unfold pubF at h
  cases hc : hasCall ops <;> rw [hc] at h
  · exact h
  · exact pubBs_mono h
theorem pubF_ok {C : Cx} {ops : List Oper} {base : Nat} {φ : Phi} {st : St} {a : Act} {w : World} (hr : Rel base φ st a w) : ∃ ψ, φ.le ψ ∧ Rel base ψ (pubF C ops st) a w := by
  unfold pubF
  cases hasCall ops
  · exact ⟨φ, Phi.le_refl _, hr⟩
  · exact pubBs_ok hr
def panO (C : Cx) (o : Oper) : Bool := match o.guard with
  | some _ => false
  | none => match o.op with
    | .call ⟨.value (.func f), _, _⟩ => (match C.P f with | some _ => true | none => false)
    | _ => false
def altsP {ρ : Type} (f : Nat → Int → Option ρ) (g : Option ρ) : List (Bool × Nat × Int) → Option ρ
  | [] => g
  | (c, t, n) :: r => bif c then f t n else altsP f g r
def panX (C : Cx) (st : St) (o : Oper) : Option (List (Bool × Nat × Int) × V × Bool × Bool) :=
  match o.op with
  | .call ⟨.value f, args, _⟩ => match rd st.tm f, rds st.tm args.toList with
    | some (⟨.func, .fn f a b⟩, c), some (l, d) => match unpacks a, unpacks b, C.P f with
      | some a, some b, some g => match g (a ++ (l ++ b)) with
        | some (al, v, k) => some (al, v, k, c && d)
        | none => none
      | _, _, _ => none
    | _, _ => none
  | _ => none
def panStep {ρ : Type} (C : Cx) (st : St) (o : Oper) (k : X → St → Option ρ) (k2 : St → Option ρ) : Option ρ :=
  match panX C st o with
  | some (al, v, kk, cd) => altsP (fun t n => k (.pan t n) ⟨st.tm, st.n, st.mem, st.nxt, cd && st.ok⟩)
      (match putV st.tm st.n o.dst (some v) true with | some tm => k2 ⟨tm, st.n, st.mem, st.nxt, kk && (cd && st.ok)⟩ | none => none) al
  | none => none
def mkPan (o : Oper) (r : List Oper) : Option (Nat × Operand × Nat) := match o.op with
  | .makeInterface T x => match o.guard, o.dst, r with
    | none, some d, [o2] => match o2.op, o2.guard with
      | .panic (.tmp d'), none => bif Nat.beq d d' then some (T, x, d) else none
      | _, _ => none
    | _, _, _ => none
  | _ => none
def panI {ρ : Type} (C : Cx) (st : St) (T : Nat) (x : Operand) (d : Nat) (k : X → St → Option ρ) : Option ρ :=
  match C.Θ T, rd st.tm x, st.tm.get d with
  | some ti, some (⟨.pair (.int .i64) .unit, y⟩, c), none => bif Nat.blt d st.n && Nat.beq (kt ti.ty) 9 then k (.pan T y.1) ⟨st.tm, st.n, st.mem, st.nxt, c && st.ok⟩ else none
  | _, _, _ => none
def regionP {ρ : Type} (C : Cx) (ops : List Oper) (k : X → St → Option ρ) : List Oper → List Oper → St → Option ρ
  | [], pre, st => regionT C.Θ C.K ops pre.reverse st (k .normal)
  | o :: r, pre, st => match mkPan o r with
    | some (T, x, d) => regionT C.Θ C.K ops pre.reverse st fun s => panI C s T x d k
    | none => match panO C o with
      | true => regionT C.Θ C.K ops pre.reverse st fun s => panStep C s o k (regionP C ops k r [])
      | false => regionP C ops k r (o :: pre) st
def isPanic (o : Oper) : Bool := match o.op with | .panic _ => true | _ => false
theorem altsP_spec {ρ : Type} {f : Nat → Int → Option ρ} {g : Option ρ} {r : ρ} : ∀ {l : List (Bool × Nat × Int)}, altsP f g l = some r → (∃ t n, pickP l = some (t, n) ∧ f t n = some r) ∨ (pickP l = none ∧ g = some r)
  | [], h => .inr ⟨rfl, h⟩
  | (c, t, n) :: l, h => by
    cases c
    · exact altsP_spec (l := l) h
    · exact .inl ⟨t, n, rfl, h⟩
theorem panStep_mono {ρ : Type} {C : Cx} {st : St} {o : Oper} {k : X → St → Option ρ} {k2 : St → Option ρ} {r : ρ} (h : panStep C st o k k2 = some r) (hk : ∀ x s, k x s = some r → s.ok = true) (hk2 : ∀ s, k2 s = some r → s.ok = true) : st.ok = true := by
  unfold panStep at h
  split at h
  · rcases altsP_spec h with ⟨t, n, _, h⟩ | ⟨_, h⟩
    · exact (and_split (hk _ _ h)).2
    · split at h
      · exact (and_split (and_split (hk2 _ h)).2).2
      · cases h
  · cases h
theorem panI_mono {ρ : Type} {C : Cx} {st : St} {T d : Nat} {x : Operand} {k : X → St → Option ρ} {r : ρ} (h : panI C st T x d k = some r) (hk : ∀ x s, k x s = some r → s.ok = true) : st.ok = true := by
  unfold panI at h
  split at h
  · rename_i ti y c _ _ _
    cases hb : (Nat.blt d st.n && Nat.beq (kt ti.ty) 9) <;> rw [hb] at h
    · cases h
    · exact (and_split (hk _ _ h)).2
  · cases h
theorem panI_ok {ρ : Type} {P : Program} {C : Cx} (hC : CxOK P C) {st : St} {o : Oper} {rest : List Oper} {T d : Nat} {x : Operand} (hm : mkPan o rest = some (T, x, d)) {k : X → St → Option ρ} {r : ρ} (h : panI C st T x d k = some r) (hk : ∀ x s, k x s = some r → s.ok = true)
    {base : Nat} {φ : Phi} {a : Act} {w : World} (hr : Rel base φ st a w) {ops : Array Oper} {Q : Exit → Act → World → Prop}
    (hQ : ∀ n s a', Rel base φ s a' w → k (.pan T n) s = some r → Q (.panic (chainOf T n)) a' w) : wpList P ops Q (o :: rest) a w := by
  unfold mkPan at hm
  split at hm
  · rename_i T' x' hop
    split at hm
    · rename_i d' o2 hg hd
      split at hm
      · rename_i d2 hop2 hg2
        cases hb : Nat.beq d' d2 <;> rw [hb] at hm
        · cases hm
        simp only [cond_true, Option.some.injEq, Prod.mk.injEq] at hm
        obtain ⟨rfl, rfl, rfl⟩ := hm
        have hb := Nat.eq_of_beq_eq_true hb
        subst hb
        unfold panI at h
        split at h
        · rename_i ti y c hti hx hgd
          cases hb : (Nat.blt d' st.n && Nat.beq (kt ti.ty) 9) <;> rw [hb] at h
          · cases h
          simp only [cond_true] at h
          obtain ⟨hlt, hkt⟩ := and_split hb
          have hlt : d' < st.n := Nat.le_of_ble_eq_true hlt
          have hkt := Nat.eq_of_beq_eq_true hkt
          have hc := (and_split (hk _ _ h)).1
          subst hc
          have hv := rd_ok hr.tm hx
          obtain ⟨l, hl, hcl⟩ : ∃ l, a.eval x' = .agg l ∧ CL φ [Cell.c0 (.int .i64 y.1)] l.toList := by
            unfold VR at hv
            rw [if_neg (by simp [isTup])] at hv
            unfold V1 at hv
            rw [if_pos (show isAgg (.pair (.int .i64) .unit) = true from rfl)] at hv
            exact hv
          have hl2 : l = #[.int .i64 y.1] := by
            apply Array.ext'
            obtain ⟨u, hu, hcr⟩ := hcl.2 0 _ rfl
            have hlen : l.toList.length = 1 := hcl.1
            have hcr : u = .int .i64 y.1 := CR_c0.1 hcr
            subst hcr
            match hx : l.toList, hlen with
            | [v], _ => rw [hx] at hu; simp at hu; rw [hu]
          subst hl2
          obtain ⟨dd, hdd, hdu, hdr⟩ := (hC.Θ.get hti).run_underlying
          have hkd := desc_kind hdd
          rw [hkt] at hkd
          have hmi : ∀ w, (Instr.makeInterface T' (a.eval x')).run P w = .ok (.iface T' (.agg #[.int .i64 y.1])) w := by
            intro w
            rw [hl]
            unfold Instr.makeInterface
            simp only [Sem.run_bind, hdr, Result.andThen]
            cases dd <;> first | rfl | (simp [kd] at hkd)
          rw [wpList, if_pos (by simp [Region.wanted, hg])]
          refine .inl ?_
          have hex : (execOp a.eval o).run P w = .ok (.value (.iface T' (.agg #[.int .i64 y.1]))) w := by
            unfold execOp
            rw [hop]
            exact run_v (hmi w)
          unfold Oper.wp
          rw [hex]
          show wpList P ops Q [o2] (a.put o.dst _) w
          rw [hd, wpList, if_pos (by simp [Region.wanted, hg2])]
          refine .inl ?_
          have hev : (a.put (some d') (.iface T' (.agg #[.int .i64 y.1]))).eval (.tmp d') = .iface T' (.agg #[.int .i64 y.1]) := by
            show (a.tmps.setIfInBounds d' _).getD d' undef = _
            rw [Array.getD_eq_getD_getElem?, Array.getElem?_setIfInBounds_self_of_lt (by rw [hr.n]; exact hlt)]
            rfl
          have hex2 : (execOp (a.put (some d') (.iface T' (.agg #[.int .i64 y.1]))).eval o2).run P w = .halt (.panic (.iface T' (.agg #[.int .i64 y.1]))) w := by
            unfold execOp
            rw [hop2]
            simp only [hev]
            rfl
          unfold Oper.wp
          rw [hex2]
          refine hQ _ _ _ ⟨fun s v c hs => ?_, by simp [Act.put, hr.n], hr.mem, hr.defers⟩ h
          have hne : s ≠ d' := fun e => by
            subst e
            have hs : st.tm.get s = some (v, c) := hs
            rw [hgd] at hs; cases hs
          have := hr.tm s v c hs
          have he : (a.put (some d') (.iface T' (.agg #[.int .i64 y.1]))).tmps.getD s undef = a.tmps.getD s undef := by
            show (a.tmps.setIfInBounds d' _).getD s undef = _
            rw [Array.getD_eq_getD_getElem?, Array.getD_eq_getD_getElem?, Array.getElem?_setIfInBounds_ne (fun e => hne e.symm)]
          rw [he]
          exact this
        · cases h
      · cases hm
    · cases hm
  · cases hm
theorem regionP_mono {ρ : Type} {C : Cx} {ops : List Oper} {k : X → St → Option ρ} {r : ρ} (hk : ∀ x s, k x s = some r → s.ok = true) : ∀ {l pre : List Oper} {st : St}, regionP C ops k l pre st = some r → st.ok = true
  | [], pre, st, h => by
    obtain ⟨s, hs, h⟩ := regionT_spec h
    exact regionX_mono hs (hk _ _ h)
  | o :: rest, pre, st, h => by
    simp only [regionP] at h
    split at h
    · obtain ⟨s, hs, h⟩ := regionT_spec h
      exact regionX_mono hs (panI_mono h hk)
    split at h
    · obtain ⟨s, hs, h⟩ := regionT_spec h
      exact regionX_mono hs (panStep_mono h hk (fun s h => regionP_mono hk h))
    · exact regionP_mono hk h
theorem panStep_ok {ρ : Type} {P : Program} {C : Cx} (hC : CxOK P C) {st : St} {o : Oper} (hg : o.guard = none) {k : X → St → Option ρ} {k2 : St → Option ρ} {r : ρ} (h : panStep C st o k k2 = some r) (hk : ∀ x s, k x s = some r → s.ok = true) (hk2 : ∀ s, k2 s = some r → s.ok = true)
    {base : Nat} {φ : Phi} {a : Act} {w : World} (hr : Rel base φ st a w) {next : Act → World → Prop} {Q : Exit → Act → World → Prop}
    (hQ : ∀ t n s w', Rel base φ s a w' → Below base w w' → k (.pan t n) s = some r → Q (.panic (chainOf t n)) a w') (hn : ∀ s ψ a' w', φ.le ψ → Rel base ψ s a' w' → Below base w w' → k2 s = some r → next a' w') : o.wp P a w next Q := by
  obtain ⟨dst, op, type, pos, after, guard⟩ := o
  simp only at hg
  subst hg
  unfold panStep at h
  split at h
  · rename_i al v kk cd hx
    unfold panX at hx
    split at hx
    · rename_i f args ts hop
      simp only at hop
      subst hop
      split at hx
      · rename_i fid fa fb c l d hf hl
        split at hx
        · rename_i ua ub g ha hb hg
          split at hx
          · rename_i al' v' k' hgv
            simp only [Option.some.injEq, Prod.mk.injEq] at hx
            obtain ⟨rfl, rfl, rfl, rfl⟩ := hx
            have hcd : (c && d) = true := by
              rcases altsP_spec h with ⟨t, n, _, h⟩ | ⟨_, h⟩
              · exact (and_split (hk _ _ h)).1
              · split at h
                · exact (and_split (and_split (hk2 _ h)).2).1
                · cases h
            obtain ⟨hc, hd⟩ := and_split hcd
            subst hc hd
            obtain ⟨x, y, hv, hA⟩ := call_args hC.Θ hC.K hr.mem hr.tm hf hl ha hb
            obtain ⟨hcf, hsp⟩ := hC.P fid g hg
            obtain ⟨hval, hsp⟩ := hsp _ _ _ _ hgv
            unfold Oper.wp
            have hrun : (execOp a.eval ⟨dst, .call ⟨.value f, args, ts⟩, type, pos, after, none⟩).run P w = .ok (.enter fid (x ++ args.map a.eval ++ y)) w := by
              simp only [execOp, resolve, hv, Deferred.ofValue, invoke, Sem.run_bind, Sem.run_pure, Result.andThen]
              exact hcf _ _
            rw [hrun]
            show Calls P fid _ w _
            rcases altsP_spec h with ⟨t, n, hp, h⟩ | ⟨hp, h⟩
            · rw [hp] at hsp
              refine (hsp φ w _ hr.mem.imm hA).mono ?_
              rintro e w' ⟨rfl, hb'⟩
              exact hQ t n _ w' ⟨hr.tm, hr.n, hr.mem.same (Below.same hb' (Nat.le_refl _)) (Nat.le_refl _), hr.defers⟩ (hb'.mono hr.mem.base) h
            · rw [hp] at hsp
              split at h
              · rename_i tm htm
                have hkk := (and_split (hk2 _ h)).1
                refine (hsp hkk φ w _ hr.mem.imm hA).mono ?_
                rintro e w' ⟨ψ, m, n, z, rfl, h0, h3, h1, h2⟩
                obtain ⟨g1, g2⟩ := hr.mem.back (φ0 := φ.bare w.heap.size) rfl rfl h0 h3 h2
                obtain ⟨h5, h6, h7⟩ := putV_ok (TmR_mono g1 hr.tm) hr.n htm (x := z) (fun u hu => by cases hu; exact ⟨fun _ => valV_ok (φ := ψ) (ψ := φ.with ψ.imm) (fun _ _ h => h) hval h1, fun e => (by cases e)⟩)
                exact hn ⟨tm, st.n, st.mem, st.nxt, k' && (true && true && st.ok)⟩ _ _ w' g1 ⟨h5, h6, g2, h7.trans hr.defers⟩ (h2.mono hr.mem.base) h
              · cases h
          · cases hx
        · cases hx
      · cases hx
    · cases hx
  · cases h
theorem regionP_ok {ρ : Type} {P : Program} {C : Cx} (hC : CxOK P C) {ops : Array Oper} {k : X → St → Option ρ} {r : ρ} (hk : ∀ x s, k x s = some r → s.ok = true) {base : Nat} {Q : Exit → Act → World → Prop} :
    ∀ {l pre : List Oper} {st : St} {φ : Phi} {a : Act} {w : World}, Rel base φ st a w → regionP C ops.toList k l pre st = some r →
      (∀ x e s ψ a' w', EX x e → φ.le ψ → Rel base ψ s a' w' → Below base w w' → k x s = some r → Q e a' w') → wpList P ops Q (pre.reverse ++ l) a w
  | [], pre, st, φ, a, w, hr, h, hQ => by
    simp only [regionP] at h
    obtain ⟨s, hs, h⟩ := regionT_spec h
    rw [List.append_nil]
    exact regionX_ok hC.Θ hC.K (φ0 := φ) (w0 := w) (fun ψ a' w' h1 h2 h3 => hQ .normal .normal s ψ a' w' trivial h1 h2 h3 h) (Phi.le_refl _) hr (Below.refl _ _) hs (hk _ _ h)
  | o :: rest, pre, st, φ, a, w, hr, h, hQ => by
    simp only [regionP] at h
    split at h
    · rename_i T x d hmk
      obtain ⟨s, hs, h⟩ := regionT_spec h
      refine regionX_app hC.Θ hC.K (φ0 := φ) (w0 := w) (fun ψ a' w' h1 h2 h3 => ?_) (Phi.le_refl _) hr (Below.refl _ _) hs (panI_mono h hk)
      exact panI_ok hC hmk h hk h2 (fun n s' a2 g1 g2 => hQ (.pan T n) (.panic (chainOf T n)) s' ψ a2 w' rfl h1 g1 h3 g2)
    split at h
    · rename_i hp
      have hg : o.guard = none := by
        unfold panO at hp
        split at hp
        · cases hp
        · assumption
      obtain ⟨s, hs, h⟩ := regionT_spec h
      have hm2 : ∀ s, regionP C ops.toList k rest [] s = some r → s.ok = true := fun s h => regionP_mono hk h
      refine regionX_app hC.Θ hC.K (φ0 := φ) (w0 := w) (fun ψ a' w' h1 h2 h3 => ?_) (Phi.le_refl _) hr (Below.refl _ _) hs (panStep_mono h hk hm2)
      rw [wpList, if_pos (by simp [Region.wanted, hg])]
      refine .inl (panStep_ok hC hg h hk hm2 h2 (fun t n s' w2 g1 g2 g3 => hQ (.pan t n) (.panic (chainOf t n)) s' ψ a' w2 rfl h1 g1 (h3.trans g2) g3) (fun s' χ a2 w2 g0 g1 g2 g3 => ?_))
      have := regionP_ok hC hk (pre := []) g1 g3 (fun x e s3 ζ a3 w3 he q1 q2 q3 q4 => hQ x e s3 ζ a3 w3 he (Phi.le_trans (Phi.le_trans h1 g0) q1) q2 ((h3.trans g2).trans q3) q4)
      simpa using this
    · have := regionP_ok hC hk (pre := o :: pre) hr h hQ
      simpa using this
def codeTT {ρ : Type} (C : Cx) : Code → RunT ρ × (Nat → Option (RunT ρ))
  | .skip => (fun st k => k .normal st, fun _ => none)
  | .region _ ops draw => (fun st k => match draw with
    | false => (match ops.toList.any (fun o => panO C o || isPanic o) with
      | false => regionT C.Θ C.K ops.toList ops.toList st (k .normal)
      | true => regionP C ops.toList k ops.toList [] st)
    | true => match pkSlot C ops.toList with
      | some s => drawKT C.Θ C.K s ops.toList (pubL C.Θ ops.toList st) (k .normal)
      | none => drawPT C.Θ C.K ops.toList (pubF C ops.toList (pubL C.Θ ops.toList st)) (k .normal), fun _ => none)
  | .seq a b => (fun st k => (codeTT C a).1 st fun x s => match x with
    | .normal => match C.L (jkey b) with
      | some f => (match Nat.beq (jkey b) 0 with | false => altsT (f s) k | true => (codeTT C b).1 s k)
      | none => (codeTT C b).1 s k
    | x => k x s, fun l => match (codeTT C a).2 l with
      | some f => some fun st k => f st fun x s => match x with
        | .normal => (codeTT C b).1 s k
        | x => k x s
      | none => (codeTT C b).2 l)
  | .cond c a b => (fun st k => match rd st.tm c with
    | some (⟨.bool, x⟩, cc) => bif x then (codeTT C a).1 ⟨learn st.tm c true, st.n, st.mem, st.nxt, cc && st.ok⟩ k else (codeTT C b).1 ⟨learn st.tm c false, st.n, st.mem, st.nxt, cc && st.ok⟩ k
    | _ => none, fun _ => none)
  | .block id b => (fun st k => match blkL C id with
    | some f => altsT (f st) k
    | none => (codeTT C b).1 st fun x s => match x with
      | .exit j => bif Nat.beq j id then k .normal s else k (.exit j) s
      | x => k x s, fun _ => none)
  | .loop b => (fun st k => loopT (codeTT C b).1 k C.lf st, fun _ => none)
  | .exit id => (fun st k => k (.exit id) st, fun _ => none)
  | .ret => (fun st k => k .ret st, fun _ => none)
  | .label j => (fun st k => k .normal st, fun l => bif Nat.beq j l then some fun st k => k .normal st else none)
  | .goto l => (fun st k => k (.goto l) st, fun _ => none)
  | .scope b => (fun st k => (codeTT C b).1 st (jumpT (codeTT C b).2 k C.lf), fun _ => none)
  | _ => (fun _ _ => none, fun _ => none)
def codeT {ρ : Type} (C : Cx) (c : Code) : RunT ρ := (codeTT C c).1
theorem loopT_mono {ρ : Type} {f : St → (X → St → Option ρ) → Option ρ} {r : ρ} (hf : ∀ st k, (∀ x s, k x s = some r → s.ok = true) → f st k = some r → st.ok = true) {k : X → St → Option ρ} (hk : ∀ x s, k x s = some r → s.ok = true) :
    ∀ (n : Nat) (st : St), loopT f k n st = some r → st.ok = true
  | 0, st, h => by simp [loopT] at h
  | n + 1, st, h => by
    simp only [loopT] at h
    refine hf st _ (fun x s hs => ?_) h
    cases x with
    | normal => exact loopT_mono hf hk n s hs
    | exit j => exact hk _ _ hs
    | ret => exact hk _ _ hs
    | goto l => exact hk _ _ hs
    | pan t n => exact hk _ _ hs
def Goes (P : Program) (kp base : Nat) (φ : Phi) (w : World) {ρ : Type} (r : ρ) (k : X → St → Option ρ) (Q : Exit → Act → World → Prop) : Prop :=
  ∀ x e s ψ a' w', EX x e → Phi.leK kp φ ψ → Rel base ψ s a' w' → Below base w w' → k x s = some r → Q e a' w'
theorem Goes.weaken {P : Program} {kp base : Nat} {φ ψ : Phi} {w w' : World} {ρ : Type} {r : ρ} {k : X → St → Option ρ} {Q : Exit → Act → World → Prop} (h : Goes P kp base φ w r k Q) (hle : Phi.leK kp φ ψ) (hb : Below base w w') : Goes P kp base ψ w' r k Q :=
  fun x e s χ a2 w2 he h1 h2 h3 h4 => h x e s χ a2 w2 he (Phi.leK_trans hle h1) h2 (hb.trans h3) h4
theorem EX_of {x : X} {e : Exit} (h : EX x e) : (x = .normal ∧ e = .normal) ∨ (∃ j, x = .exit j ∧ e = .exit j) ∨ (x = .ret ∧ e = .ret) ∨ (∃ j, x = .goto j ∧ e = .goto j) ∨ (∃ t n, x = .pan t n ∧ e = .panic (chainOf t n)) := by
  cases x <;> cases e <;> simp [EX] at h
  · exact .inl ⟨rfl, rfl⟩
  · subst h; exact .inr (.inl ⟨_, rfl, rfl⟩)
  · exact .inr (.inr (.inl ⟨rfl, rfl⟩))
  · subst h; exact .inr (.inr (.inr (.inl ⟨_, rfl, rfl⟩)))
  · subst h; exact .inr (.inr (.inr (.inr ⟨_, _, rfl, rfl⟩)))
structure OneT (P : Program) (kp : Nat) {ρ : Type} (r : ρ) (c : Code) (f : RunT ρ) : Prop where
  mono : ∀ {st : St} {k : X → St → Option ρ}, (∀ x s, k x s = some r → s.ok = true) → f st k = some r → st.ok = true
  ok : ∀ {st : St} {k : X → St → Option ρ} {base : Nat} {φ : Phi} {a : Act} {w : World} {Q : Exit → Act → World → Prop},
    (∀ x s, k x s = some r → s.ok = true) → f st k = some r → Rel base φ st a w → Goes P kp base φ w r k Q → c.wp P Q a w
def GoodT (P : Program) (kp : Nat) {ρ : Type} (r : ρ) (c : Code) (f : RunT ρ × (Nat → Option (RunT ρ))) : Prop :=
  OneT P kp r c f.1 ∧ ∀ l, match f.2 l with
    | some g => ∃ rest, findLabel c l = some rest ∧ OneT P kp r rest g
    | none => findLabel c l = none
theorem OneT.seq {P : Program} {kp : Nat} {ρ : Type} {r : ρ} {a b : Code} {fa fb : RunT ρ} (ha : OneT P kp r a fa) (hb : OneT P kp r b fb) : OneT P kp r (.seq a b) (fun st k => fa st fun x s => match x with | .normal => fb s k | x => k x s) := by
  have hm : ∀ {k : X → St → Option ρ}, (∀ x s, k x s = some r → s.ok = true) → ∀ (x : X) (s : St), (match x with | .normal => fb s k | x => k x s) = some r → s.ok = true := by
    intro k hk x s hs
    cases x with
    | normal => exact hb.mono hk hs
    | exit j => exact hk _ _ hs
    | ret => exact hk _ _ hs
    | goto l => exact hk _ _ hs
    | pan t n => exact hk _ _ hs
  refine ⟨fun hk h => ha.mono (hm hk) h, fun {st k base φ a' w Q} hk h hr hQ => wp_seq (ha.ok (hm hk) h hr ?_)⟩
  intro x e s ψ a2 w2 he h1 h2 h3 h4
  rcases EX_of he with ⟨rfl, rfl⟩ | ⟨j, rfl, rfl⟩ | ⟨rfl, rfl⟩ | ⟨j, rfl, rfl⟩ | ⟨_, _, rfl, rfl⟩
  · exact hb.ok hk h4 h2 (hQ.weaken h1 h3)
  · exact hQ _ _ s ψ a2 w2 he h1 h2 h3 h4
  · exact hQ _ _ s ψ a2 w2 he h1 h2 h3 h4
  · exact hQ _ _ s ψ a2 w2 he h1 h2 h3 h4
  · exact hQ _ _ s ψ a2 w2 he h1 h2 h3 h4
theorem jumpT_mono {P : Program} {kp : Nat} {ρ : Type} {r : ρ} {c : Code} {f : RunT ρ × (Nat → Option (RunT ρ))} (hf : GoodT P kp r c f) {k : X → St → Option ρ} (hk : ∀ x s, k x s = some r → s.ok = true) : ∀ n x s, jumpT f.2 k n x s = some r → s.ok = true
  | 0, x, s, h => by
    cases x with
    | goto l => cases h
    | normal => exact hk _ _ h
    | exit j => exact hk _ _ h
    | ret => exact hk _ _ h
    | pan t n => exact hk _ _ h
  | n + 1, x, s, h => by
    cases x with
    | goto l =>
      simp only [jumpT] at h
      have hg := hf.2 l
      split at h
      · rename_i g e
        rw [e] at hg
        obtain ⟨rest, _, h2⟩ := hg
        exact h2.mono (jumpT_mono hf hk n) h
      · cases h
    | normal => exact hk _ _ h
    | exit j => exact hk _ _ h
    | ret => exact hk _ _ h
    | pan t n => exact hk _ _ h
theorem jumpT_ok {P : Program} {kp : Nat} {ρ : Type} {r : ρ} {c : Code} {f : RunT ρ × (Nat → Option (RunT ρ))} (hf : GoodT P kp r c f) {k : X → St → Option ρ} (hk : ∀ x s, k x s = some r → s.ok = true) {Q : Exit → Act → World → Prop} :
    ∀ (n : Nat) {y : Code} {g : RunT ρ}, OneT P kp r y g → ∀ {st : St} {base : Nat} {φ : Phi} {a : Act} {w : World}, g st (jumpT f.2 k n) = some r → Rel base φ st a w → Goes P kp base φ w r k Q → JumpWp P c Q (n + 1) y a w
  | n, y, g, hg, st, base, φ, a, w, h, hr, hQ => by
    refine hg.ok (jumpT_mono hf hk n) h hr ?_
    intro x e s ψ a2 w2 he h1 h2 h3 h4
    rcases EX_of he with ⟨rfl, rfl⟩ | ⟨j, rfl, rfl⟩ | ⟨rfl, rfl⟩ | ⟨l, rfl, rfl⟩ | ⟨_, _, rfl, rfl⟩
    · cases n <;> exact hQ _ _ s ψ a2 w2 he h1 h2 h3 h4
    · cases n <;> exact hQ _ _ s ψ a2 w2 he h1 h2 h3 h4
    · cases n <;> exact hQ _ _ s ψ a2 w2 he h1 h2 h3 h4
    · cases n with
      | zero => cases h4
      | succ n =>
        simp only [jumpT] at h4
        have hg := hf.2 l
        split at h4
        · rename_i g' e
          rw [e] at hg
          obtain ⟨rest, hr1, hr2⟩ := hg
          exact ⟨rest, hr1, jumpT_ok hf hk n hr2 h4 h2 (hQ.weaken h1 h3)⟩
        · cases h4
    · cases n <;> exact hQ _ _ s ψ a2 w2 he h1 h2 h3 h4
theorem OneT.known {P : Program} {kp : Nat} {ρ : Type} {r : ρ} {b : Code} {f : St → List (Bool × X × St)} (h : ∀ st x st', pickA (f st) = some (x, st') → CodeOK P kp b st x st') : OneT P kp r b (fun st k => altsT (f st) k) := by
  refine ⟨fun {st k} hk h' => ?_, fun {st k base φ a w Q} hk h' hr hQ => ?_⟩
  · obtain ⟨x, s, hs, h'⟩ := altsT_spec h'
    exact (h _ _ _ hs).1 (hk _ _ h')
  · obtain ⟨x, s, hs, h'⟩ := altsT_spec h'
    refine wp_mono ((h _ _ _ hs).2 (hk _ _ h') base φ a w hr) ?_
    rintro e a' w' ⟨he, ψ, h1, h2, h3⟩
    exact hQ x e s ψ a' w' he h1 h2 h3 h'
theorem codeTT_ok {ρ : Type} {P : Program} {C : Cx} (hC : CxOK P C) {r : ρ} {kp : Nat} : ∀ {c : Code}, LOK P C kp c → GoodT P kp r c (codeTT C c) := by
  intro c
  induction c with
  | skip => intro _; exact ⟨⟨fun hk h => hk _ _ h, fun {st k base φ a w Q} hk h hr hQ => wp_skip (hQ .normal .normal st φ a w trivial (Phi.leK_refl _) hr (Below.refl _ _) h)⟩, fun l => rfl⟩
  | region id ops draw =>
    intro _
    refine ⟨⟨fun {st k} hk h => ?_, fun {st k base φ a w Q} hk h hr hQ => ?_⟩, fun l => rfl⟩
    · simp only [codeTT] at h
      split at h
      · split at h
        · obtain ⟨s, hs, h⟩ := regionT_spec h
          exact regionX_mono hs (hk _ _ h)
        · exact regionP_mono hk h
      · split at h
        · obtain ⟨s, hs, h⟩ := drawKT_spec h
          exact pubL_mono (drawK_mono hs (hk _ _ h))
        · obtain ⟨s, hs, h⟩ := drawPT_spec h
          exact pubL_mono (pubF_mono (drawP_mono hs (hk _ _ h)))
    · simp only [codeTT] at h
      split at h
      · split at h
        rotate_left
        · have := regionP_ok (Q := Q) hC hk (pre := []) hr h (fun x e s ψ a' w' he h1 h2 h3 h4 => hQ x e s ψ a' w' he h1.toK h2 h3 h4)
          exact wp_region_list (by simpa using this)
        obtain ⟨s, hs, h⟩ := regionT_spec h
        exact wp_region_list (regionX_ok hC.Θ hC.K (φ0 := φ) (w0 := w) (fun ψ a' w' h1 h2 h3 => hQ .normal .normal s ψ a' w' trivial h1.toK h2 h3 h) (Phi.le_refl _) hr (Below.refl _ _) hs (hk _ _ h))
      · split at h
        · obtain ⟨s, hs, h⟩ := drawKT_spec h
          obtain ⟨χ0, hle0, hr0⟩ := pubL_ok hr (drawK_mono hs (hk _ _ h))
          exact drawK_ok hC.Θ hC.K hC.mix hs (hk _ _ h) hr0 (fun ψ a' w' h0 h1 h2 => hQ .normal .normal s ψ a' w' trivial (Phi.le_trans hle0 h0).toK h1 h2 h)
        obtain ⟨s, hs, h⟩ := drawPT_spec h
        obtain ⟨χ0, hle0, hr0⟩ := pubL_ok hr (pubF_mono (drawP_mono hs (hk _ _ h)))
        obtain ⟨χ, hle1, hr2⟩ := pubF_ok (C := C) (ops := ops.toList) hr0
        have hle := Phi.le_trans hle0 hle1
        exact drawP_ok hC.Θ hC.K hC.mix hs (hk _ _ h) hr2 (fun ψ a' w' h0 h1 h2 => hQ .normal .normal s ψ a' w' trivial (Phi.le_trans hle h0).toK h1 h2 h)
  | seq x y iha ihb =>
    intro hL
    have ga := iha (fun id b hb => hL id b (by simp [blocksOf, hb]))
    have gb := ihb (fun id b hb => hL id b (by simp [blocksOf, hb]))
    have gj : OneT P kp r y (fun s k => match C.L (jkey y) with
      | some f => (match Nat.beq (jkey y) 0 with | false => altsT (f s) k | true => (codeTT C y).1 s k)
      | none => (codeTT C y).1 s k) := by
      cases hl : C.L (jkey y) with
      | none => exact gb.1
      | some f =>
        cases hz : Nat.beq (jkey y) 0
        · have := OneT.known (r := r) (fun st x st' h => hL (jkey y) y (by simp [blocksOf, hz]) f hl st x st' h)
          rw [unitC_j hz] at this
          exact this
        · exact gb.1
    refine ⟨OneT.seq ga.1 gj, fun l => ?_⟩
    have h1 := ga.2 l
    have h2 := gb.2 l
    simp only [codeTT, findLabel]
    cases e : (codeTT (ρ := ρ) C x).2 l with
    | some f =>
      rw [e] at h1
      obtain ⟨rest, hr1, hr2⟩ := h1
      rw [hr1]
      exact ⟨_, rfl, OneT.seq hr2 gb.1⟩
    | none =>
      rw [e] at h1
      rw [h1]
      exact h2
  | cond c x y iha ihb =>
    intro hL
    have ga := iha (fun id b hb => hL id b (by simp [blocksOf, hb]))
    have gb := ihb (fun id b hb => hL id b (by simp [blocksOf, hb]))
    refine ⟨⟨fun {st k} hk h => ?_, fun {st k base φ a w Q} hk h hr hQ => ?_⟩, fun l => rfl⟩
    · simp only [codeTT] at h
      split at h
      · rename_i t cc hc
        cases t
        · have h : (codeTT C y).1 ⟨learn st.tm c false, st.n, st.mem, st.nxt, cc && st.ok⟩ k = some r := h
          exact (and_split (gb.1.mono hk h)).2
        · have h : (codeTT C x).1 ⟨learn st.tm c true, st.n, st.mem, st.nxt, cc && st.ok⟩ k = some r := h
          exact (and_split (ga.1.mono hk h)).2
      · cases h
    · simp only [codeTT] at h
      split at h
      · rename_i t cc hc
        have key : cc = true → a.eval c = .bool t := fun hcc => by subst hcc; exact VR_bool.1 (rd_ok hr.tm hc)
        cases t
        · have h : (codeTT C y).1 ⟨learn st.tm c false, st.n, st.mem, st.nxt, cc && st.ok⟩ k = some r := h
          have e := key (and_split (gb.1.mono hk h)).1
          exact wp_cond_false e (gb.1.ok hk h ⟨learn_ok hr.tm e, hr.n, hr.mem, hr.defers⟩ hQ)
        · have h : (codeTT C x).1 ⟨learn st.tm c true, st.n, st.mem, st.nxt, cc && st.ok⟩ k = some r := h
          have e := key (and_split (ga.1.mono hk h)).1
          exact wp_cond_true e (ga.1.ok hk h ⟨learn_ok hr.tm e, hr.n, hr.mem, hr.defers⟩ hQ)
      · cases h
  | block id b ih =>
    intro hL
    refine ⟨⟨fun {st k} hk h => ?_, fun {st k base φ a w Q} hk h hr hQ => ?_⟩, fun l => rfl⟩
    all_goals
      have gb := ih (fun id' b' hb => hL id' b' (by simp [blocksOf, hb]))
      have hm : ∀ (x : X) (s : St), (match x with | .exit j => bif Nat.beq j id then k .normal s else k (.exit j) s | x => k x s) = some r → s.ok = true := by
        intro x s hs
        cases x with
        | normal => exact hk _ _ hs
        | exit j =>
          simp only at hs
          cases hj : Nat.beq j id <;> rw [hj] at hs
          · exact hk _ _ hs
          · exact hk _ _ hs
        | ret => exact hk _ _ hs
        | goto l => exact hk _ _ hs
        | pan t n => exact hk _ _ hs
    · simp only [codeTT] at h
      split at h
      · rename_i f hf
        obtain ⟨x, s, hs, h⟩ := altsT_spec h
        obtain ⟨hf, hu⟩ := blkL_some hf
        have := hL id b (by simp [blocksOf]) f hf _ _ _ hs
        exact this.1 (hk _ _ h)
      · exact gb.1.mono hm h
    · simp only [codeTT] at h
      split at h
      · rename_i f hf
        obtain ⟨x, s, hs, h⟩ := altsT_spec h
        obtain ⟨hf, hu⟩ := blkL_some hf
        have := hL id b (by simp [blocksOf]) f hf _ _ _ hs
        rw [hu] at this
        have := this.2 (hk _ _ h) base φ a w hr
        refine wp_mono this ?_
        rintro e a' w' ⟨he, ψ, h1, h2, h3⟩
        exact hQ x e s ψ a' w' he h1 h2 h3 h
      · refine wp_block (gb.1.ok hm h hr ?_)
        intro x e s ψ a' w' he h1 h2 h3 h4
        rcases EX_of he with ⟨rfl, rfl⟩ | ⟨j, rfl, rfl⟩ | ⟨rfl, rfl⟩ | ⟨j, rfl, rfl⟩ | ⟨_, _, rfl, rfl⟩
        · exact hQ .normal .normal s ψ a' w' trivial h1 h2 h3 h4
        · simp only at h4
          cases hj : Nat.beq j id <;> rw [hj] at h4
          · simp only [Exit.inBlock]
            rw [if_neg (by intro e; subst e; simp at hj)]
            exact hQ (.exit j) (.exit j) s ψ a' w' rfl h1 h2 h3 h4
          · have hj := Nat.eq_of_beq_eq_true hj
            subst hj
            simp only [Exit.inBlock, if_true]
            exact hQ .normal .normal s ψ a' w' trivial h1 h2 h3 h4
        · exact hQ .ret .ret s ψ a' w' trivial h1 h2 h3 h4
        · exact hQ (.goto j) (.goto j) s ψ a' w' rfl h1 h2 h3 h4
        · exact hQ _ _ s ψ a' w' he h1 h2 h3 h4
  | loop b ih =>
    intro hL
    have gb := ih (fun id' b' hb => hL id' b' (by simpa [blocksOf] using hb))
    refine ⟨⟨fun {st k} hk h => loopT_mono (fun st k hk h => gb.1.mono hk h) hk _ _ h, fun {st k base φ a w Q} hk h hr hQ => ?_⟩, fun l => rfl⟩
    have key : ∀ (n : Nat) (st : St) (φ : Phi) (a : Act) (w : World), loopT (codeTT C b).1 k n st = some r → Rel base φ st a w → Goes P kp base φ w r k Q → Code.rounds P b Q n a w := by
      intro n
      induction n with
      | zero => intro st φ a w h; simp [loopT] at h
      | succ n ihn =>
        intro st φ a w h hr hQ
        simp only [loopT] at h
        rw [rounds_succ]
        refine gb.1.ok (fun x s hs => ?_) h hr ?_
        · cases x with
          | normal => exact loopT_mono (fun st k hk h => gb.1.mono hk h) hk _ _ hs
          | exit j => exact hk _ _ hs
          | ret => exact hk _ _ hs
          | goto l => exact hk _ _ hs
          | pan t n => exact hk _ _ hs
        · intro x e s ψ a' w' he h1 h2 h3 h4
          rcases EX_of he with ⟨rfl, rfl⟩ | ⟨j, rfl, rfl⟩ | ⟨rfl, rfl⟩ | ⟨j, rfl, rfl⟩ | ⟨_, _, rfl, rfl⟩
          · exact ihn s ψ a' w' h4 h2 (hQ.weaken h1 h3)
          · exact hQ _ _ s ψ a' w' he h1 h2 h3 h4
          · exact hQ _ _ s ψ a' w' he h1 h2 h3 h4
          · exact hQ _ _ s ψ a' w' he h1 h2 h3 h4
          · exact hQ _ _ s ψ a' w' he h1 h2 h3 h4
    exact wp_loop_rounds C.lf (key C.lf st φ a w h hr hQ)
  | exit id => intro _; exact ⟨⟨fun hk h => hk _ _ h, fun {st k base φ a w Q} hk h hr hQ => wp_exit (hQ (.exit id) (.exit id) st φ a w rfl (Phi.leK_refl _) hr (Below.refl _ _) h)⟩, fun l => rfl⟩
  | ret => intro _; exact ⟨⟨fun hk h => hk _ _ h, fun {st k base φ a w Q} hk h hr hQ => wp_ret (hQ .ret .ret st φ a w trivial (Phi.leK_refl _) hr (Below.refl _ _) h)⟩, fun l => rfl⟩
  | goto l => intro _; exact ⟨⟨fun hk h => hk _ _ h, fun {st k base φ a w Q} hk h hr hQ => wp_goto (hQ (.goto l) (.goto l) st φ a w rfl (Phi.leK_refl _) hr (Below.refl _ _) h)⟩, fun l => rfl⟩
  | label j =>
    intro _
    refine ⟨⟨fun hk h => hk _ _ h, fun {st k base φ a w Q} hk h hr hQ => wp_label (hQ .normal .normal st φ a w trivial (Phi.leK_refl _) hr (Below.refl _ _) h)⟩, fun l => ?_⟩
    simp only [codeTT, findLabel]
    cases e : Nat.beq j l
    · have : ¬ j = l := fun h => by subst h; simp at e
      simp [this]
    · have := Nat.eq_of_beq_eq_true e
      subst this
      simp only [cond_true, beq_self_eq_true, if_true]
      exact ⟨_, rfl, fun hk h => hk _ _ h, fun {st k base φ a w Q} hk h hr hQ => wp_skip (hQ .normal .normal st φ a w trivial (Phi.leK_refl _) hr (Below.refl _ _) h)⟩
  | scope b ih =>
    intro hL
    have gb := ih (fun id' b' hb => hL id' b' (by simpa [blocksOf] using hb))
    exact ⟨⟨fun hk h => gb.1.mono (jumpT_mono gb hk _) h, fun {st k base φ a w Q} hk h hr hQ => wp_scope_n (jumpT_ok gb hk C.lf gb.1 h hr hQ)⟩, fun l => rfl⟩
  | _ => intro _; exact ⟨⟨fun hk h => by simp [codeTT] at h, fun {st k base φ a w Q} hk h hr hQ => by simp [codeTT] at h⟩, fun l => rfl⟩
theorem codeT_ok {ρ : Type} {P : Program} {C : Cx} (hC : CxOK P C) {r : ρ} {kp : Nat} {c : Code} (hL : LOK P C kp c) {st : St} {k : X → St → Option ρ} {base : Nat} {φ : Phi} {a : Act} {w : World} {Q : Exit → Act → World → Prop}
    (hk : ∀ x s, k x s = some r → s.ok = true) (h : codeT C c st k = some r) (hr : Rel base φ st a w) (hQ : Goes P kp base φ w r k Q) : c.wp P Q a w :=
  (codeTT_ok hC hL).1.ok hk h hr hQ
end
def fnT (C : Cx) (fn : Func) (t : Ty) (args : List V) : Option t.den :=
  match fn.body with
  | none => none
  | some c => bif Nat.ble args.length fn.ntmps && (args.all valV && valT t) then
      codeT C c ⟨putArgs args 0 .lf, fn.ntmps, [], 0, true⟩ fun x s => match x with
        | .exit _ => none
        | .goto _ => none
        | .pan _ _ => none
        | _ => match resY C.Θ fn s with
          | some (v, _, c) => bif c then asT t v else none
          | none => none
    else none
theorem fnT_ok {P : Program} {C : Cx} (hC : CxOK P C) {fn : Func} {f : Nat} (hf : P.funcs[f]? = some fn) (hL : ∀ c, fn.body = some c → LOK P C 0 c) {t : Ty} {args : List V} {r : t.den}
    (h : fnT C fn t args = some r) : PureOK P f args ⟨t, r⟩ := by
  intro φ w xs hI hA
  unfold fnT at h
  split at h
  · cases h
  · rename_i c hc
    cases hb : (Nat.ble args.length fn.ntmps && (args.all valV && valT t)) <;> rw [hb] at h
    · cases h
    · simp only [cond_true] at h
      obtain ⟨hb1, hb2⟩ := and_split hb
      obtain ⟨hpa, hpt⟩ := and_split hb2
      have hle := Nat.le_of_ble_eq_true hb1
      let φ0 : Phi := φ.bare w.heap.size
      have hA0 : AR φ0 args xs := ⟨hA.1, fun i v hi => by
        obtain ⟨x, hx, hxr⟩ := hA.2 i v hi
        exact ⟨x, hx, valV_ok (φ := φ) (ψ := φ.bare w.heap.size) (fun _ _ h => h) (List.all_eq_true.1 hpa v (List.mem_of_getElem? hi)) hxr⟩⟩
      refine calls_of_wp hf hc (codeT_ok hC (hL c hc) (base := w.heap.size) (φ := φ0) (fun x s hs => ?_) h ⟨fun s u c' hs => ?_, by simp [hA.1]; omega, MemRel.nil w hI, rfl⟩ ?_)
      · split at hs
        · cases hs
        · cases hs
        · cases hs
        · split at hs
          · rename_i v s' c hres
            cases hk : c <;> rw [hk] at hs hres
            · cases hs
            · unfold resY at hres
              split at hres
              · simp only [Option.some.injEq, Prod.mk.injEq] at hres
                exact pubs_mono (and_split hres.2.2).2
              · cases hres
          · cases hs
      · rcases putArgs_get hs with ⟨hc', _, hg⟩ | hg
        · subst hc'
          simp only [Nat.sub_zero] at hg
          obtain ⟨x, hx, hr⟩ := hA0.2 s u hg
          refine ⟨fun _ => ?_, fun e => by cases e⟩
          have hsz : s < xs.size := (Array.getElem?_eq_some_iff.1 hx).1
          rw [Array.getD_eq_getD_getElem?, Array.getElem?_append_left hsz, hx]
          exact hr
        · simp [Tr.get] at hg
      · intro x e s ψ a' w' he h1 hr' hb' h4
        have post : a'.defers = [] ∧ ∃ z, (results fn a'.tmps).run P w' = .ok z w' ∧ (∃ ψ m n x, Ending.returned z = .returned x ∧ (φ.bare w.heap.size).le ψ ∧ MemRel w.heap.size ψ m n w' ∧ VR ψ ⟨t, r⟩ x ∧ Below w.heap.size w w') := by
          have h4 : (match resY C.Θ fn s with | some (v, _, c) => bif c then asT t v else none | none => none) = some r := by
            rcases EX_of he with ⟨rfl, rfl⟩ | ⟨j, rfl, rfl⟩ | ⟨rfl, rfl⟩ | ⟨j, rfl, rfl⟩ | ⟨_, _, rfl, rfl⟩
            · exact h4
            · cases h4
            · exact h4
            · cases h4
            · cases h4
          split at h4
          · rename_i v s' cc hres
            cases hk : cc <;> rw [hk] at h4 hres
            · cases h4
            · simp only [cond_true] at h4
              have hv := asT_eq h4
              subst hv
              obtain ⟨χ, hχ, hr2, _, z, hrun, hz⟩ := resY_ok hC.Θ hr' hres
              exact ⟨hr'.defers, z, hrun, χ, _, _, _, rfl, Phi.le_trans (h1.toLe (fun i p hp => by cases hp)) hχ, hr2.mem, hz, hb'⟩
          · cases h4
        rcases EX_of he with ⟨rfl, rfl⟩ | ⟨j, rfl, rfl⟩ | ⟨rfl, rfl⟩ | ⟨j, rfl, rfl⟩ | ⟨_, _, rfl, rfl⟩
        · exact post
        · cases h4
        · exact post
        · cases h4
        · cases h4
theorem SmOK.pure {P : Program} {f : Nat} {g : List V → Option (V × Bool)} (h : ∀ args v, g args = some (v, true) → PureOK P f args v)
    (hval : ∀ args v c, g args = some (v, c) → valV v = true) : SmOK P f (fun args mem nxt => match g args with | some (v, c) => some (v, mem, nxt, c) | none => none) := by
  intro args mem nxt v mem' nxt' hg base φ w xs hm hA
  dsimp only at hg
  split at hg
  · rename_i v' c hv
    simp only [Option.some.injEq, Prod.mk.injEq] at hg
    obtain ⟨rfl, rfl, rfl, rfl⟩ := hg
    refine (h args v' hv φ w xs hm.imm hA).mono ?_
    rintro e w' ⟨ψ, m, n, x, rfl, h0, h3, h1, h2⟩
    obtain ⟨g1, g2⟩ := hm.back (φ0 := φ.bare w.heap.size) rfl rfl h0 h3 h2
    exact ⟨_, x, rfl, g1, g2, h2.mono hm.base, valV_ok (φ := ψ) (ψ := φ.with ψ.imm) (fun _ _ h => h) (hval _ _ _ hv) h1⟩
  · cases hg
end Go.GX

namespace Go.GX
set_option linter.unusedSimpArgs false
set_option linter.unusedVariables false
set_option linter.unusedSectionVars false
open Go.RowKit
open Go.ChangeShapes Go.WideShapes Go.ChangeAt
open Go.ChangeMaps (open_string shut_string)
section
variable {H : Type} {enc : TypeId × Value → H} {P : Program} {w : World} {base : Nat} {spare : Nat → Bool} {held : Bool} {Θ : Tab}
theorem cellsOf_eq (hΘ : TabOK P Θ) {t : Nat} {ti : TI} (h : Θ t = some ti) : P.cellsOf t = size ti.ty := by
  obtain ⟨i, z, hi, hs, _⟩ := (hΘ.get h).info
  simp [Program.cellsOf, hi, hs]
theorem CL_single {φ : Phi} {c : Cell} {v : Value} (h : CR φ c v) : CL φ [c] [v] := ⟨rfl, fun i c' hi => by
  cases i with
  | zero => simp at hi; subst hi; exact ⟨v, rfl, h⟩
  | succ i => simp at hi⟩
theorem CL_append {φ : Phi} {a b : List Cell} {u v : List Value} (h : CL φ a u) (k : CL φ b v) : CL φ (a ++ b) (u ++ v) := ⟨by simp [h.1, k.1], fun i c hi => by
  by_cases hlt : i < a.length
  · rw [List.getElem?_append_left hlt] at hi
    obtain ⟨x, hx, hr⟩ := h.2 i c hi
    exact ⟨x, by rw [List.getElem?_append_left (by rw [h.1]; exact hlt)]; exact hx, hr⟩
  · rw [List.getElem?_append_right (by omega)] at hi
    obtain ⟨x, hx, hr⟩ := k.2 _ c hi
    exact ⟨x, by rw [List.getElem?_append_right (by rw [h.1]; omega), h.1]; exact hx, hr⟩⟩
end
end Go.GX

namespace Go.GX
set_option linter.unusedSimpArgs false
set_option linter.unusedVariables false
set_option linter.unusedSectionVars false
open Go.RowKit
def kOf : List (Nat × Sm) → Kn
  | [], _ => none
  | (k, g) :: r, f => bif Nat.beq k f then some g else kOf r f
theorem KOK.nil {P : Program} : KOK P (kOf []) := fun f g h => by cases h
theorem KOK.cons {P : Program} {k : Nat} {g : Sm} {r : List (Nat × Sm)} (hc : ∀ args w, (callFunc k args).run P w = .ok (.enter k args) w) (hs : SmOK P k g) (hr : KOK P (kOf r)) : KOK P (kOf ((k, g) :: r)) := fun f g' h => by
  simp only [kOf] at h
  cases hb : Nat.beq k f <;> rw [hb] at h
  · exact hr f g' h
  · have := Nat.eq_of_beq_eq_true hb
    subst this
    cases h
    exact ⟨hc, hs⟩
theorem KOK.none {P : Program} : KOK P (fun _ => Option.none) := fun f g h => by cases h
theorem LOK.none {P : Program} {C : Cx} (h : C.L = fun _ => Option.none) (kp : Nat) (c : Code) : LOK P C kp c := fun id b _ f hf => by rw [h] at hf; cases hf
theorem AR_of {φ : Phi} {args : List V} {xs : List Value} (h : xs.length = args.length ∧ ∀ (i : Nat) v, args[i]? = some v → ∃ x, xs[i]? = some x ∧ VR φ v x) : AR φ args xs.toArray :=
  ⟨by simpa using h.1, fun i v hi => by obtain ⟨x, hx, hr⟩ := h.2 i v hi; exact ⟨x, by simpa using hx, hr⟩⟩
def ARL (φ : Phi) (args : List V) (xs : List Value) : Prop := xs.length = args.length ∧ ∀ (i : Nat) v, args[i]? = some v → ∃ x, xs[i]? = some x ∧ VR φ v x
theorem ARL.nil {φ : Phi} : ARL φ [] [] := ⟨rfl, fun i v h => by simp at h⟩
theorem ARL.cons {φ : Phi} {v : V} {x : Value} {args : List V} {xs : List Value} (h : VR φ v x) (hr : ARL φ args xs) : ARL φ (v :: args) (x :: xs) := ⟨by simp [hr.1], fun i u hi => by
  cases i with
  | zero => simp at hi; subst hi; exact ⟨x, rfl, h⟩
  | succ i => simpa using hr.2 i u (by simpa using hi)⟩
def Phi.ofW (w : World) : Phi := ⟨fun _ => Option.none, fun k => w.heap[k]?, w.heap.size⟩
theorem law_calls {P : Program} {f : Nat} {args : List V} {xs : List Value} (h : PureOK P f args ⟨.bool, true⟩) (w : World) (hA : ARL (Phi.ofW w) args xs) :
    Calls P f xs.toArray w fun e w' => e = .returned (.bool true) ∧ Below w.heap.size w w' := by
  refine (h (Phi.ofW w) w xs.toArray (fun _ _ h => h) (AR_of hA)).mono ?_
  rintro e w' ⟨ψ, m, n, x, rfl, _, _, h1, h2⟩
  have h1 := VR_bool.1 h1
  subst h1
  exact ⟨rfl, h2⟩
end Go.GX

namespace Go.GX
set_option linter.unusedSimpArgs false
set_option linter.unusedVariables false
set_option linter.unusedSectionVars false
open Go.RowKit (Below)
def noDup : List Nat → Bool
  | [] => true
  | x :: r => !(r.contains x) && noDup r
theorem noDup_cons {x : Nat} {r : List Nat} (h : noDup (x :: r) = true) : x ∉ r ∧ noDup r = true := by
  simp only [noDup, Bool.and_eq_true, Bool.not_eq_true', List.contains_eq_mem, decide_eq_false_iff_not] at h
  exact h
theorem noDup_append {a b : List Nat} (h : noDup (a ++ b) = true) : noDup a = true ∧ noDup b = true ∧ ∀ x ∈ a, x ∉ b := by
  induction a with
  | nil => exact ⟨rfl, h, fun x hx => by cases hx⟩
  | cons x r ih =>
    obtain ⟨h1, h2⟩ := noDup_cons (x := x) (r := r ++ b) h
    obtain ⟨g1, g2, g3⟩ := ih h2
    refine ⟨?_, g2, fun y hy => ?_⟩
    · simp only [noDup, Bool.and_eq_true, Bool.not_eq_true', List.contains_eq_mem, decide_eq_false_iff_not]
      exact ⟨fun hx => h1 (by simp [hx]), g1⟩
    · rcases List.mem_cons.1 hy with rfl | hy
      · exact fun hb => h1 (by simp [hb])
      · exact g3 y hy
inductive Dk where
  | v (t : Ty)
  | own (c : Nat) (e : Ty)
  | mp (c : Nat) (K E : Ty)
  | pr (a b : Dk)
@[reducible] def Dk.ty : Dk → Ty
  | .v t => t
  | .own _ _ => .slice
  | .mp _ _ _ => .map
  | .pr a b => .pair a.ty b.ty
@[reducible] def Dk.den : Dk → Type
  | .v t => t.den
  | .own _ e => List e.den
  | .mp _ K E => List (MT K E).den
  | .pr a b => a.den × b.den
def Dk.dflt : (D : Dk) → D.den
  | .v t => GX.dflt t
  | .own _ _ => []
  | .mp _ _ _ => []
  | .pr a b => (a.dflt, b.dflt)
def Dk.nms : Dk → List Nat
  | .v _ => []
  | .own c _ => [c]
  | .mp c _ _ => [c]
  | .pr a b => a.nms ++ b.nms
def Dk.plain : Dk → Bool
  | .v t => valT t
  | .own _ e => valT e
  | .mp _ K E => valT K && valT E
  | .pr a b => a.plain && b.plain
def Dk.mk : (D : Dk) → D.den → D.ty.den
  | .v _, x => x
  | .own c _, x => some ⟨c, [], 0, x.length, none⟩
  | .mp c _ _, _ => some c
  | .pr a b, x => (a.mk x.1, b.mk x.2)
def Dk.blks : (D : Dk) → D.den → Mem
  | .v _, _ => []
  | .own c e, x => [(c, ⟨e, x.length, x, true⟩)]
  | .mp c K E, x => [(c, ⟨MT K E, 0, x, true⟩)]
  | .pr a b, x => a.blks x.1 ++ b.blks x.2
def ownB (q : SL) (b : Blk) (e : Ty) : Option (List e.den × Bool × List Nat) :=
  if h : b.t = e then some (h ▸ sec (GX.dflt b.t) b.row q.start q.len, !(Nat.beq q.start MARK) && (b.wr && (decide (q.start + q.len ≤ b.n) && (match q.cap with | some k => decide (q.start + k ≤ b.n) | none => true))), [q.id]) else none
def ownRd (mem : Mem) (e : Ty) (q : Option SL) : Option (List e.den × Bool × List Nat) :=
  match q with
  | none => some ([], true, [])
  | some q => match q.path, Mem.getC mem q.id with
    | [], some b => ownB q b e
    | _, _ => none
def mpRd (mem : Mem) (K E : Ty) (q : Option Nat) : Option (List (MT K E).den × Bool × List Nat) :=
  match q with
  | none => none
  | some j => match Mem.get mem j with
    | some b => match asBlk (MT K E) b with
      | some row => some (row, b.wr && Nat.beq b.n 0, [j])
      | none => none
    | none => none
def anyIn : List Nat → List Nat → Bool
  | [], _ => false
  | x :: r, l => l.contains x || anyIn r l
theorem anyIn_f {a b : List Nat} (h : anyIn a b = false) : ∀ x ∈ a, x ∉ b := by
  induction a with
  | nil => intro x hx; cases hx
  | cons y r ih =>
    simp only [anyIn, Bool.or_eq_false_iff, List.contains_eq_mem, decide_eq_false_iff_not] at h
    intro x hx
    rcases List.mem_cons.1 hx with rfl | hx
    · exact h.1
    · exact ih h.2 x hx
def Dk.rd (mem : Mem) : (D : Dk) → D.ty.den → Option (D.den × Bool × List Nat)
  | .v _, x => some (x, true, [])
  | .own _ e, q => ownRd mem e q
  | .mp _ K E, q => mpRd mem K E q
  | .pr a b, x => match a.rd mem x.1, b.rd mem x.2 with
    | some (y, c, u), some (z, d, w) => bif anyIn u w then none else some ((y, z), c && d, u ++ w)
    | _, _ => none
def qPh (φ : Phi) (q : SL) (v : Value) (e : Ty) : Option Phys :=
  match φ q.id, v with
  | some ph, .slice (some _) _ c => if 0 < c then some ⟨ph.blk, ph.off + q.start * size e, e, c⟩ else none
  | _, _ => none
def qPhO (φ : Phi) (q : Option SL) (v : Value) (e : Ty) : Option Phys := match q with | some q => qPh φ q v e | none => none
def mPhO (φ : Phi) (q : Option Nat) : Option Phys := match q with | some j => φ j | none => none
def Dk.ph (φ : Phi) (val : Nat → Value) : (D : Dk) → D.ty.den → Nat → Nat → Option Phys
  | .v _, _, _, _ => none
  | .own _ e, q, k, _ => qPhO φ q (val k) e
  | .mp _ _ _, q, _, _ => mPhO φ q
  | .pr a b, x, k, i => if i ∈ a.nms then a.ph φ val x.1 k i else b.ph φ val x.2 (k + size a.ty) i
def BlkAt (base : Nat) (φ ψ : Phi) (mem : Mem) (w : World) (u : List Nat) (i : Nat) (b : Blk) : Prop :=
  (ψ i = none ∧ b.n = 0) ∨ ∃ ph, ψ i = some ph ∧ BlkRel base ψ ph b w ∧ ∃ i0 b0 ph0, i0 ∈ u ∧ Mem.get mem i0 = some b0 ∧ (b.wr = true → b0.wr = true) ∧ φ i0 = some ph0 ∧ ph0.blk = ph.blk
theorem BlkAt.more {base : Nat} {φ ψ : Phi} {mem : Mem} {w : World} {u u' : List Nat} {i : Nat} {b : Blk} (h : BlkAt base φ ψ mem w u i b) (hu : ∀ x ∈ u, x ∈ u') : BlkAt base φ ψ mem w u' i b :=
  h.imp id (fun ⟨ph, k1, k2, i0, b0, ph0, k3, k4⟩ => ⟨ph, k1, k2, i0, b0, ph0, hu _ k3, k4⟩)
theorem CR_imm2 {φ ψ : Phi} (h : ψ.imm = φ.imm) {t : Ty} (ht : valT t = true) {x : t.den} {c : Cell} {i : Nat} (hc : (flat t x)[i]? = some c) {v : Value} (hr : CR φ c v) : CR ψ c v :=
  CR_imm (fun k o hk => by rw [h]; exact hk) (val_cells ht c (List.mem_of_getElem? hc)) hr
theorem own_sound {base : Nat} {φ ψ : Phi} {mem : Mem} {nxt : Nat} {w : World} (hm : MemRel base φ mem nxt w) (himm : ψ.imm = φ.imm) {e : Ty} (hT : valT e = true) {q : Option SL} {y : List e.den} {u : List Nat} (h : ownRd mem e q = some (y, true, u)) {v : Value}
    (hv : CR φ (.c0 (.slice q)) v) {c : Nat} (hc : ψ c = qPhO φ q v e) :
    SR ψ ⟨c, [], 0, y.length, none⟩ v ∧ BlkAt base φ ψ mem w u c ⟨e, y.length, y, true⟩ := by
  unfold CR at hv
  cases q with
  | none =>
    simp only [ownRd, Option.some.injEq, Prod.mk.injEq] at h
    obtain ⟨rfl, _, rfl⟩ := h
    have hv : v = .slice none 0 0 := hv
    exact ⟨.inl ⟨rfl, rfl, hv⟩, .inl ⟨hc, rfl⟩⟩
  | some q =>
    have hvv : SR φ q v := hv
    have hc : ψ c = qPh φ q v e := hc
    simp only [ownRd] at h
    split at h
    · rename_i b hqp hb
      obtain ⟨hb, hbnt⟩ := Mem.getC_spec hb
      unfold ownB at h
      split at h
      · rename_i hbt
        simp only [Option.some.injEq, Prod.mk.injEq] at h
        obtain ⟨rfl, hok, rfl⟩ := h
        rw [Bool.and_eq_true, Bool.and_eq_true, Bool.and_eq_true] at hok
        obtain ⟨hmk, hwr, hle, hcap⟩ := hok
        have hnv : ¬ VD q := VD.start (by simpa using hmk)
        have hle := of_decide_eq_true hle
        obtain ⟨bt, bn, brow, bwr⟩ := b
        simp only at hbt hwr hle hcap
        subst hbt
        subst hwr
        have empty : qPh φ q v bt = none → q.len = 0 → SR ψ ⟨c, [], 0, (sec (GX.dflt bt) brow q.start q.len).length, none⟩ v → SR ψ ⟨c, [], 0, (sec (GX.dflt bt) brow q.start q.len).length, none⟩ v ∧ BlkAt base φ ψ mem w [q.id] c ⟨bt, (sec (GX.dflt bt) brow q.start q.len).length, sec (GX.dflt bt) brow q.start q.len, true⟩ :=
          fun h1 h2 h3 => ⟨h3, .inl ⟨hc.trans h1, by show (sec _ _ _ _).length = 0; rw [length_sec]; exact h2⟩⟩
        rcases hvv with ⟨hl0, _, hv⟩ | ⟨ad, cc, hv, hlc, hck, hcn, had⟩
        · exact empty (by unfold qPh; rw [hv]; cases φ q.id <;> rfl) hl0 (.inl ⟨by simp only [length_sec]; exact hl0, rfl, hv⟩)
        · rcases Nat.eq_zero_or_pos cc with h0 | hpos
          · have hl0 : q.len = 0 := by omega
            refine empty (by unfold qPh; rw [hv]; cases φ q.id <;> simp [h0]) hl0 (.inr ⟨ad, cc, ?_, ?_, fun k hk => (by cases hk), fun _ hc _ => (by omega), fun hc _ => (by omega)⟩)
            · simp only [length_sec]; exact hv
            · simp only [length_sec]; exact hlc
          · have ha := had hpos hnv
            obtain ⟨ph, hph⟩ := addr_phys ha
            simp only at hph
            have hbr := hm.blkAt hb hph
            obtain ⟨cs, el, fr, g1, g2, g3⟩ := hbr.cells hbnt
            obtain ⟨hbs, rfl, him, hbcap, hsz⟩ := g3 rfl
            have hsome : ψ c = some ⟨ph.blk, ph.off + q.start * size bt, bt, cc⟩ := by
              rw [hc]; unfold qPh; rw [hph, hv]; simp only; rw [if_pos hpos]
            have hcap2 : q.start + cc ≤ ph.cap := by
              cases hqc : q.cap with
              | none =>
                obtain ⟨ph', hp', _, he'⟩ := hcn hqc hpos hnv
                rw [hph] at hp'; cases hp'
                omega
              | some k =>
                have := hck k hqc
                rw [hqc] at hcap
                simp only [decide_eq_true_eq] at hcap
                simp only at hbcap
                omega
            have hadd : ad = ⟨ph.blk, ph.off + q.start * size bt, none⟩ := by
              unfold addr at ha
              have h00 : offs bt [] = some 0 := by cases bt <;> rfl
              simp only [hph, hqp, List.nil_append, hbr.t] at ha
              simp only [offs, h00, Option.map_some, Nat.add_zero, Option.some.injEq] at ha
              exact ha.symm
            have hnb : BlkRel base ψ ⟨ph.blk, ph.off + q.start * size bt, bt, cc⟩ ⟨bt, (sec (GX.dflt bt) brow q.start q.len).length, sec (GX.dflt bt) brow q.start q.len, true⟩ w := by
              refine ⟨rfl, fun _ => ⟨hbs, by rw [himm]; exact him⟩, MpRel.plain hbnt _, fun _ => ⟨cs, el, (0, 0), g1, fun k d hk => ?_, fun _ => ⟨hbs, rfl, by rw [himm]; exact him, by simp only [length_sec]; exact hlc, ?_⟩⟩⟩
              · have hk0 : (flat (.arr q.len bt) (sec (GX.dflt bt) brow q.start q.len))[k]? = some d := by
                  have hk' : (flat (.arr (sec (GX.dflt bt) brow q.start q.len).length bt) (sec (GX.dflt bt) brow q.start q.len))[k]? = some d := hk
                  rwa [length_sec] at hk'
                have hlt := (List.getElem?_eq_some_iff.1 hk0).1
                rw [length_flat, size] at hlt
                have hposz : 0 < size bt := by
                  rcases Nat.eq_zero_or_pos (size bt) with h0 | h0
                  · rw [h0] at hlt; omega
                  · exact h0
                have hq : k / size bt < q.len := Nat.div_lt_of_lt_mul (by rw [Nat.mul_comm]; exact hlt)
                have hrr : k % size bt < size bt := Nat.mod_lt _ hposz
                have hkk : k = k / size bt * size bt + k % size bt := by rw [Nat.mul_comm]; exact (Nat.div_add_mod k (size bt)).symm
                have hk1 := hk0
                rw [flat, hkk, get_flatMap_const _ (size bt) (fun i => length_flat bt _) _ _ _ hq hrr, getD_sec _ _ _ _ _ hq] at hk1
                obtain ⟨v', hv', hvr⟩ := g2 ((q.start + k / size bt) * size bt + k % size bt) d (by
                  show (flat (.arr bn bt) brow)[_]? = some d
                  rw [flat, get_flatMap_const _ (size bt) (fun i => length_flat bt _) _ _ _ (by omega) hrr]; exact hk1)
                refine ⟨v', ?_, CR_imm2 himm (t := bt) hT hk1 hvr⟩
                rw [← hv']
                congr 1
                show ph.off + q.start * size bt + k = _
                rw [Nat.add_mul]; omega
              · simp only at hsz ⊢
                have : (q.start + cc) * size bt ≤ ph.cap * size bt := Nat.mul_le_mul_right _ hcap2
                rw [Nat.add_mul] at this
                omega
            refine ⟨.inr ⟨ad, cc, by simp only [length_sec]; exact hv, by simp only [length_sec]; exact hlc, fun k hk => (by cases hk), fun _ _ _ => ⟨_, hsome, rfl, by simp⟩, fun _ _ => ?_⟩, .inr ⟨_, hsome, hnb, q.id, _, ph, by simp, hb, fun _ => rfl, hph, rfl⟩⟩
            unfold addr
            simp only [hsome]
            have h00 : offs bt [] = some 0 := by cases bt <;> rfl
            simp [offs, h00, hadd]
      · cases h
    · cases h
theorem V1_imm2 {φ ψ : Phi} (h : ψ.imm = φ.imm) {t : Ty} (ht : valT t = true) {x : t.den} {v : Value} (hr : V1 φ t x v) : V1 ψ t x v := by
  unfold V1 at hr ⊢
  split
  · rename_i ha
    rw [if_pos ha] at hr
    obtain ⟨l, e, h1, h2⟩ := hr
    exact ⟨l, e, h1, fun i c hi => by obtain ⟨v, hv, hx⟩ := h2 i c hi; exact ⟨v, hv, CR_imm2 h ht hi hx⟩⟩
  · rename_i ha
    rw [if_neg ha] at hr
    obtain ⟨c, e, h1⟩ := hr
    exact ⟨c, e, CR_imm2 h ht (i := 0) (by rw [e]; rfl) h1⟩
theorem mp_sound {base : Nat} {φ ψ : Phi} {mem : Mem} {nxt : Nat} {w : World} (hm : MemRel base φ mem nxt w) (himm : ψ.imm = φ.imm) {K E : Ty} (hK : valT K = true) (hE : valT E = true) {q : Option Nat} {y : List (MT K E).den} {u : List Nat} (h : mpRd mem K E q = some (y, true, u)) {v : Value}
    (hv : CR φ (.c0 (.map q)) v) {c : Nat} (hc : ψ c = mPhO φ q) :
    CR ψ (.c0 (.map (some c))) v ∧ BlkAt base φ ψ mem w u c ⟨MT K E, 0, y, true⟩ := by
  unfold CR at hv ⊢
  cases q with
  | none => cases h
  | some j =>
    simp only [mpRd] at h
    split at h
    · rename_i b hb
      split at h
      · rename_i row hrow
        simp only [Option.some.injEq, Prod.mk.injEq] at h
        obtain ⟨rfl, hok, rfl⟩ := h
        obtain ⟨hwr, hn⟩ := and_split hok
        have hn := Nat.eq_of_beq_eq_true hn
        have hbe := asBlk_eq hrow
        rw [hwr, hn] at hbe
        subst hbe
        obtain ⟨ph, hp, hvv⟩ := hv
        have hbr := hm.blkAt hb hp
        have hcs : ψ c = some ph := by rw [hc]; exact hp
        refine ⟨⟨ph, hcs, hvv⟩, .inr ⟨ph, hcs, ⟨hbr.t, fun hw => ?_, ?_, fun ht => by cases ht⟩, j, _, ph, by simp, hb, fun _ => rfl, hp, rfl⟩⟩
        · obtain ⟨h1, h2⟩ := hbr.own hw
          exact ⟨h1, by rw [himm]; exact h2⟩
        · obtain ⟨es, clock, h1, h2, h3, h4⟩ := hbr.mp
          exact ⟨es, clock, h1, h2, fun i x hx => (by
            obtain ⟨e, he, k1, k2⟩ := h3 i x hx
            exact ⟨e, he, V1_imm2 himm hK k1, V1_imm2 himm hE k2⟩), h4⟩
      · cases h
    · cases h
theorem Mem.get_append {a b : Mem} {i : Nat} : Mem.get (a ++ b) i = match Mem.get a i with | some x => some x | none => Mem.get b i := by
  induction a with
  | nil => rfl
  | cons p r ih =>
    obtain ⟨k, c⟩ := p
    simp only [List.cons_append, Mem.get_cons]
    by_cases e : i = k
    · rw [if_pos e, if_pos e]
    · rw [if_neg e, if_neg e]; exact ih
theorem Dk.get_blks : ∀ {D : Dk} {y : D.den} {i : Nat} {b : Blk}, Mem.get (D.blks y) i = some b → i ∈ D.nms
  | .v _, y, i, b, h => by simp [Dk.blks, Mem.get] at h
  | .own c e, y, i, b, h => by
    simp only [Dk.blks, Mem.get_cons] at h
    by_cases e : i = c
    · simp [Dk.nms, e]
    · rw [if_neg e] at h; cases h
  | .mp c K E, y, i, b, h => by
    simp only [Dk.blks, Mem.get_cons] at h
    by_cases e : i = c
    · simp [Dk.nms, e]
    · rw [if_neg e] at h; cases h
  | .pr a b, y, i, b', h => by
    simp only [Dk.blks, Mem.get_append] at h
    simp only [Dk.nms, List.mem_append]
    split at h
    · rename_i x hx
      exact .inl (Dk.get_blks hx)
    · exact .inr (Dk.get_blks h)
theorem blks_wr : ∀ {D : Dk} {y : D.den} {c : Nat} {b : Blk}, Mem.get (D.blks y) c = some b → b.wr = true
  | .v _, y, c, b, h => by simp [Dk.blks, Mem.get] at h
  | .own c0 e, y, c, b, h => by
    simp only [Dk.blks, Mem.get_cons] at h
    by_cases e : c = c0
    · rw [if_pos e] at h; cases h; rfl
    · rw [if_neg e] at h; cases h
  | .mp c0 K E, y, c, b, h => by
    simp only [Dk.blks, Mem.get_cons] at h
    by_cases e : c = c0
    · rw [if_pos e] at h; cases h; rfl
    · rw [if_neg e] at h; cases h
  | .pr a b, y, c, b', h => by
    simp only [Dk.blks, Mem.get_append] at h
    split at h
    · rename_i x hx; cases h; exact blks_wr hx
    · exact blks_wr h
theorem apart_src {base : Nat} {φ ψ : Phi} {mem : Mem} {nxt : Nat} {w : World} (hm : MemRel base φ mem nxt w) {u1 u2 : List Nat} (hd : ∀ x ∈ u1, x ∉ u2) {i j : Nat} {bi bj : Blk} {pi pj : Phys} (h1 : BlkAt base φ ψ mem w u1 i bi) (h2 : BlkAt base φ ψ mem w u2 j bj)
    (hw : bi.wr = true ∨ bj.wr = true) (hpi : ψ i = some pi) (hpj : ψ j = some pj) : pi.blk ≠ pj.blk := by
  rcases h1 with ⟨g, _⟩ | ⟨p1, k1, _, i1, c1, q1, k3, k4, k5, k6, k7⟩
  · rw [hpi] at g; cases g
  · rcases h2 with ⟨g, _⟩ | ⟨p2, l1, _, i2, c2, q2, l3, l4, l5, l6, l7⟩
    · rw [hpj] at g; cases g
    · rw [hpi] at k1; cases k1
      rw [hpj] at l1; cases l1
      rw [← k7, ← l7]
      rcases hw with hw | hw
      · exact hm.apart i1 i2 c1 c2 q1 q2 k4 l4 (fun e => hd i1 k3 (e ▸ l3)) (k5 hw) k6 l6
      · exact (hm.apart i2 i1 c2 c1 q2 q1 l4 k4 (fun e => hd i1 k3 (e ▸ l3)) (l5 hw) l6 k6).symm
structure MemAt (base : Nat) (φ ψ : Phi) (mem : Mem) (w : World) (u : List Nat) (A : Mem) : Prop where
  at_ : ∀ i b, Mem.get A i = some b → BlkAt base φ ψ mem w u i b
  apart : ∀ i j b b' ph ph', Mem.get A i = some b → Mem.get A j = some b' → i ≠ j → b.wr = true → ψ i = some ph → ψ j = some ph' → ph.blk ≠ ph'.blk
theorem MemAt.append {base : Nat} {φ ψ : Phi} {mem : Mem} {nxt : Nat} {w : World} (hm : MemRel base φ mem nxt w) {u1 u2 : List Nat} (hd : ∀ x ∈ u1, x ∉ u2) {A B : Mem} (ha : MemAt base φ ψ mem w u1 A) (hb : MemAt base φ ψ mem w u2 B) : MemAt base φ ψ mem w (u1 ++ u2) (A ++ B) := by
  refine ⟨fun i b hi => ?_, fun i j b b' ph ph' hi hj hij hw hp hp' => ?_⟩
  · rw [Mem.get_append] at hi
    split at hi
    · rename_i x hx
      cases hi
      exact (ha.at_ i b hx).more (fun x hx => by simp [hx])
    · exact (hb.at_ i b hi).more (fun x hx => by simp [hx])
  · rw [Mem.get_append] at hi hj
    cases g1 : Mem.get A i with
    | some x1 =>
      rw [g1] at hi; cases hi
      cases g2 : Mem.get A j with
      | some x2 => exact ha.apart i j b x2 ph ph' g1 g2 hij hw hp hp'
      | none =>
        rw [g2] at hj
        exact apart_src hm hd (ha.at_ i b g1) (hb.at_ j b' hj) (.inl hw) hp hp'
    | none =>
      rw [g1] at hi
      cases g2 : Mem.get A j with
      | some x2 => exact (apart_src hm hd (ha.at_ j x2 g2) (hb.at_ i b hi) (.inr hw) hp' hp).symm
      | none =>
        rw [g2] at hj
        exact hb.apart i j b b' ph ph' hi hj hij hw hp hp'
theorem MemAt.one {base : Nat} {φ ψ : Phi} {mem : Mem} {w : World} {u : List Nat} {i : Nat} {b : Blk} (h : BlkAt base φ ψ mem w u i b) : MemAt base φ ψ mem w u [(i, b)] := by
  refine ⟨fun j b' hj => ?_, fun j k b1 b2 p1 p2 hj hk hjk => ?_⟩
  · simp only [Mem.get_cons] at hj
    by_cases e : j = i
    · rw [if_pos e] at hj; cases hj; subst e; exact h
    · rw [if_neg e] at hj; cases hj
  · simp only [Mem.get_cons] at hj hk
    by_cases e : j = i
    · by_cases e' : k = i
      · exact absurd (e.trans e'.symm) hjk
      · rw [if_neg e'] at hk; cases hk
    · rw [if_neg e] at hj; cases hj
theorem Dk.sound {base : Nat} {φ ψ : Phi} {mem : Mem} {nxt : Nat} {w : World} (hm : MemRel base φ mem nxt w) (himm : ψ.imm = φ.imm) {val : Nat → Value} :
    ∀ {D : Dk} {x0 : D.ty.den} {y : D.den} {u : List Nat} {k0 : Nat}, D.rd mem x0 = some (y, true, u) → D.plain = true → noDup D.nms = true →
      (∀ j c, (flat D.ty x0)[j]? = some c → CR φ c (val (k0 + j))) → (∀ c ∈ D.nms, ψ c = D.ph φ val x0 k0 c) →
      (∀ j c, (flat D.ty (D.mk y))[j]? = some c → CR ψ c (val (k0 + j))) ∧ (∀ i b, Mem.get (D.blks y) i = some b → BlkAt base φ ψ mem w u i b) ∧
      (∀ i j b b' ph ph', Mem.get (D.blks y) i = some b → Mem.get (D.blks y) j = some b' → i ≠ j → ψ i = some ph → ψ j = some ph' → ph.blk ≠ ph'.blk)
  | .v t, x0, y, u, k0, h, hp, hd, hc, hn => by
    simp only [Dk.rd, Option.some.injEq, Prod.mk.injEq] at h
    obtain ⟨rfl, _, rfl⟩ := h
    refine ⟨fun j c hj => CR_imm2 himm (t := t) hp hj (hc j c hj), fun i b hi => ?_, fun i j b b' ph ph' hi => ?_⟩
    · simp [Dk.blks, Mem.get] at hi
    · simp [Dk.blks, Mem.get] at hi
  | .own c e, x0, y, u, k0, h, hp, hd, hc, hn => by
    have h0 := hc 0 (.c0 (.slice x0)) rfl
    obtain ⟨h1, h2⟩ := own_sound hm himm hp h h0 (c := c) (by
      rw [hn c (by simp [Dk.nms])]
      rfl)
    refine ⟨fun j d hj => ?_, fun i b hi => ?_, fun i j b b' ph ph' hi hj hij => ?_⟩
    · cases j with
      | zero =>
        simp only [Dk.mk, flat, List.getElem?_cons_zero, Option.some.injEq] at hj
        subst hj
        unfold CR
        exact h1
      | succ j => simp [Dk.mk, flat] at hj
    · simp only [Dk.blks, Mem.get_cons] at hi
      by_cases e : i = c
      · rw [if_pos e] at hi; cases hi; subst e; exact h2
      · rw [if_neg e] at hi; cases hi
    · simp only [Dk.blks, Mem.get_cons] at hi hj
      by_cases e : i = c
      · by_cases e' : j = c
        · exact absurd (e.trans e'.symm) hij
        · rw [if_neg e'] at hj; cases hj
      · rw [if_neg e] at hi; cases hi
  | .mp c K E, x0, y, u, k0, h, hp, hd, hc, hn => by
    have h0 := hc 0 (.c0 (.map x0)) rfl
    obtain ⟨hK, hE⟩ := and_split hp
    obtain ⟨h1, h2⟩ := mp_sound hm himm hK hE h h0 (c := c) (by
      rw [hn c (by simp [Dk.nms])]
      rfl)
    refine ⟨fun j d hj => ?_, fun i b hi => ?_, fun i j b b' ph ph' hi hj hij => ?_⟩
    · cases j with
      | zero =>
        simp only [Dk.mk, flat, List.getElem?_cons_zero, Option.some.injEq] at hj
        subst hj
        exact h1
      | succ j => simp [Dk.mk, flat] at hj
    · simp only [Dk.blks, Mem.get_cons] at hi
      by_cases e : i = c
      · rw [if_pos e] at hi; cases hi; subst e; exact h2
      · rw [if_neg e] at hi; cases hi
    · simp only [Dk.blks, Mem.get_cons] at hi hj
      by_cases e : i = c
      · by_cases e' : j = c
        · exact absurd (e.trans e'.symm) hij
        · rw [if_neg e'] at hj; cases hj
      · rw [if_neg e] at hi; cases hi
  | .pr a b, x0, y, u, k0, h, hp, hd, hc, hn => by
    simp only [Dk.rd] at h
    split at h
    · rename_i y1 c1 u1 y2 c2 u2 ha hb
      cases hi : anyIn u1 u2 <;> rw [hi] at h
      · simp only [cond_false, Option.some.injEq, Prod.mk.injEq] at h
        obtain ⟨rfl, hok, rfl⟩ := h
        obtain ⟨rfl, rfl⟩ := and_split hok
        obtain ⟨hpa, hpb⟩ := and_split hp
        obtain ⟨hda, hdb, hdis⟩ := noDup_append hd
        obtain ⟨a1, a2, a3⟩ := Dk.sound hm himm (D := a) (k0 := k0) ha hpa hda (fun j c hj => hc j c (by
          simp only [flat]
          rw [List.getElem?_append_left (List.getElem?_eq_some_iff.1 hj).1]; exact hj)) (fun c hcm => by
          rw [hn c (by simp [Dk.nms, hcm])]
          simp only [Dk.ph, if_pos hcm])
        obtain ⟨b1, b2, b3⟩ := Dk.sound hm himm (D := b) (k0 := k0 + size a.ty) hb hpb hdb (fun j c hj => by
          have := hc (size a.ty + j) c (by
            simp only [flat]
            rw [List.getElem?_append_right (by rw [length_flat]; omega), length_flat]
            rw [show size a.ty + j - size a.ty = j by omega]; exact hj)
          rwa [← Nat.add_assoc] at this) (fun c hcm => by
          rw [hn c (by simp [Dk.nms, hcm])]
          simp only [Dk.ph]
          rw [if_neg (fun h => hdis c h hcm)])
        refine ⟨fun j c hj => ?_, fun i b' hi' => ?_, fun i j b1' b2' ph ph' hi' hj' hij hp1 hp2 => ?_⟩
        · simp only [Dk.mk, flat] at hj
          rcases Nat.lt_or_ge j (size a.ty) with hlt | hge
          · rw [List.getElem?_append_left (by rw [length_flat]; exact hlt)] at hj
            exact a1 j c hj
          · rw [List.getElem?_append_right (by rw [length_flat]; exact hge), length_flat] at hj
            have := b1 (j - size a.ty) c hj
            rwa [show k0 + size a.ty + (j - size a.ty) = k0 + j by omega] at this
        · simp only [Dk.blks, Mem.get_append] at hi'
          split at hi'
          · rename_i x hx
            cases hi'
            exact (a2 i b' hx).more (fun x hx => by simp [hx])
          · exact (b2 i b' hi').more (fun x hx => by simp [hx])
        · have src : ∀ {i j : Nat} {bi bj : Blk} {pi pj : Phys}, BlkAt base φ ψ mem w u1 i bi → BlkAt base φ ψ mem w u2 j bj → bi.wr = true → ψ i = some pi → ψ j = some pj → pi.blk ≠ pj.blk := by
            intro i j bi bj pi pj h1 h2 hw hpi hpj
            rcases h1 with ⟨g, _⟩ | ⟨p1, k1, _, i1, c1, q1, k3, k4, k5, k6, k7⟩
            · rw [hpi] at g; cases g
            · rcases h2 with ⟨g, _⟩ | ⟨p2, l1, _, i2, c2, q2, l3, l4, l5, l6, l7⟩
              · rw [hpj] at g; cases g
              · rw [hpi] at k1; cases k1
                rw [hpj] at l1; cases l1
                rw [← k7, ← l7]
                exact hm.apart i1 i2 c1 c2 q1 q2 k4 l4 (fun e => anyIn_f hi i1 k3 (e ▸ l3)) (k5 hw) k6 l6
          simp only [Dk.blks, Mem.get_append] at hi' hj'
          cases g1 : Mem.get (a.blks y1) i with
          | some x1 =>
            cases g2 : Mem.get (a.blks y1) j with
            | some x2 => exact a3 i j x1 x2 ph ph' g1 g2 hij hp1 hp2
            | none =>
              rw [g2] at hj'
              exact src (a2 i x1 g1) (b2 j b2' hj') (blks_wr g1) hp1 hp2
          | none =>
            rw [g1] at hi'
            cases g2 : Mem.get (a.blks y1) j with
            | some x2 => exact (src (a2 j x2 g2) (b2 i b1' hi') (blks_wr g2) hp2 hp1).symm
            | none =>
              rw [g2] at hj'
              exact b3 i j b1' b2' ph ph' hi' hj' hij hp1 hp2
      · cases h
    · cases h
theorem Dk.ph_lt {φ : Phi} {val : Nat → Value} {N : Nat} (hm : ∀ i ph, φ i = some ph → ph.blk < N) : ∀ {D : Dk} {x : D.ty.den} {k i : Nat} {p : Phys}, D.ph φ val x k i = some p → p.blk < N
  | .v _, x, k, i, p, h => by cases h
  | .own _ e, x, k, i, p, h => by
    simp only [Dk.ph, qPhO] at h
    split at h
    · unfold qPh at h
      split at h
      · rename_i ph _ _ _ h0 _
        split at h
        · cases h; exact hm _ ph h0
        · cases h
      · cases h
    · cases h
  | .mp _ _ _, x, k, i, p, h => by
    simp only [Dk.ph, mPhO] at h
    split at h
    · exact hm _ p h
    · cases h
  | .pr a b, x, k, i, p, h => by
    simp only [Dk.ph] at h
    split at h
    · exact Dk.ph_lt hm h
    · exact Dk.ph_lt hm h
def cellAt (w : World) (blk k : Nat) : Value := match w.heap[blk]? with | some (.cells cs _ _) => (cs[k]?).getD undef | _ => undef
def obRd0 (mem : Mem) (i : Nat) (D : Dk) (b : Blk) : Option (D.den × Bool × List Nat) :=
  if h : b.t = D.ty then (match D.rd mem (h ▸ b.row.getD 0 (GX.dflt b.t)) with
    | some (x, c, v) => bif v.contains i then none else some (x, b.wr && (Nat.beq b.n 1 && c), i :: v)
    | none => none) else none
def obRd (mem : Mem) (i : Nat) (D : Dk) (b : Blk) : Option (D.den × Bool × List Nat) := bif b.wr then obRd0 mem i D b else none
theorem obRd_0 {mem : Mem} {i : Nat} {D : Dk} {b : Blk} {r : D.den × Bool × List Nat} (h : obRd mem i D b = some r) : obRd0 mem i D b = some r := by
  unfold obRd at h
  cases hw : b.wr <;> rw [hw] at h
  · cases h
  · exact h
def obPh (φ : Phi) (st : Mem) (w : World) (i : Nat) (D : Dk) (c : Nat) : Option Phys :=
  match φ i, Mem.getC st i with
  | some ph, some b => if h : b.t = D.ty then D.ph φ (fun k => cellAt w ph.blk (ph.off + k)) (h ▸ b.row.getD 0 (GX.dflt b.t)) 0 c else none
  | _, _ => none
theorem obPh_lt {φ : Phi} {st : Mem} {w : World} {i : Nat} {D : Dk} {c : Nat} {N : Nat} (hm : ∀ i ph, φ i = some ph → ph.blk < N) {p : Phys} (h : obPh φ st w i D c = some p) : p.blk < N := by
  unfold obPh at h
  split at h
  · split at h
    · exact Dk.ph_lt hm h
    · cases h
  · cases h
theorem ob_sound {base : Nat} {φ ψ : Phi} {mem : Mem} {nxt : Nat} {w : World} (hm : MemRel base φ mem nxt w) (himm : ψ.imm = φ.imm) {i : Nat} {D : Dk} {b : Blk} (hb : Mem.getC mem i = some b) {x : D.den} {u : List Nat} (h : obRd mem i D b = some (x, true, u)) (hp : D.plain = true)
    (hd : noDup D.nms = true) {i' : Nat} (hi : ψ i' = φ i) (hn : ∀ c ∈ D.nms, ψ c = obPh φ mem w i D c) : MemAt base φ ψ mem w u ((i', ⟨D.ty, 1, [D.mk x], true⟩) :: D.blks x) := by
  have hb0 := hb
  obtain ⟨hb, hbnt⟩ := Mem.getC_spec hb
  replace h := obRd_0 h
  unfold obRd0 at h
  split at h
  · rename_i ht
    split at h
    · rename_i x' c v hrd
      cases hc : v.contains i <;> rw [hc] at h
      · simp only [cond_false, Option.some.injEq, Prod.mk.injEq] at h
        obtain ⟨rfl, hok, rfl⟩ := h
        obtain ⟨hwr, hok⟩ := and_split hok
        obtain ⟨hn1, rfl⟩ := and_split hok
        obtain ⟨bt, bn, brow, bwr⟩ := b
        simp only at ht hwr hn1 hbnt hrd hn
        subst hwr
        have hn1 := Nat.eq_of_beq_eq_true hn1
        subst hn1
        rcases hm.blk i _ hb with ⟨_, h0⟩ | ⟨ph, hph, hbr⟩
        · simp at h0
        · obtain ⟨cs, el, fr, g1, g2, g3⟩ := hbr.cells hbnt
          subst ht
          have hval : ∀ k, cellAt w ph.blk k = (cs[k]?).getD undef := fun k => by unfold cellAt; rw [g1]
          have e1 : ∀ z : D.ty.den, flat (.arr 1 D.ty) [z] = flat D.ty z := fun z => by simp [flat, List.range_succ]
          have e2 : flat (.arr 1 D.ty) brow = flat D.ty (brow.getD 0 (GX.dflt D.ty)) := by simp [flat, List.range_succ]
          obtain ⟨s1, s2, s3⟩ := Dk.sound hm himm (val := fun k => cellAt w ph.blk (ph.off + k)) (k0 := 0) hrd hp hd (fun j d hj => by
            obtain ⟨v, hv, hx⟩ := g2 j d (by show (flat (.arr 1 D.ty) brow)[j]? = some d; rw [e2]; exact hj)
            show CR φ d (cellAt w ph.blk (ph.off + (0 + j)))
            rw [Nat.zero_add, hval, hv]; exact hx) (fun d hd => by
            rw [hn d hd]
            unfold obPh
            rw [hph, hb0]
            simp)
          have hiv : i ∉ v := by intro hm; rw [show v.contains i = true from by simpa using hm] at hc; cases hc
          have hone : BlkAt base φ ψ mem w [i] i' ⟨D.ty, 1, [D.mk x'], true⟩ := by
            refine .inr ⟨ph, hi.trans hph, ⟨hbr.t, fun _ => ⟨(g3 rfl).1, by rw [himm]; exact (g3 rfl).2.2.1⟩, MpRel.plain hbnt _, fun _ => ⟨cs, el, fr, g1, fun k d hk => ?_, fun _ => ?_⟩⟩, i, _, ph, by simp, hb, fun _ => rfl, hph, rfl⟩
            · have hk' : (flat D.ty (D.mk x'))[k]? = some d := by rw [← e1]; exact hk
              have hx := s1 k d hk'
              have hx : CR ψ d (cellAt w ph.blk (ph.off + (0 + k))) := hx
              rw [Nat.zero_add, hval] at hx
              have hlt := (List.getElem?_eq_some_iff.1 hk').1
              obtain ⟨d0, hd0⟩ : ∃ d0, (flat D.ty (brow.getD 0 (GX.dflt D.ty)))[k]? = some d0 := by
                refine ⟨_, List.getElem?_eq_getElem (by rw [length_flat]; rw [length_flat] at hlt; exact hlt)⟩
              obtain ⟨v, hv, _⟩ := g2 k d0 (by show (flat (.arr 1 D.ty) brow)[k]? = some d0; rw [e2]; exact hd0)
              rw [hv] at hx
              exact ⟨v, hv, hx⟩
            · obtain ⟨k1, k2, k3, k4, k5⟩ := g3 rfl
              exact ⟨k1, k2, by rw [himm]; exact k3, k4, k5⟩
          exact (MemAt.one hone).append hm (fun y hy => by simp at hy; subst hy; exact hiv) ⟨s2, fun i j b b' ph ph' g1 g2 g3 _ g4 g5 => s3 i j b b' ph ph' g1 g2 g3 g4 g5⟩
      · cases h
    · cases h
  · cases h
def Dk.blksR : (D : Dk) → D.den → Mem
  | .v _, _ => []
  | .own c e, x => [(c, ⟨e, x.length, x, false⟩)]
  | .mp c K E, x => [(c, ⟨MT K E, 0, x, false⟩)]
  | .pr a b, x => a.blksR x.1 ++ b.blksR x.2
def impS {α : Type} (l : List α) : Nat := bif l.isEmpty then MARK else 0
def Dk.mkI : (D : Dk) → D.den → D.ty.den
  | .v _, x => x
  | .own c _, x => some ⟨c, [], impS x, x.length, none⟩
  | .mp c _ _, _ => some c
  | .pr a b, x => (a.mkI x.1, b.mkI x.2)
theorem Dk.get_blksR : ∀ {D : Dk} {y : D.den} {i : Nat} {b : Blk}, Mem.get (D.blksR y) i = some b → i ∈ D.nms
  | .v _, y, i, b, h => by simp [Dk.blksR, Mem.get] at h
  | .own c e, y, i, b, h => by
    simp only [Dk.blksR, Mem.get_cons] at h
    by_cases e : i = c
    · simp [Dk.nms, e]
    · rw [if_neg e] at h; cases h
  | .mp c K E, y, i, b, h => by
    simp only [Dk.blksR, Mem.get_cons] at h
    by_cases e : i = c
    · simp [Dk.nms, e]
    · rw [if_neg e] at h; cases h
  | .pr a b, y, i, b', h => by
    simp only [Dk.blksR, Mem.get_append] at h
    simp only [Dk.nms, List.mem_append]
    split at h
    · rename_i x hx
      exact .inl (Dk.get_blksR hx)
    · exact .inr (Dk.get_blksR h)
theorem blksR_ro : ∀ {D : Dk} {y : D.den} {i : Nat} {b : Blk}, Mem.get (D.blksR y) i = some b → b.wr = false
  | .v _, y, i, b, h => by simp [Dk.blksR, Mem.get] at h
  | .own c e, y, i, b, h => by
    simp only [Dk.blksR, Mem.get_cons] at h
    by_cases e : i = c
    · rw [if_pos e] at h; cases h; rfl
    · rw [if_neg e] at h; cases h
  | .mp c K E, y, i, b, h => by
    simp only [Dk.blksR, Mem.get_cons] at h
    by_cases e : i = c
    · rw [if_pos e] at h; cases h; rfl
    · rw [if_neg e] at h; cases h
  | .pr a b, y, i, b', h => by
    simp only [Dk.blksR, Mem.get_append] at h
    split at h
    · rename_i x hx; cases h; exact blksR_ro hx
    · exact blksR_ro h
def ownI (q : SL) (b : Blk) (e : Ty) : Option (List e.den × Bool × List Nat) :=
  if h : b.t = e then some (h ▸ sec (GX.dflt b.t) b.row q.start q.len, decide (q.start + q.len ≤ b.n) || Nat.beq q.len 0, [q.id]) else none
def ownRdI (mem : Mem) (e : Ty) (q : Option SL) : Option (List e.den × Bool × List Nat) :=
  match q with
  | none => some ([], true, [])
  | some q => match q.path, Mem.getC mem q.id with
    | [], some b => ownI q b e
    | _, _ => none
def Dk.rdI (mem : Mem) : (D : Dk) → D.ty.den → Option (D.den × Bool × List Nat)
  | .v _, x => some (x, true, [])
  | .own _ e, q => ownRdI mem e q
  | .mp _ _ _, _ => none
  | .pr a b, x => match a.rdI mem x.1, b.rdI mem x.2 with
    | some (y, c, u), some (z, d, w) => some ((y, z), c && d, u ++ w)
    | _, _ => none
def qPhI (φ : Phi) (q : Option SL) (v : Value) (e : Ty) : Option Phys := match q with
  | some q => if q.len = 0 then none else qPh φ q v e
  | none => none
def Dk.phI (φ : Phi) (val : Nat → Value) : (D : Dk) → D.ty.den → Nat → Nat → Option Phys
  | .v _, _, _, _ => none
  | .own _ e, q, k, _ => qPhI φ q (val k) e
  | .mp _ _ _, _, _, _ => none
  | .pr a b, x, k, i => if i ∈ a.nms then a.phI φ val x.1 k i else b.phI φ val x.2 (k + size a.ty) i
theorem impS_nil {α : Type} {l : List α} (h : l.length = 0) : impS l = MARK := by
  have : l = [] := List.length_eq_zero_iff.1 h
  rw [this]; rfl
theorem impS_pos {α : Type} {l : List α} (h : 0 < l.length) : impS l = 0 := by
  cases l with
  | nil => simp at h
  | cons _ _ => rfl
theorem ownI_sound {base : Nat} {φ ψ : Phi} {mem : Mem} {nxt : Nat} {w : World} (hm : MemRel base φ mem nxt w) (himm : ψ.imm = φ.imm) {e : Ty} (hT : valT e = true) {q : Option SL} {y : List e.den} {u : List Nat} (h : ownRdI mem e q = some (y, true, u)) {v : Value}
    (hv : CR φ (.c0 (.slice q)) v) {c : Nat} (hc : ψ c = qPhI φ q v e) : SR ψ ⟨c, [], impS y, y.length, none⟩ v ∧ BlkAt base φ ψ mem w u c ⟨e, y.length, y, false⟩ := by
  unfold CR at hv
  have empty : ∀ {y : List e.den} {u : List Nat} {a : Addr} {cc : Nat}, y.length = 0 → v = .slice (some a) 0 cc → ψ c = none → SR ψ ⟨c, [], impS y, y.length, none⟩ v ∧ BlkAt base φ ψ mem w u c ⟨e, y.length, y, false⟩ := by
    intro y u a cc h0 hv hn
    have hvd : VD ⟨c, [], impS y, y.length, none⟩ := ⟨impS_nil h0, h0, rfl⟩
    exact ⟨.inr ⟨a, cc, by rw [hv]; simp only [h0], by simp only [h0]; omega, fun k hk => (by cases hk), fun _ _ h => absurd hvd h, fun _ h => absurd hvd h⟩, .inl ⟨hn, h0⟩⟩
  cases q with
  | none =>
    simp only [ownRdI, Option.some.injEq, Prod.mk.injEq] at h
    obtain ⟨rfl, _, rfl⟩ := h
    have hv : v = .slice none 0 0 := hv
    exact ⟨.inl ⟨rfl, rfl, hv⟩, .inl ⟨hc, rfl⟩⟩
  | some q =>
    have hvv : SR φ q v := hv
    simp only [ownRdI] at h
    split at h
    · rename_i b hqp hb
      obtain ⟨hb, hbnt⟩ := Mem.getC_spec hb
      unfold ownI at h
      split at h
      · rename_i hbt
        simp only [Option.some.injEq, Prod.mk.injEq] at h
        obtain ⟨rfl, hok, rfl⟩ := h
        obtain ⟨bt, bn, brow, bwr⟩ := b
        simp only at hbt hok
        subst hbt
        have hl : (sec (GX.dflt bt) brow q.start q.len).length = q.len := length_sec _ _ _ _
        rcases hvv with ⟨hl0, _, hv⟩ | ⟨ad, cc, hv, hlc, hck, hcn, had⟩
        · refine ⟨.inl ⟨by simp only [hl]; exact hl0, rfl, hv⟩, .inl ⟨?_, by simp only [hl]; exact hl0⟩⟩
          rw [hc]; simp only [qPhI, if_pos hl0]
        · by_cases hl0 : q.len = 0
          · have hn : ψ c = none := by rw [hc]; simp only [qPhI, if_pos hl0]
            exact empty (y := sec (GX.dflt bt) brow q.start q.len) (by rw [hl]; exact hl0) (by rw [hv, hl0]) hn
          · have hle : q.start + q.len ≤ bn := by
              rcases Bool.or_eq_true_iff.1 hok with h | h
              · exact of_decide_eq_true h
              · exact absurd (Nat.eq_of_beq_eq_true h) hl0
            have hpos : 0 < cc := by omega
            have ha := had hpos (VD.not (by omega))
            obtain ⟨ph, hph⟩ := addr_phys ha
            simp only at hph
            have hbr := hm.blkAt hb hph
            obtain ⟨cs, el, fr, g1, g2, _⟩ := hbr.cells hbnt
            have hsome : ψ c = some ⟨ph.blk, ph.off + q.start * size bt, bt, cc⟩ := by
              rw [hc]; simp only [qPhI, if_neg hl0]; unfold qPh; rw [hph, hv]; simp only; rw [if_pos hpos]
            have hadd : ad = ⟨ph.blk, ph.off + q.start * size bt, none⟩ := by
              unfold addr at ha
              have h00 : offs bt [] = some 0 := by cases bt <;> rfl
              simp only [hph, hqp, List.nil_append, hbr.t] at ha
              simp only [offs, h00, Option.map_some, Nat.add_zero, Option.some.injEq] at ha
              exact ha.symm
            have hi0 : impS (sec (GX.dflt bt) brow q.start q.len) = 0 := impS_pos (by rw [hl]; omega)
            have hnb : BlkRel base ψ ⟨ph.blk, ph.off + q.start * size bt, bt, cc⟩ ⟨bt, (sec (GX.dflt bt) brow q.start q.len).length, sec (GX.dflt bt) brow q.start q.len, false⟩ w := by
              refine ⟨rfl, fun e => (by cases e), MpRel.plain hbnt _, fun _ => ⟨cs, el, fr, g1, fun k d hk => ?_, fun e => (by cases e)⟩⟩
              have hk0 : (flat (.arr q.len bt) (sec (GX.dflt bt) brow q.start q.len))[k]? = some d := by
                have hk' : (flat (.arr (sec (GX.dflt bt) brow q.start q.len).length bt) (sec (GX.dflt bt) brow q.start q.len))[k]? = some d := hk
                rwa [length_sec] at hk'
              have hlt := (List.getElem?_eq_some_iff.1 hk0).1
              rw [length_flat, size] at hlt
              have hposz : 0 < size bt := by
                rcases Nat.eq_zero_or_pos (size bt) with h0 | h0
                · rw [h0] at hlt; omega
                · exact h0
              have hq : k / size bt < q.len := Nat.div_lt_of_lt_mul (by rw [Nat.mul_comm]; exact hlt)
              have hrr : k % size bt < size bt := Nat.mod_lt _ hposz
              have hkk : k = k / size bt * size bt + k % size bt := by rw [Nat.mul_comm]; exact (Nat.div_add_mod k (size bt)).symm
              have hk1 := hk0
              rw [flat, hkk, get_flatMap_const _ (size bt) (fun i => length_flat bt _) _ _ _ hq hrr, getD_sec _ _ _ _ _ hq] at hk1
              obtain ⟨v', hv', hvr⟩ := g2 ((q.start + k / size bt) * size bt + k % size bt) d (by
                show (flat (.arr bn bt) brow)[_]? = some d
                rw [flat, get_flatMap_const _ (size bt) (fun i => length_flat bt _) _ _ _ (by omega) hrr]; exact hk1)
              refine ⟨v', ?_, CR_imm2 himm (t := bt) hT hk1 hvr⟩
              rw [← hv']
              congr 1
              show ph.off + q.start * size bt + k = _
              rw [Nat.add_mul]; omega
            refine ⟨.inr ⟨ad, cc, by simp only [hl]; exact hv, by simp only [hl]; exact hlc, fun k hk => (by cases hk), fun _ _ _ => ⟨_, hsome, rfl, by simp only [hi0]; simp⟩, fun _ _ => ?_⟩, .inr ⟨_, hsome, hnb, q.id, _, ph, by simp, hb, fun e => (by cases e), hph, rfl⟩⟩
            unfold addr
            simp only [hsome, hi0]
            have h00 : offs bt [] = some 0 := by cases bt <;> rfl
            simp [offs, h00, hadd]
      · cases h
    · cases h
theorem Dk.soundI {base : Nat} {φ ψ : Phi} {mem : Mem} {nxt : Nat} {w : World} (hm : MemRel base φ mem nxt w) (himm : ψ.imm = φ.imm) {val : Nat → Value} :
    ∀ {D : Dk} {x0 : D.ty.den} {y : D.den} {u : List Nat} {k0 : Nat}, D.rdI mem x0 = some (y, true, u) → D.plain = true → noDup D.nms = true →
      (∀ (j : Nat) c, (flat D.ty x0)[j]? = some c → CR φ c (val (k0 + j))) → (∀ c ∈ D.nms, ψ c = D.phI φ val x0 k0 c) →
      (∀ (j : Nat) c, (flat D.ty (D.mkI y))[j]? = some c → CR ψ c (val (k0 + j))) ∧ (∀ i b, Mem.get (D.blksR y) i = some b → BlkAt base φ ψ mem w u i b)
  | .v t, x0, y, u, k0, h, hp, hd, hc, hn => by
    simp only [Dk.rdI, Option.some.injEq, Prod.mk.injEq] at h
    obtain ⟨rfl, _, rfl⟩ := h
    exact ⟨fun j c hj => CR_imm2 himm (t := t) hp hj (hc j c hj), fun i b hi => by simp [Dk.blksR, Mem.get] at hi⟩
  | .mp _ _ _, x0, y, u, k0, h, hp, hd, hc, hn => by simp [Dk.rdI] at h
  | .own c e, x0, y, u, k0, h, hp, hd, hc, hn => by
    have h0 := hc 0 (.c0 (.slice x0)) rfl
    obtain ⟨h1, h2⟩ := ownI_sound hm himm hp h h0 (c := c) (by
      rw [hn c (by simp [Dk.nms])]
      rfl)
    refine ⟨fun j d hj => ?_, fun i b hi => ?_⟩
    · cases j with
      | zero =>
        simp only [Dk.mkI, flat, List.getElem?_cons_zero, Option.some.injEq] at hj
        subst hj
        unfold CR
        exact h1
      | succ j => simp [Dk.mkI, flat] at hj
    · simp only [Dk.blksR, Mem.get_cons] at hi
      by_cases e : i = c
      · rw [if_pos e] at hi; cases hi; subst e; exact h2
      · rw [if_neg e] at hi; cases hi
  | .pr a b, x0, y, u, k0, h, hp, hd, hc, hn => by
    simp only [Dk.rdI] at h
    split at h
    · rename_i y1 c1 u1 y2 c2 u2 ha hb
      simp only [Option.some.injEq, Prod.mk.injEq] at h
      obtain ⟨rfl, hok, rfl⟩ := h
      obtain ⟨rfl, rfl⟩ := and_split hok
      obtain ⟨hpa, hpb⟩ := and_split hp
      obtain ⟨hda, hdb, hdis⟩ := noDup_append hd
      obtain ⟨a1, a2⟩ := Dk.soundI hm himm (D := a) (k0 := k0) ha hpa hda (fun j c hj => hc j c (by
        simp only [flat]
        rw [List.getElem?_append_left (List.getElem?_eq_some_iff.1 hj).1]; exact hj)) (fun c hcm => by
        rw [hn c (by simp [Dk.nms, hcm])]
        simp only [Dk.phI, if_pos hcm])
      obtain ⟨b1, b2⟩ := Dk.soundI hm himm (D := b) (k0 := k0 + size a.ty) hb hpb hdb (fun j c hj => by
        have := hc (size a.ty + j) c (by
          simp only [flat]
          rw [List.getElem?_append_right (by rw [length_flat]; omega), length_flat]
          rw [show size a.ty + j - size a.ty = j by omega]; exact hj)
        rwa [← Nat.add_assoc] at this) (fun c hcm => by
        rw [hn c (by simp [Dk.nms, hcm])]
        simp only [Dk.phI]
        rw [if_neg (fun h => hdis c h hcm)])
      refine ⟨fun j c hj => ?_, fun i b' hi' => ?_⟩
      · simp only [Dk.mkI, flat] at hj
        rcases Nat.lt_or_ge j (size a.ty) with hlt | hge
        · rw [List.getElem?_append_left (by rw [length_flat]; exact hlt)] at hj
          exact a1 j c hj
        · rw [List.getElem?_append_right (by rw [length_flat]; exact hge), length_flat] at hj
          have := b1 (j - size a.ty) c hj
          rwa [show k0 + size a.ty + (j - size a.ty) = k0 + j by omega] at this
      · simp only [Dk.blksR, Mem.get_append] at hi'
        split at hi'
        · rename_i x hx
          cases hi'
          exact (a2 i b' hx).more (fun x hx => by simp [hx])
        · exact (b2 i b' hi').more (fun x hx => by simp [hx])
    · cases h
theorem Dk.phI_lt {φ : Phi} {val : Nat → Value} {N : Nat} (hm : ∀ i ph, φ i = some ph → ph.blk < N) : ∀ {D : Dk} {x : D.ty.den} {k i : Nat} {p : Phys}, D.phI φ val x k i = some p → p.blk < N
  | .v _, x, k, i, p, h => by cases h
  | .mp _ _ _, x, k, i, p, h => by cases h
  | .own _ e, x, k, i, p, h => by
    simp only [Dk.phI, qPhI] at h
    split at h
    · split at h
      · cases h
      · unfold qPh at h
        split at h
        · rename_i ph _ _ _ h0 _
          split at h
          · cases h; exact hm _ ph h0
          · cases h
        · cases h
    · cases h
  | .pr a b, x, k, i, p, h => by
    simp only [Dk.phI] at h
    split at h
    · exact Dk.phI_lt hm h
    · exact Dk.phI_lt hm h
def obRdI (mem : Mem) (i : Nat) (D : Dk) (b : Blk) : Option (D.den × Bool × List Nat) :=
  if h : b.t = D.ty then (match D.rdI mem (h ▸ b.row.getD 0 (GX.dflt b.t)) with
    | some (x, c, v) => some (x, Nat.beq b.n 1 && c, i :: v)
    | none => none) else none
def obPhI (φ : Phi) (st : Mem) (w : World) (i : Nat) (D : Dk) (c : Nat) : Option Phys :=
  match φ i, Mem.getC st i with
  | some ph, some b => if h : b.t = D.ty then D.phI φ (fun k => cellAt w ph.blk (ph.off + k)) (h ▸ b.row.getD 0 (GX.dflt b.t)) 0 c else none
  | _, _ => none
theorem obPhI_lt {φ : Phi} {st : Mem} {w : World} {i : Nat} {D : Dk} {c : Nat} {N : Nat} (hm : ∀ i ph, φ i = some ph → ph.blk < N) {p : Phys} (h : obPhI φ st w i D c = some p) : p.blk < N := by
  unfold obPhI at h
  split at h
  · split at h
    · exact Dk.phI_lt hm h
    · cases h
  · cases h
theorem obI_sound {base : Nat} {φ ψ : Phi} {mem : Mem} {nxt : Nat} {w : World} (hm : MemRel base φ mem nxt w) (himm : ψ.imm = φ.imm) {i : Nat} {D : Dk} {b : Blk} (hb : Mem.getC mem i = some b) {x : D.den} {u : List Nat} (h : obRdI mem i D b = some (x, true, u)) (hp : D.plain = true)
    (hd : noDup D.nms = true) {i' : Nat} (hi : ψ i' = φ i) (hn : ∀ c ∈ D.nms, ψ c = obPhI φ mem w i D c) : MemAt base φ ψ mem w u ((i', ⟨D.ty, 1, [D.mkI x], false⟩) :: D.blksR x) := by
  have hb0 := hb
  obtain ⟨hb, hbnt⟩ := Mem.getC_spec hb
  unfold obRdI at h
  split at h
  · rename_i ht
    split at h
    · rename_i x' c v hrd
      simp only [Option.some.injEq, Prod.mk.injEq] at h
      obtain ⟨rfl, hok, rfl⟩ := h
      obtain ⟨hn1, rfl⟩ := and_split hok
      obtain ⟨bt, bn, brow, bwr⟩ := b
      simp only at ht hn1 hbnt hrd hn
      have hn1 := Nat.eq_of_beq_eq_true hn1
      subst hn1
      rcases hm.blk i _ hb with ⟨_, h0⟩ | ⟨ph, hph, hbr⟩
      · simp at h0
      · obtain ⟨cs, el, fr, g1, g2, g3⟩ := hbr.cells hbnt
        subst ht
        have hval : ∀ k, cellAt w ph.blk k = (cs[k]?).getD undef := fun k => by unfold cellAt; rw [g1]
        have e1 : ∀ z : D.ty.den, flat (.arr 1 D.ty) [z] = flat D.ty z := fun z => by simp [flat, List.range_succ]
        have e2 : flat (.arr 1 D.ty) brow = flat D.ty (brow.getD 0 (GX.dflt D.ty)) := by simp [flat, List.range_succ]
        obtain ⟨s1, s2⟩ := Dk.soundI hm himm (val := fun k => cellAt w ph.blk (ph.off + k)) (k0 := 0) hrd hp hd (fun j d hj => by
          obtain ⟨v, hv, hx⟩ := g2 j d (by show (flat (.arr 1 D.ty) brow)[j]? = some d; rw [e2]; exact hj)
          show CR φ d (cellAt w ph.blk (ph.off + (0 + j)))
          rw [Nat.zero_add, hval, hv]; exact hx) (fun d hd => by
          rw [hn d hd]
          unfold obPhI
          rw [hph, hb0]
          simp)
        refine ⟨fun j b' hj => ?_, fun j k b1 b2 p1 p2 hj hk hjk hw => ?_⟩
        · simp only [Mem.get_cons] at hj
          by_cases e : j = i'
          · rw [if_pos e] at hj; cases hj; subst e
            refine .inr ⟨ph, hi.trans hph, ⟨hbr.t, fun e => (by cases e), MpRel.plain hbnt _, fun _ => ⟨cs, el, fr, g1, fun k d hk => ?_, fun e => (by cases e)⟩⟩, i, _, ph, by simp, hb, fun e => (by cases e), hph, rfl⟩
            have hk' : (flat D.ty (D.mkI x'))[k]? = some d := by rw [← e1]; exact hk
            have hx := s1 k d hk'
            have hx : CR ψ d (cellAt w ph.blk (ph.off + (0 + k))) := hx
            rw [Nat.zero_add, hval] at hx
            have hlt := (List.getElem?_eq_some_iff.1 hk').1
            obtain ⟨d0, hd0⟩ : ∃ d0, (flat D.ty (brow.getD 0 (GX.dflt D.ty)))[k]? = some d0 := by
              refine ⟨_, List.getElem?_eq_getElem (by rw [length_flat]; rw [length_flat] at hlt; exact hlt)⟩
            obtain ⟨v, hv, _⟩ := g2 k d0 (by show (flat (.arr 1 D.ty) brow)[k]? = some d0; rw [e2]; exact hd0)
            rw [hv] at hx
            exact ⟨v, hv, hx⟩
          · rw [if_neg e] at hj
            exact (s2 j b' hj).more (fun x hx => by simp [hx])
        · simp only [Mem.get_cons] at hj
          by_cases e : j = i'
          · rw [if_pos e] at hj; cases hj; cases hw
          · rw [if_neg e] at hj
            rw [blksR_ro hj] at hw; cases hw
    · cases h
  · cases h
end Go.GX
