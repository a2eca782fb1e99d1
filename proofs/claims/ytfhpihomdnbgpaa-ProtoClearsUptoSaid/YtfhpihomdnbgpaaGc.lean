import Derived.Test.YtfhpihomdnbgpaaGb
import Derived.LoopN
import Derived.Scope
import Derived.WalkKit
import Derived.ProofKit
import Derived.OpenShut
import Derived.ShutString
import Derived.ChangeOld
import Derived.SizedLaws
/-! An executor for translated code over abstract states, and its soundness. -/
namespace Go.GX
set_option linter.unusedSimpArgs false
set_option linter.unusedVariables false
set_option linter.unusedSectionVars false
open Go.RowKit (Below)
variable [DefL]
inductive X where
 | normal | exit (id : Nat) | ret | goto (l : Nat) | pan (t : Nat) (n : Int)
def chainOf (t : Nat) (n : Int) : List PanicEntry := [{ v := .iface t (.agg #[.int .i64 n]), recovered := false }]
def EX : X → Exit → Prop
 | .normal, .normal => True
 | .exit i, .exit j => j = i
 | .ret, .ret => True
 | .goto i, .goto j => j = i
 | .pan t n, .panic c => c = chainOf t n
 | _, _ => False
def PureOK (P : Program) (f : Nat) (args : List V) (v : V) : Prop :=
 ∀ φ w xs, ImmOK φ w → AR φ args xs → Calls P f xs w fun e w' => ∃ ψ m n x, e = .returned x ∧ (φ.bare w.heap.size).le ψ ∧ MemRel w.heap.size ψ m n w' ∧ VR ψ v x ∧ Below w.heap.size w w'
def PanOK (P : Program) (f : Nat) (args : List V) (t : Nat) (n : Int) : Prop :=
 ∀ φ w xs, ImmOK φ w → AR φ args xs → Calls P f xs w fun e w' => e = .panicked (chainOf t n) ∧ Below w.heap.size w w'
abbrev PSm := List V → Option (List (Bool × Nat × Int) × V × Bool)
def pickP : List (Bool × Nat × Int) → Option (Nat × Int)
 | [] => none
 | (c, t, n) :: r => match c with | true => some (t, n) | false => pickP r
def POK (P : Program) (Q : Nat → Option PSm) : Prop := ∀ f g, Q f = some g → (∀ args w, (callFunc f args).run P w = .ok (.enter f args) w) ∧
 ∀ args al v k, g args = some (al, v, k) → valV v = true ∧ match pickP al with | some (t, n) => PanOK P f args t n | none => k = true → PureOK P f args v
theorem POK.none {P : Program} : POK P (fun _ => none) := fun f g h => by cases h
structure Cx where
 sym : Bool
 Θ : Tab
 K : Kn
 lf : Nat
 L : Nat → Option (St → List (Bool × X × St))
 P : Nat → Option PSm
def pickA : List (Bool × X × St) → Option (X × St)
 | [] => none
 | (c, x, s) :: r => match c with | true => some (x, s) | false => pickA r
abbrev Out := Option (X × St × List Bool)
def loopX (f : St → List Bool → Out) : Nat → St → List Bool → Out
 | 0, _, _ => none
 | n + 1, st, gs => match f st gs with
  | some (.normal, s, g) => loopX f n s g
  | r => r
abbrev RunX := St → List Bool → Out
def jumpX (fr : Nat → Option RunX) : Nat → Out → Out
 | 0, _ => none
 | n + 1, r => match r with
  | some (.goto l, s, g) => match fr l with | some f => jumpX fr n (f s g) | none => none
  | r => r
def blkL (C : Cx) (id : Nat) : Option (St → List (Bool × X × St)) := bif Nat.blt id 1000000 then C.L id else none
def jkey : Code → Nat
 | .seq a _ => jkey a
 | .region id _ _ => 1000001 + id
 | _ => 0
def codeXX (C : Cx) : Code → RunX × (Nat → Option RunX)
 | .skip => (fun st gs => some (.normal, st, gs), fun _ => none)
 | .region _ ops draw => (fun st gs => match draw with
  | false => match regionX C.sym C.Θ C.K ops.toList ops.toList st with | some s => some (.normal, s, gs) | none => none
  | true => match drawP C.sym C.Θ C.K ops.toList (pubL C.Θ ops.toList st) with | some s => some (.normal, s, gs) | none => none, fun _ => none)
 | .seq a b => (fun st gs => match (codeXX C a).1 st gs with
  | some (.normal, s, g) => (codeXX C b).1 s g
  | r => r, fun l => match (codeXX C a).2 l with
   | some f => some fun st gs => match f st gs with
    | some (.normal, s, g) => (codeXX C b).1 s g
    | r => r
   | none => (codeXX C b).2 l)
 | .cond c a b => (fun st gs => match rd st.tm c with
  | some (⟨.bool, x⟩, cc) => match C.sym with
   | true => match gs with
    | true :: r => (codeXX C a).1 ⟨st.tm, st.n, st.mem, st.nxt, (cc && x) && st.ok⟩ r
    | false :: r => (codeXX C b).1 ⟨st.tm, st.n, st.mem, st.nxt, (cc && !x) && st.ok⟩ r
    | [] => none
   | false => match x with
    | true => (codeXX C a).1 ⟨st.tm, st.n, st.mem, st.nxt, cc && st.ok⟩ gs
    | false => (codeXX C b).1 ⟨st.tm, st.n, st.mem, st.nxt, cc && st.ok⟩ gs
  | _ => none, fun _ => none)
 | .block id b => (fun st gs => match blkL C id with
  | some f => match pickA (f st) with | some (x, s) => some (x, s, gs) | none => none
  | none => match (codeXX C b).1 st gs with
   | some (.exit j, s, g) => bif Nat.beq j id then some (.normal, s, g) else some (.exit j, s, g)
   | r => r, fun _ => none)
 | .loop b => (fun st gs => loopX (codeXX C b).1 C.lf st gs, fun _ => none)
 | .exit id => (fun st gs => some (.exit id, st, gs), fun _ => none)
 | .ret => (fun st gs => some (.ret, st, gs), fun _ => none)
 | .label j => (fun st gs => some (.normal, st, gs), fun l => bif Nat.beq j l then some fun st gs => some (.normal, st, gs) else none)
 | .goto l => (fun st gs => some (.goto l, st, gs), fun _ => none)
 | .scope b => (fun st gs => jumpX (codeXX C b).2 C.lf ((codeXX C b).1 st gs), fun _ => none)
 | _ => (fun _ _ => none, fun _ => none)
def codeX (C : Cx) (c : Code) : RunX := (codeXX C c).1
def CodeOK (P : Program) (kp : Nat) (c : Code) (st : St) (x : X) (st' : St) : Prop :=
 (st'.ok = true → st.ok = true) ∧ (st'.ok = true → ∀ base φ a w, Rel base φ st a w → c.wp P (fun e a' w' => EX x e ∧ ∃ ψ, Phi.leK kp φ ψ ∧ Rel base ψ st' a' w' ∧ Below base w w') a w)
def blocksOf : Code → List (Nat × Code)
 | .seq a b => blocksOf a ++ ((bif Nat.beq (jkey b) 0 then [] else [(jkey b, b)]) ++ blocksOf b)
 | .cond _ a b => blocksOf a ++ blocksOf b
 | .block id b => (id, b) :: blocksOf b
 | .loop b => blocksOf b
 | .scope b => blocksOf b
 | _ => []
structure CxOK (P : Program) (C : Cx) : Prop where
 Θ : TabOK P C.Θ
 K : KOK P C.K
 mix : P.follows .mixedOrders = true
 P : POK P C.P
def unitC (id : Nat) (b : Code) : Code := bif Nat.blt id 1000000 then .block id b else b
theorem jkey_ge (c : Code) : jkey c = 0 ∨ 1000000 ≤ jkey c := by
 induction c <;> first | exact .inl rfl | assumption | (refine .inr ?_; show 1000000 ≤ 1000001 + _; omega)
theorem blkL_some {C : Cx} {id : Nat} {f} (h : blkL C id = some f) : C.L id = some f ∧ ∀ b, unitC id b = .block id b := by
 unfold blkL at h
 cases hb : Nat.blt id 1000000 <;> rw [hb] at h
 ·cases h
 ·exact ⟨h, fun b => by unfold unitC; rw [hb]; rfl⟩
theorem unitC_j {b : Code} (h : Nat.beq (jkey b) 0 = false) : unitC (jkey b) b = b := by
 rcases jkey_ge b with e | e
 ·rw [e] at h; cases h
 ·unfold unitC
  rw [show Nat.blt (jkey b) 1000000 = false from by rw [Bool.eq_false_iff]; intro hh; have := Nat.le_of_ble_eq_true hh; omega]
  rfl
def LOK (P : Program) (C : Cx) (kp : Nat) (c : Code) : Prop := ∀ id b, (id, b) ∈ blocksOf c → ∀ f, C.L id = some f → ∀ st x st', pickA (f st) = some (x, st') → CodeOK P kp (unitC id b) st x st'
theorem rounds_mono {P : Program} {b : Code} {Q Q' : Exit → Act → World → Prop} (hq : ∀ e a w, Q e a w → Q' e a w) : ∀ {n : Nat} {a : Act} {w : World}, Code.rounds P b Q n a w → Code.rounds P b Q' n a w := by
 intro n
 induction n with
 | zero => intro a w h; exact h.elim
 | succ n ih =>
  intro a w h
  rw [rounds_succ] at h ⊢
  refine wp_mono h (fun e a w he => ?_)
  cases e <;> first | exact ih he | exact hq _ _ _ he
theorem CodeOK.loop {P : Program} {C : Cx} {kp : Nat} {b : Code} (hb : ∀ st gs x st' gs', codeX C b st gs = some (x, st', gs') → CodeOK P kp b st x st') :
 ∀ (n : Nat) (st : St) (gs : List Bool) (x : X) (st' : St) (gs' : List Bool), loopX (codeX C b) n st gs = some (x, st', gs') →
  (st'.ok = true → st.ok = true) ∧ (st'.ok = true → ∀ base φ a w, Rel base φ st a w → Code.rounds P b (fun e a' w' => EX x e ∧ ∃ ψ, Phi.leK kp φ ψ ∧ Rel base ψ st' a' w' ∧ Below base w w') n a w)
 | 0, st, gs, x, st', gs', h => by simp [loopX] at h
 | n + 1, st, gs, x, st', gs', h => by
  simp only [loopX] at h
  split at h
  ·rename_i s g hc
   have h1 := hb _ _ _ _ _ hc
   have h2 := CodeOK.loop hb n s g x st' gs' h
   refine ⟨fun hok => h1.1 (h2.1 hok), fun hok base φ a w hr => ?_⟩
   rw [rounds_succ]
   refine wp_mono (h1.2 (h2.1 hok) base φ a w hr) ?_
   rintro e a' w' ⟨he, ψ, hle, hr', hb'⟩
   cases e <;> simp only [EX] at he
   show Code.rounds P b _ n a' w'
   have := h2.2 hok base ψ a' w' hr'
   refine rounds_mono ?_ this
   rintro e a2 w2 ⟨he2, ψ2, hle2, hr2, hb2⟩
   exact ⟨he2, ψ2, Phi.leK_trans hle hle2, hr2, hb'.trans hb2⟩
  ·rename_i hne
   have h1 := hb _ _ _ _ _ h
   refine ⟨h1.1, fun hok base φ a w hr => ?_⟩
   rw [rounds_succ]
   refine wp_mono (h1.2 hok base φ a w hr) ?_
   rintro e a' w' ⟨he, hrest⟩
   cases e with
   | normal => cases x <;> simp only [EX] at he; exact absurd h (hne _ _)
   | exit id => exact ⟨he, hrest⟩
   | ret => exact ⟨he, hrest⟩
   | goto l => exact ⟨he, hrest⟩
   | panic c => exact ⟨he, hrest⟩
   | outgrown => cases x <;> simp [EX] at he
def JumpWp (P : Program) (c : Code) (Q : Exit → Act → World → Prop) : Nat → Code → Act → World → Prop
 | 0, _, _, _ => False
 | n + 1, x, a, w => x.wp P (fun e a' w' => match e with | .goto l => ∃ rest, findLabel c l = some rest ∧ JumpWp P c Q n rest a' w' | e => Q e a' w') a w
theorem wp_scope_n {P : Program} {c : Code} {Q : Exit → Act → World → Prop} {n : Nat} {a : Act} {w : World} (h : JumpWp P c Q n c a w) : (Code.scope c).wp P Q a w := by
 intro b k cs
 have key : ∀ n x a w, JumpWp P c Q n x a w → ∃ e a' w', Q e a' w' ∧ Arrives P (lone (b.at a (.code x :: .inScope c :: k)) cs w) b k cs e a' w' := by
  intro n
  induction n with
  | zero => intro x a w h; exact h.elim
  | succ n ih =>
   intro x a w h
   obtain ⟨e, a₁, w₁, hq, harr⟩ := h b (.inScope c :: k) cs
   cases e with
   | normal => exact ⟨.normal, a₁, w₁, hq, Steps.trans harr (.one step_inScope)⟩
   | exit id => exact ⟨.exit id, a₁, w₁, hq, fun k' hk => harr k' (by simp [exitTo, hk])⟩
   | goto l =>
    obtain ⟨rest, hf, hJ⟩ := hq
    have hg : gotoIn l (.inScope c :: k) = some (.code rest :: .inScope c :: k) := by simp [gotoIn, hf]
    obtain ⟨e₂, a₂, w₂, hq₂, harr₂⟩ := ih _ _ _ hJ
    exact ⟨e₂, a₂, w₂, hq₂, .of_steps (harr _ hg) harr₂⟩
   | ret => exact ⟨_, a₁, w₁, hq, harr⟩
   | panic ch => exact ⟨_, a₁, w₁, hq, harr⟩
   | outgrown => exact ⟨_, a₁, w₁, hq, harr⟩
 obtain ⟨e, a₁, w₁, hq, harr⟩ := key n c a w h
 exact ⟨e, a₁, w₁, hq, .of_steps (.one step_scope) harr⟩
theorem JumpWp.mono {P : Program} {c : Code} {Q Q' : Exit → Act → World → Prop} (hq : ∀ e a w, Q e a w → Q' e a w) : ∀ (n : Nat) {x : Code} {a : Act} {w : World}, JumpWp P c Q n x a w → JumpWp P c Q' n x a w
 | 0, _, _, _, h => h.elim
 | n + 1, x, a, w, h => wp_mono h fun e a' w' he => by
  cases e with
  | goto l =>
   obtain ⟨rest, h1, h2⟩ := he
   exact ⟨rest, h1, JumpWp.mono hq n h2⟩
  | normal => exact hq _ _ _ he
  | exit id => exact hq _ _ _ he
  | ret => exact hq _ _ _ he
  | panic ch => exact hq _ _ _ he
  | outgrown => exact hq _ _ _ he
theorem CodeOK.seq {P : Program} {kp : Nat} {a b : Code} {fa fb : RunX} (ha : ∀ st gs x st' gs', fa st gs = some (x, st', gs') → CodeOK P kp a st x st') (hb : ∀ st gs x st' gs', fb st gs = some (x, st', gs') → CodeOK P kp b st x st')
 {st : St} {gs : List Bool} {x : X} {st' : St} {gs' : List Bool} (h : (match fa st gs with | some (.normal, s, g) => fb s g | r => r) = some (x, st', gs')) : CodeOK P kp (.seq a b) st x st' := by
 split at h
 ·rename_i s g hs
  have h1 := ha _ _ _ _ _ hs
  have h2 := hb _ _ _ _ _ h
  refine ⟨fun hok => h1.1 (h2.1 hok), fun hok base φ a w hr => wp_seq (wp_mono (h1.2 (h2.1 hok) base φ a w hr) ?_)⟩
  rintro e a' w' ⟨he, ψ, hle, hr', hb'⟩
  cases e <;> simp only [EX] at he
  refine wp_mono (h2.2 hok base ψ a' w' hr') ?_
  rintro e a2 w2 ⟨he2, ψ2, hle2, hr2, hb2⟩
  exact ⟨he2, ψ2, Phi.leK_trans hle hle2, hr2, hb'.trans hb2⟩
 ·rename_i hne
  have h1 := ha _ _ _ _ _ h
  refine ⟨h1.1, fun hok base φ a w hr => wp_seq (wp_mono (h1.2 hok base φ a w hr) ?_)⟩
  rintro e a' w' ⟨he, hrest⟩
  cases e with
  | normal => cases x <;> simp only [EX] at he; exact absurd h (hne _ _)
  | exit id => exact ⟨he, hrest⟩
  | ret => exact ⟨he, hrest⟩
  | goto l => exact ⟨he, hrest⟩
  | panic c => exact ⟨he, hrest⟩
  | outgrown => cases x <;> simp [EX] at he
def GoodX (P : Program) (kp : Nat) (c : Code) (f : RunX × (Nat → Option RunX)) : Prop :=
 (∀ st gs x st' gs', f.1 st gs = some (x, st', gs') → CodeOK P kp c st x st') ∧
 ∀ l, match f.2 l with
  | some g => ∃ rest, findLabel c l = some rest ∧ ∀ st gs x st' gs', g st gs = some (x, st', gs') → CodeOK P kp rest st x st'
  | none => findLabel c l = none
theorem jumpX_ok {P : Program} {kp : Nat} {c : Code} {f : RunX × (Nat → Option RunX)} (hf : GoodX P kp c f) : ∀ (n : Nat) {y : Code} {st : St} {r : Out} (_ : ∀ x s g, r = some (x, s, g) → CodeOK P kp y st x s) {x : X} {st' : St} {gs' : List Bool}, jumpX f.2 n r = some (x, st', gs') →
 (st'.ok = true → st.ok = true) ∧ (st'.ok = true → ∀ base φ a w, Rel base φ st a w → JumpWp P c (fun e a' w' => EX x e ∧ ∃ ψ, Phi.leK kp φ ψ ∧ Rel base ψ st' a' w' ∧ Below base w w') n y a w)
 | 0, _, _, _, _, _, _, _, h => by cases h
 | n + 1, y, st, r, hy, x, st', gs', h => by
  simp only [jumpX] at h
  split at h
  ·rename_i l s g
   have hg := hf.2 l
   split at h
   ·rename_i f' hf'
    rw [hf'] at hg
    obtain ⟨rest, hr1, hr2⟩ := hg
    have h1 := hy _ _ _ rfl
    have h2 := jumpX_ok hf n (fun x s' g' hx => hr2 _ _ _ _ _ hx) h
    refine ⟨fun hok => h1.1 (h2.1 hok), fun hok base φ a w hr => wp_mono (h1.2 (h2.1 hok) base φ a w hr) ?_⟩
    rintro e a' w' ⟨he, ψ, hle, hr', hb'⟩
    cases e <;> simp only [EX] at he
    subst he
    refine ⟨rest, hr1, ?_⟩
    have := h2.2 hok base ψ a' w' hr'
    exact JumpWp.mono (fun e a2 w2 ⟨he2, ψ2, hle2, hr2', hb2⟩ => ⟨he2, ψ2, Phi.leK_trans hle hle2, hr2', hb'.trans hb2⟩) n this
   ·cases h
  ·rename_i hne
   have h1 := hy _ _ _ h
   refine ⟨h1.1, fun hok base φ a w hr => wp_mono (h1.2 hok base φ a w hr) ?_⟩
   rintro e a' w' ⟨he, hrest⟩
   cases e with
   | goto l => cases x <;> simp only [EX] at he; exact absurd h (hne _ _ _)
   | normal => exact ⟨he, hrest⟩
   | exit id => exact ⟨he, hrest⟩
   | ret => exact ⟨he, hrest⟩
   | panic ch => exact ⟨he, hrest⟩
   | outgrown => exact ⟨he, hrest⟩
theorem codeXX_ok {P : Program} {C : Cx} (hC : CxOK P C) {kp : Nat} : ∀ {c : Code}, LOK P C kp c → GoodX P kp c (codeXX C c) := by
 intro c
 induction c with
 | skip =>
  intro _
  refine ⟨fun st gs x st' gs' h => ?_, fun l => rfl⟩
  simp only [codeXX, Option.some.injEq, Prod.mk.injEq] at h
  obtain ⟨rfl, rfl, rfl⟩ := h
  exact ⟨id, fun _ base φ a w hr => wp_skip ⟨trivial, φ, Phi.leK_refl _, hr, Below.refl _ _⟩⟩
 | region id ops draw =>
  intro _
  refine ⟨fun st gs x st' gs' h => ?_, fun l => rfl⟩
  simp only [codeXX] at h
  split at h
  ·split at h
   ·rename_i s hs
    simp only [Option.some.injEq, Prod.mk.injEq] at h
    obtain ⟨rfl, rfl, rfl⟩ := h
    refine ⟨regionX_mono hs, fun hok base φ a w hr => wp_region_list ?_⟩
    exact regionX_ok hC.Θ hC.K (φ0 := φ) (w0 := w) (fun ψ a' w' h1 h2 h3 => ⟨trivial, ψ, h1.toK, h2, h3⟩) (Phi.le_refl _) hr (Below.refl _ _) hs hok
   ·cases h
  ·split at h
   ·rename_i s hs
    simp only [Option.some.injEq, Prod.mk.injEq] at h
    obtain ⟨rfl, rfl, rfl⟩ := h
    refine ⟨fun hok => pubL_mono (drawP_mono hs hok), fun hok base φ a w hr => ?_⟩
    obtain ⟨χ, hle, hr2⟩ := pubL_ok hr (drawP_mono hs hok)
    exact drawP_ok hC.Θ hC.K hC.mix hs hok hr2 (fun ψ a' w' h0 h1 h2 => ⟨trivial, ψ, (Phi.le_trans hle h0).toK, h1, h2⟩)
   ·cases h
 | seq a b iha ihb =>
  intro hL
  have hLa : LOK P C kp a := fun id b hb => hL id b (by simp [blocksOf, hb])
  have hLb : LOK P C kp b := fun id b hb => hL id b (by simp [blocksOf, hb])
  have ga := iha hLa
  have gb := ihb hLb
  refine ⟨fun st gs x st' gs' h => CodeOK.seq ga.1 gb.1 h, fun l => ?_⟩
  have h1 := ga.2 l
  have h2 := gb.2 l
  simp only [codeXX, findLabel]
  cases e : (codeXX C a).2 l with
  | some f =>
   rw [e] at h1
   obtain ⟨rest, hr1, hr2⟩ := h1
   rw [hr1]
   exact ⟨_, rfl, fun st gs x st' gs' h => CodeOK.seq hr2 gb.1 h⟩
  | none =>
   rw [e] at h1
   rw [h1]
   exact h2
 | cond c a b iha ihb =>
  intro hL
  refine ⟨fun st gs x st' gs' h => ?_, fun l => rfl⟩
  simp only [codeXX] at h
  have hLa : LOK P C kp a := fun id b hb => hL id b (by simp [blocksOf, hb])
  have hLb : LOK P C kp b := fun id b hb => hL id b (by simp [blocksOf, hb])
  split at h
  ·rename_i y cc hc
   have key : ∀ (t : Bool) (okx : Bool), (okx = true → cc = true ∧ y = t) → (CodeOK P kp (if t then a else b) ⟨st.tm, st.n, st.mem, st.nxt, okx && st.ok⟩ x st') → CodeOK P kp (.cond c a b) st x st' := by
    intro t okx hx hk
    refine ⟨fun hok => (and_split (hk.1 hok)).2, fun hok base φ a' w hr => ?_⟩
    obtain ⟨h2, h1⟩ := and_split (hk.1 hok)
    obtain ⟨rfl, rfl⟩ := hx h2
    exact wp_cond (VR_bool.1 (rd_ok hr.tm hc)) (hk.2 hok base φ a' w ⟨hr.tm, hr.n, hr.mem, hr.defers⟩)
   split at h
   ·split at h
    ·exact key true _ (fun hx => by simpa using hx) ((iha hLa).1 _ _ _ _ _ h)
    ·exact key false _ (fun hx => by simpa using hx) ((ihb hLb).1 _ _ _ _ _ h)
    ·cases h
   ·split at h
    ·exact key true _ (fun hx => ⟨hx, rfl⟩) ((iha hLa).1 _ _ _ _ _ h)
    ·exact key false _ (fun hx => ⟨hx, rfl⟩) ((ihb hLb).1 _ _ _ _ _ h)
  ·cases h
 | block id b ih =>
  intro hL
  refine ⟨fun st gs x st' gs' h => ?_, fun l => rfl⟩
  simp only [codeXX] at h
  split at h
  ·rename_i f hf
   split at h
   ·rename_i x' s hs
    simp only [Option.some.injEq, Prod.mk.injEq] at h
    obtain ⟨rfl, rfl, rfl⟩ := h
    obtain ⟨hf, hu⟩ := blkL_some hf
    have := hL id b (by simp [blocksOf]) f hf _ _ _ hs
    rw [hu] at this
    exact this
   ·cases h
  ·have hLb : LOK P C kp b := fun id' b' hb => hL id' b' (by simp [blocksOf, hb])
   split at h
   ·rename_i j s g hs
    have h1 := (ih hLb).1 _ _ _ _ _ hs
    cases hj : Nat.beq j id <;> rw [hj] at h
    ·simp only [cond_false, Option.some.injEq, Prod.mk.injEq] at h
     obtain ⟨rfl, rfl, rfl⟩ := h
     refine ⟨h1.1, fun hok base φ a w hr => wp_block (wp_mono (h1.2 hok base φ a w hr) ?_)⟩
     rintro e a' w' ⟨he, hrest⟩
     cases e <;> simp only [EX] at he
     subst he
     simp only [Exit.inBlock]
     rw [if_neg (by intro e; subst e; simp at hj)]
     exact ⟨rfl, hrest⟩
    ·simp only [cond_true, Option.some.injEq, Prod.mk.injEq] at h
     obtain ⟨rfl, rfl, rfl⟩ := h
     have hj := Nat.eq_of_beq_eq_true hj
     subst hj
     refine ⟨h1.1, fun hok base φ a w hr => wp_block (wp_mono (h1.2 hok base φ a w hr) ?_)⟩
     rintro e a' w' ⟨he, hrest⟩
     cases e <;> simp only [EX] at he
     subst he
     simp only [Exit.inBlock, if_true]
     exact ⟨trivial, hrest⟩
   ·rename_i hne
    have h1 := (ih hLb).1 _ _ _ _ _ h
    refine ⟨h1.1, fun hok base φ a w hr => wp_block (wp_mono (h1.2 hok base φ a w hr) ?_)⟩
    rintro e a' w' ⟨he, hrest⟩
    cases e with
    | normal => exact ⟨he, hrest⟩
    | exit j => cases x <;> simp only [EX] at he; exact absurd h (hne _ _ _)
    | ret => exact ⟨he, hrest⟩
    | goto l => exact ⟨he, hrest⟩
    | panic c => exact ⟨he, hrest⟩
    | outgrown => cases x <;> simp [EX] at he
 | loop b ih =>
  intro hL
  refine ⟨fun st gs x st' gs' h => ?_, fun l => rfl⟩
  simp only [codeXX] at h
  have hLb : LOK P C kp b := fun id' b' hb => hL id' b' (by simpa [blocksOf] using hb)
  have := CodeOK.loop (P := P) (C := C) (kp := kp) (b := b) (fun st gs x st' gs' h => (ih hLb).1 _ _ _ _ _ h) C.lf st gs x st' gs' h
  exact ⟨this.1, fun hok base φ a w hr => wp_loop_rounds C.lf (this.2 hok base φ a w hr)⟩
 | exit id =>
  intro _
  refine ⟨fun st gs x st' gs' h => ?_, fun l => rfl⟩
  simp only [codeXX, Option.some.injEq, Prod.mk.injEq] at h
  obtain ⟨rfl, rfl, rfl⟩ := h
  exact ⟨fun h => h, fun _ base φ a w hr => wp_exit ⟨rfl, φ, Phi.leK_refl _, hr, Below.refl _ _⟩⟩
 | ret =>
  intro _
  refine ⟨fun st gs x st' gs' h => ?_, fun l => rfl⟩
  simp only [codeXX, Option.some.injEq, Prod.mk.injEq] at h
  obtain ⟨rfl, rfl, rfl⟩ := h
  exact ⟨fun h => h, fun _ base φ a w hr => wp_ret ⟨trivial, φ, Phi.leK_refl _, hr, Below.refl _ _⟩⟩
 | scope b ih =>
  intro hL
  refine ⟨fun st gs x st' gs' h => ?_, fun l => rfl⟩
  simp only [codeXX] at h
  have hLb : LOK P C kp b := fun id' b' hb => hL id' b' (by simpa [blocksOf] using hb)
  have hg := ih hLb
  have h1 := jumpX_ok hg C.lf (y := b) (st := st) (fun x s g hx => hg.1 _ _ _ _ _ hx) h
  exact ⟨h1.1, fun hok base φ a w hr => wp_scope_n (h1.2 hok base φ a w hr)⟩
 | label j =>
  intro _
  refine ⟨fun st gs x st' gs' h => ?_, fun l => ?_⟩
  ·simp only [codeXX, Option.some.injEq, Prod.mk.injEq] at h
   obtain ⟨rfl, rfl, rfl⟩ := h
   exact ⟨id, fun _ base φ a w hr => wp_label ⟨trivial, φ, Phi.leK_refl _, hr, Below.refl _ _⟩⟩
  ·simp only [codeXX, findLabel]
   cases e : Nat.beq j l
   ·have : ¬ j = l := fun h => by subst h; simp at e
    simp [this]
   ·have := Nat.eq_of_beq_eq_true e
    subst this
    simp only [cond_true, beq_self_eq_true, if_true]
    refine ⟨_, rfl, fun st gs x st' gs' h => ?_⟩
    simp only [Option.some.injEq, Prod.mk.injEq] at h
    obtain ⟨rfl, rfl, rfl⟩ := h
    exact ⟨id, fun _ base φ a w hr => wp_skip ⟨trivial, φ, Phi.leK_refl _, hr, Below.refl _ _⟩⟩
 | goto l =>
  intro _
  refine ⟨fun st gs x st' gs' h => ?_, fun l => rfl⟩
  simp only [codeXX, Option.some.injEq, Prod.mk.injEq] at h
  obtain ⟨rfl, rfl, rfl⟩ := h
  exact ⟨fun h => h, fun _ base φ a w hr => wp_goto ⟨rfl, φ, Phi.leK_refl _, hr, Below.refl _ _⟩⟩
 | _ => intro _; exact ⟨fun st gs x st' gs' h => by simp [codeXX] at h, fun l => rfl⟩
theorem codeX_ok {P : Program} {C : Cx} (hC : CxOK P C) {kp : Nat} {c : Code} (hL : LOK P C kp c) {st : St} {gs : List Bool} {x : X} {st' : St} {gs' : List Bool} (h : codeX C c st gs = some (x, st', gs')) : CodeOK P kp c st x st' :=
 (codeXX_ok hC hL).1 _ _ _ _ _ h
end Go.GX

namespace Go.GX
set_option linter.unusedSimpArgs false
set_option linter.unusedVariables false
set_option linter.unusedSectionVars false
open Go.RowKit (Below)
section
variable [DefL]
def putArgs : List V → Nat → TM → TM
 | [], _, tm => tm
 | v :: r, i, tm => putArgs r (i + 1) (tm.set i (v, true))
def resX (Θ : Tab) (st : St) : List ResultVar → Option (List V × Bool)
 | [] => some ([], true)
 | .tmp t :: r => match st.tm.get t, resX Θ st r with
  | some (v, c), some (l, d) => bif isTup v.t then none else some (v :: l, c && d)
  | _, _ => none
 | .cell a t :: r => match Θ t, st.tm.get a, resX Θ st r with
  | some ti, some (⟨.ptr, some p⟩, c), some (l, d) => match loadX st.mem ti.ty p with
   | some (v, e) => some (v :: l, c && (d && e))
   | none => none
  | _, _, _ => none
def mkTup : List V → V
 | [] => ⟨.tnil, ()⟩
 | v :: r => ⟨.tup v.t (mkTup r).t, (v.x, (mkTup r).x)⟩
def oneOf : List V → V
 | [v] => v
 | l => mkTup l
def wantsR (Θ : Tab) (fn : Func) : List (Operand × Option Ty) := (fn.results.toList.zip fn.resultTypes.toList).map fun p => (match p.1 with | .tmp t => .tmp t | .cell a _ => .tmp a, match p.1 with | .tmp _ => (Θ p.2).map (·.ty) | .cell _ _ => none)
def coeR (Θ : Tab) : List V → List TypeId → List V
 | v :: l, t :: ts => (match Θ t with | some ti => coeV ti.ty v | none => v) :: coeR Θ l ts
 | l, _ => l
def resY (Θ : Tab) (fn : Func) (st : St) : Option (V × St × Bool) :=
 match resX Θ (pubs (wantsR Θ fn) st) fn.results.toList with
 | some (l, c) => some (oneOf (coeR Θ l fn.resultTypes.toList), pubs (wantsR Θ fn) st, c && (pubs (wantsR Θ fn) st).ok)
 | none => none
def fnRun (C : Cx) (fn : Func) (gs : List Bool) (args : List V) (mem : Mem) (nxt : Nat) : Option (V × St × Bool) :=
 match fn.body with
 | none => none
 | some c => bif Nat.ble args.length fn.ntmps then
  (match codeX C c ⟨putArgs args 0 .lf, fn.ntmps, mem, nxt, true⟩ gs with
  | some (.exit _, _, _) => none
  | some (.goto _, _, _) => none
  | some (.pan _ _, _, _) => none
  | some (_, st, _) => resY C.Θ fn st
  | none => none) else none
def fnX (C : Cx) (pr : Nat) (fn : Func) (gs : List Bool) : Sm := fun args mem nxt =>
 match pr with
 | 0 => match fnRun C fn gs args mem nxt with
  | some (v, st, ok) => some (v, st.mem, st.nxt, ok)
  | none => none
 | 1 => match fnRun C fn gs args (protect mem) nxt with
  | some (v, _, ok) => bif valV v then some (v, mem, nxt, ok) else none
  | none => none
 | _ => bif args.all valV then
     (match fnRun C fn gs args [] 0 with
     | some (v, _, ok) => bif valV v then some (v, mem, nxt, ok) else none
     | none => none) else none
theorem putArgs_get : ∀ {l : List V} {i : Nat} {tm : TM} {s : Nat} {v : V} {c : Bool}, (putArgs l i tm).get s = some (v, c) → (c = true ∧ i ≤ s ∧ l[s - i]? = some v) ∨ (tm.get s = some (v, c))
 | [], _, _, _, _, _, h => .inr h
 | u :: r, i, tm, s, v, c, h => by
  rcases putArgs_get (l := r) (i := i + 1) h with ⟨h1, h2, h3⟩ | h
  ·refine .inl ⟨h1, by omega, ?_⟩
   rw [show s - i = (s - (i + 1)) + 1 from by omega]
   simpa using h3
  ·rcases Tr.get_set h with ⟨rfl, he⟩ | ⟨_, h⟩
   ·cases he; exact .inl ⟨rfl, Nat.le_refl _, by simp⟩
   ·exact .inr h
theorem resX_ok {P : Program} {Θ : Tab} (hΘ : TabOK P Θ) {base : Nat} {φ : Phi} {st : St} {a : Act} {w : World} (hr : Rel base φ st a w) : ∀ {rs : List ResultVar} {l : List V} {c : Bool}, resX Θ st rs = some (l, c) → c = true →
 ∃ xs : List Value, ((rs.mapM fun | .tmp t => pure (a.tmps.getD t undef) | .cell x t => do loadVar t (← asAddr (a.tmps.getD x undef))) : Sem (List Value)).run P w = .ok xs w ∧ xs.length = l.length ∧
  ∀ (i : Nat) v, l[i]? = some v → ∃ x, xs[i]? = some x ∧ V1 φ v.t v.x x ∧ isTup v.t = false
 | [], l, c, h, _ => by
  simp [resX] at h; obtain ⟨rfl, _⟩ := h
  exact ⟨[], by simp [Sem.run_pure], rfl, fun i v hi => by simp at hi⟩
 | .tmp t :: r, l, c, h, hc => by
  simp only [resX] at h
  split at h
  ·rename_i v c1 l1 d h1 h2
   cases ht : isTup v.t <;> rw [ht] at h
   ·simp only [cond_false, Option.some.injEq, Prod.mk.injEq] at h
    obtain ⟨rfl, rfl⟩ := h
    obtain ⟨hc1, hd⟩ := and_split hc
    subst hc1; subst hd
    obtain ⟨xs, hx, hl, hg⟩ := resX_ok hΘ hr h2 rfl
    refine ⟨a.tmps.getD t undef :: xs, ?_, by simp [hl], fun i u hi => ?_⟩
    ·simp only [List.mapM_cons, Sem.run_bind, Sem.run_pure, Result.andThen]
     rw [hx]
    ·cases i with
     | zero => simp at hi; subst hi; exact ⟨_, rfl, V1_of_VR ht ((hr.tm _ _ _ h1).1 rfl), ht⟩
     | succ i => simpa using hg i u (by simpa using hi)
   ·cases h
  ·cases h
 | .cell y t :: r, l, c, h, hc => by
  simp only [resX] at h
  split at h
  ·rename_i ti p c1 l1 d hti h1 h2
   split at h
   ·rename_i v e hld
    simp only [Option.some.injEq, Prod.mk.injEq] at h
    obtain ⟨rfl, rfl⟩ := h
    obtain ⟨hc1, hd⟩ := and_split hc
    obtain ⟨hd, he⟩ := and_split hd
    subst hc1; subst hd; subst he
    obtain ⟨xs, hx, hl, hg⟩ := resX_ok hΘ hr h2 rfl
    obtain ⟨ad, had, hav⟩ := VR_ptr.1 ((hr.tm _ _ _ h1).1 rfl)
    have hT := hΘ.get hti
    obtain ⟨z, hz, hzr⟩ := loadX_ok hT hr.mem hld had
    have hvt : v.t = ti.ty := by
     unfold loadX at hld
     split at hld
     ·split at hld
      ·split at hld
       ·rename_i h3
        simp only [Option.some.injEq, Prod.mk.injEq] at hld
        rw [← hld.1]; exact h3
       ·cases hld
      ·cases hld
     ·cases hld
    have hnt : isTup v.t = false := by rw [hvt]; exact hT.tup
    refine ⟨z :: xs, ?_, by simp [hl], fun i u hi => ?_⟩
    ·have hasa : (asAddr (a.tmps.getD y undef)).run P w = .ok ad w := by rw [hav]; rfl
     simp only [List.mapM_cons, Sem.run_bind, Sem.run_pure, Result.andThen, hasa, hz]
     rw [hx]
    ·cases i with
     | zero => simp at hi; subst hi; exact ⟨_, rfl, V1_of_VR hnt hzr, hnt⟩
     | succ i => simpa using hg i u (by simpa using hi)
   ·cases h
  ·cases h
theorem mkTup_ok {φ : Phi} : ∀ {l : List V} {xs : List Value}, xs.length = l.length → (∀ (i : Nat) v, l[i]? = some v → ∃ x, xs[i]? = some x ∧ V1 φ v.t v.x x ∧ isTup v.t = false) → TR φ (mkTup l).t (mkTup l).x xs ∧ isTup (mkTup l).t = true
 | [], xs, hl, _ => by
  have : xs = [] := List.length_eq_zero_iff.1 (by simpa using hl)
  subst this
  exact ⟨rfl, rfl⟩
 | v :: r, x :: xs, hl, h => by
  obtain ⟨x', hx', hv, _⟩ := h 0 v rfl
  simp at hx'; subst hx'
  have := mkTup_ok (l := r) (xs := xs) (by simpa using hl) (fun i u hi => by simpa using h (i + 1) u (by simpa using hi))
  exact ⟨⟨x, xs, rfl, hv, this.1⟩, rfl⟩
theorem coeR_ok {φ : Phi} {Θ : Tab} : ∀ {l : List V} {ts : List TypeId} {xs : List Value}, xs.length = l.length → (∀ (i : Nat) v, l[i]? = some v → ∃ x, xs[i]? = some x ∧ V1 φ v.t v.x x ∧ isTup v.t = false) →
 xs.length = (coeR Θ l ts).length ∧ ∀ (i : Nat) v, (coeR Θ l ts)[i]? = some v → ∃ x, xs[i]? = some x ∧ V1 φ v.t v.x x ∧ isTup v.t = false
 | [], ts, xs, hl, h => by
  have e : coeR Θ [] ts = [] := by cases ts <;> rfl
  rw [e]; exact ⟨hl, h⟩
 | v :: l, [], xs, hl, h => ⟨hl, h⟩
 | v :: l, t :: ts, [], hl, h => by simp at hl
 | v :: l, t :: ts, x :: xs, hl, h => by
  obtain ⟨h1, h2⟩ := coeR_ok (Θ := Θ) (l := l) (ts := ts) (xs := xs) (by simpa using hl) (fun i u hi => by simpa using h (i + 1) u (by simpa using hi))
  refine ⟨by simp [coeR, h1], fun i u hi => ?_⟩
  cases i with
  | zero =>
   simp only [coeR, List.getElem?_cons_zero, Option.some.injEq] at hi
   subst hi
   obtain ⟨x', hx', hv, ht⟩ := h 0 v rfl
   simp at hx'; subst hx'
   refine ⟨x, rfl, ?_⟩
   split
   ·rename_i ti _
    have hc := coeV_ok (t := ti.ty) (VR_of_V1 ht hv)
    have htt : isTup (coeV ti.ty v).t = false := by
     unfold coeV
     split
     ·split
      ·rfl
      ·exact ht
     ·exact ht
    exact ⟨V1_of_VR htt hc, htt⟩
   ·exact ⟨hv, ht⟩
  | succ i => simpa using h2 i u (by simpa [coeR] using hi)
theorem resY_ok {P : Program} {Θ : Tab} (hΘ : TabOK P Θ) {base : Nat} {φ : Phi} {st s : St} {a : Act} {w : World} {fn : Func} {v : V} (hr : Rel base φ st a w) (h : resY Θ fn st = some (v, s, true)) :
 ∃ ψ, φ.le ψ ∧ Rel base ψ s a w ∧ st.ok = true ∧ ∃ z, (results fn a.tmps).run P w = .ok z w ∧ VR ψ v z := by
 unfold resY at h
 split at h
 ·rename_i l cc hres
  simp only [Option.some.injEq, Prod.mk.injEq] at h
  obtain ⟨rfl, rfl, hok⟩ := h
  obtain ⟨hcc, hok1⟩ := and_split hok
  subst hcc
  obtain ⟨ψ, hle, hr2⟩ := pubs_ok hr hok1
  obtain ⟨ys, hy, hlen0, hget0⟩ := resX_ok hΘ hr2 hres rfl
  obtain ⟨hlen, hget⟩ := coeR_ok (Θ := Θ) (ts := fn.resultTypes.toList) hlen0 hget0
  have hrun : (results fn a.tmps).run P w = .ok (if h : ys.toArray.size = 1 then ys.toArray[0] else .tuple ys.toArray) w := by
   simp only [results, Sem.run_bind]
   rw [Array.mapM_eq_mapM_toList]
   simp only [Sem.run_map]
   exact congrArg (fun r : Result (List Value) => (r.andThen fun a w' => Result.ok a.toArray w').andThen fun a w' => Sem.run P (pure (if h : a.size = 1 then a[0] else .tuple a)) w') hy
  refine ⟨ψ, hle, hr2, pubs_mono hok1, _, hrun, ?_⟩
  revert hlen hget
  generalize coeR Θ l fn.resultTypes.toList = l'
  intro hlen hget
  match l', ys, hlen, hget with
  | [], [], _, _ => exact (by unfold VR; rw [if_pos (show isTup (mkTup []).t = true from rfl)]; exact ⟨#[], rfl, rfl⟩ : VR ψ (mkTup []) (.tuple #[]))
  | [u], [y], _, hget =>
   obtain ⟨y', hy', hv', ht⟩ := hget 0 u rfl
   simp at hy'; subst hy'
   exact VR_of_V1 ht hv'
  | u1 :: u2 :: r, y1 :: y2 :: ys, hlen, hget =>
   obtain ⟨h1, h2⟩ := mkTup_ok (φ := ψ) hlen hget
   show VR ψ (mkTup (u1 :: u2 :: r)) _
   rw [dif_neg (by simp)]
   unfold VR
   rw [if_pos h2]
   exact ⟨_, rfl, by simpa using h1⟩
 ·cases h
end
theorem fnRun_ok {P : Program} {C : Cx} (hC : CxOK P C) {fn : Func} {f : Nat} (hf : P.funcs[f]? = some fn) {nxt : Nat} (hL : ∀ c, fn.body = some c → LOK P C nxt c) {gs : List Bool} {args : List V} {mem : Mem} {v : V} {st : St}
 (h : fnRun C fn gs args mem nxt = some (v, st, true)) {base : Nat} {φ : Phi} {w : World} {xs : Array Value} (hm : MemRel base φ mem nxt w) (hA : AR φ args xs) :
 Calls P f xs w fun e w' => ∃ ψ x, e = .returned x ∧ φ.le ψ ∧ MemRel base ψ st.mem st.nxt w' ∧ Below base w w' ∧ VR ψ v x := by
 unfold fnRun at h
 split at h
 ·cases h
 ·rename_i c hc
  cases hb : Nat.ble args.length fn.ntmps <;> rw [hb] at h
  ·cases h
  ·simp only [cond_true] at h
   have hle := Nat.le_of_ble_eq_true hb
   have key : ∀ x st1 g, codeX C c ⟨putArgs args 0 .lf, fn.ntmps, mem, nxt, true⟩ gs = some (x, st1, g) → (∀ i, x ≠ .exit i ∧ x ≠ .goto i ∧ ∀ n, x ≠ .pan i n) → resY C.Θ fn st1 = some (v, st, true) →
    Calls P f xs w fun e w' => ∃ ψ x, e = .returned x ∧ φ.le ψ ∧ MemRel base ψ st.mem st.nxt w' ∧ Below base w w' ∧ VR ψ v x := by
    intro x st1 g hcode hx hres
    have hok1 : st1.ok = true := by
     unfold resY at hres
     split at hres
     ·simp only [Option.some.injEq, Prod.mk.injEq] at hres
      exact pubs_mono (and_split hres.2.2).2
     ·cases hres
    have hwp := (codeX_ok hC (hL c hc) hcode).2 hok1 base φ { tmps := xs ++ Array.replicate (fn.ntmps - xs.size) undef, defers := [] } w
     ⟨fun s u c' hs => ?_, by simp [hA.1]; omega, hm, rfl⟩
    ·refine calls_of_wp hf hc (wp_mono hwp ?_)
     rintro e a' w' ⟨he, ψ, hψ, hr', hb'⟩
     have hψ := hψ.toLe (fun i p hp => (hm.fresh i p hp).1)
     have post : a'.defers = [] ∧ ∃ z, (results fn a'.tmps).run P w' = .ok z w' ∧ (∃ ψ x, Ending.returned z = .returned x ∧ φ.le ψ ∧ MemRel base ψ st.mem st.nxt w' ∧ Below base w w' ∧ VR ψ v x) := by
      obtain ⟨χ, hχ, hr2, _, z, hrun, hz⟩ := resY_ok hC.Θ hr' hres
      exact ⟨hr'.defers, z, hrun, χ, z, rfl, Phi.le_trans hψ hχ, hr2.mem, hb', hz⟩
     cases e with
     | normal => exact post
     | ret => exact post
     | exit j => cases x <;> simp only [EX] at he; exact absurd rfl (hx _).1
     | goto l => cases x <;> simp only [EX] at he; exact absurd rfl (hx _).2.1
     | panic c => cases x <;> simp only [EX] at he; exact absurd rfl ((hx _).2.2 _)
     | outgrown => cases x <;> simp [EX] at he
    ·rcases putArgs_get hs with ⟨hc', _, hg⟩ | hg
     ·subst hc'
      simp only [Nat.sub_zero] at hg
      obtain ⟨x, hx, hr⟩ := hA.2 s u hg
      refine ⟨fun _ => ?_, fun e => by cases e⟩
      have hsz : s < xs.size := (Array.getElem?_eq_some_iff.1 hx).1
      rw [Array.getD_eq_getD_getElem?, Array.getElem?_append_left hsz, hx]
      exact hr
     ·simp [Tr.get] at hg
   split at h
   ·cases h
   ·cases h
   ·cases h
   ·rename_i x st1 g hne1 hne2 hne3 hcode
    exact key x st1 g hcode (fun i => ⟨fun e => hne1 i e, fun e => hne2 i e, fun n e => hne3 i n e⟩) h
   ·cases h
theorem fnX_ok {P : Program} {C : Cx} (hC : CxOK P C) {fn : Func} {f : Nat} (hf : P.funcs[f]? = some fn) (hL : ∀ kp c, fn.body = some c → LOK P C kp c) {pr : Nat} {gs : List Bool} {args : List V} {mem mem' : Mem} {nxt nxt' : Nat} {v : V}
 (h : fnX C pr fn gs args mem nxt = some (v, mem', nxt', true)) {base : Nat} {φ : Phi} {w : World} {xs : Array Value} (hm : MemRel base φ mem nxt w) (hA : AR φ args xs) :
 Calls P f xs w fun e w' => ∃ ψ x, e = .returned x ∧ φ.le ψ ∧ MemRel base ψ mem' nxt' w' ∧ Below base w w' ∧ VR ψ v x := by
 unfold fnX at h
 split at h
 ·split at h
  ·rename_i v' st ok hr
   simp only [Option.some.injEq, Prod.mk.injEq] at h
   obtain ⟨rfl, rfl, rfl, rfl⟩ := h
   exact fnRun_ok hC hf (hL _) hr hm hA
  ·cases h
 ·split at h
  ·rename_i v' st ok hr
   cases hp : valV v' <;> rw [hp] at h
   ·cases h
   ·simp only [cond_true, Option.some.injEq, Prod.mk.injEq] at h
    obtain ⟨rfl, rfl, rfl, rfl⟩ := h
    refine (fnRun_ok hC hf (hL _) hr hm.protect (hA.mono (φ.sub_rise _))).mono ?_
    rintro e w' ⟨ψ, x, rfl, h1, h2, h3, h4⟩
    obtain ⟨g1, g2⟩ := hm.back (φ0 := φ.rise w.heap.size) rfl rfl h1 h2 h3
    exact ⟨_, x, rfl, g1, g2, h3.mono hm.base, valV_ok (φ := ψ) (ψ := φ.with ψ.imm) (fun _ _ h => h) hp h4⟩
  ·cases h
 ·cases hpa : args.all valV <;> rw [hpa] at h
  ·cases h
  ·simp only [cond_true] at h
   split at h
   ·rename_i v' st ok hr
    cases hp : valV v' <;> rw [hp] at h
    ·cases h
    ·simp only [cond_true, Option.some.injEq, Prod.mk.injEq] at h
     obtain ⟨rfl, rfl, rfl, rfl⟩ := h
     refine (fnRun_ok hC hf (hL _) hr (MemRel.nil w hm.imm) ⟨hA.1, fun i v hi => ?_⟩).mono ?_
     ·obtain ⟨x, hx, hxr⟩ := hA.2 i v hi
      exact ⟨x, hx, valV_ok (φ := φ) (ψ := φ.bare w.heap.size) (fun _ _ h => h) (List.all_eq_true.1 hpa v (List.mem_of_getElem? hi)) hxr⟩
     ·rintro e w' ⟨ψ, x, rfl, h1, h2, h3, h4⟩
      obtain ⟨g1, g2⟩ := hm.back (φ0 := φ.bare w.heap.size) rfl rfl h1 h2 h3
      exact ⟨_, x, rfl, g1, g2, h3.mono hm.base, valV_ok (φ := ψ) (ψ := φ.with ψ.imm) (fun _ _ h => h) hp h4⟩
   ·cases h
structure FI where
 fn : Func
 pr : Nat
def FOK (P : Program) (F : Nat → Option FI) : Prop := ∀ f i, F f = some i → P.funcs[f]? = some i.fn ∧ ∀ args w, (callFunc f args).run P w = .ok (.enter f args) w
def KX (Θ : Tab) (F : Nat → Option FI) (D : Kn) (lf : Nat) : Nat → Kn
 | 0 => D
 | n + 1 => fun f => match D f with
  | some g => some g
  | none => match F f with
   | some i => some (fnX ⟨false, Θ, KX Θ F D lf n, lf, fun _ => none, fun _ => none⟩ i.pr i.fn [])
   | none => none
theorem KX_ok {P : Program} {Θ : Tab} {F : Nat → Option FI} {D : Kn} {lf : Nat} (hΘ : TabOK P Θ) (hF : FOK P F) (hD : KOK P D) (hmix : P.follows .mixedOrders = true) : ∀ n, KOK P (KX Θ F D lf n)
 | 0 => hD
 | n + 1 => by
  intro f g hg
  simp only [KX] at hg
  split at hg
  ·rename_i g' hd
   cases hg
   exact hD f g hd
  ·split at hg
   ·rename_i i hi
    cases hg
    obtain ⟨h1, h2⟩ := hF f i hi
    refine ⟨h2, fun args mem nxt v mem' nxt' hr base φ w xs hm hA => ?_⟩
    exact fnX_ok ⟨hΘ, KX_ok hΘ hF hD hmix n, hmix, POK.none⟩ h1 (fun kp c _ id b _ f hf => by cases hf) hr hm hA
   ·cases hg
end Go.GX
namespace Go.GX
def Tr.allP {α : Type} (p : Nat → α → Prop) : Tr α → (a b : Nat) → Prop
 | .lf, _, _ => True
 | .nd l v r, a, b => (∀ x, v = some x → p b x) ∧ l.allP p (2 * a) (a + b) ∧ r.allP p (2 * a) (2 * a + b)
theorem Tr.allP_get {α : Type} {p : Nat → α → Prop} : ∀ {t : Tr α} {a b : Nat}, t.allP p a b → ∀ {n : Nat} {x : α}, t.get n = some x → p (a * n + b) x
 | .lf, _, _, _, _, _, h => by simp [get] at h
 | .nd l v r, a, b, h, n, x, hg => by
  obtain ⟨h1, h2, h3⟩ := h
  simp only [get] at hg
  rcases Nat.eq_zero_or_pos n with hn | hn
  ·subst hn
   simp at hg; subst hg
   simpa using h1 x rfl
  ·rw [beq_pos hn] at hg
   simp only [cond_false] at hg
   by_cases ho : n % 2 = 1
   ·rw [beq_odd ho] at hg
    have := allP_get h2 hg
    rw [show 2 * a * Nat.div n 2 + (a + b) = a * n + b from by
     have e : n = 2 * (n / 2) + 1 := by omega
     have : a * n = a * (2 * (n / 2) + 1) := congrArg (a * ·) e
     rw [Nat.mul_add] at this
     have e2 : 2 * a * (n / 2) = a * (2 * (n / 2)) := by rw [Nat.mul_comm 2 a, Nat.mul_assoc]
     show 2 * a * (n / 2) + (a + b) = _
     omega] at this
    exact this
   ·rw [beq_even ho] at hg
    have := allP_get h3 hg
    rw [show 2 * a * Nat.sub (Nat.div n 2) 1 + (2 * a + b) = a * n + b from by
     have e : n = 2 * (n / 2 - 1) + 2 := by omega
     have : a * n = a * (2 * (n / 2 - 1) + 2) := congrArg (a * ·) e
     rw [Nat.mul_add] at this
     have e2 : 2 * a * (n / 2 - 1) = a * (2 * (n / 2 - 1)) := by rw [Nat.mul_comm 2 a, Nat.mul_assoc]
     show 2 * a * (n / 2 - 1) + (2 * a + b) = _
     omega] at this
    exact this
theorem TabOK.of {P : Program} {t : Tr TI} (h : t.all (chk P (fun n => t.get n)) 1 0 = true) : TabOK P (fun n => t.get n) := fun n x hn => by
 have := Tr.all_get h hn
 simpa using this
theorem FOK.of {P : Program} {t : Tr FI} (h : t.allP (fun f i => P.funcs[f]? = some i.fn ∧ ∀ args w, (callFunc f args).run P w = .ok (.enter f args) w) 1 0) : FOK P (fun n => t.get n) := fun n x hn => by
 have := Tr.allP_get h hn
 simpa using this
end Go.GX

namespace Go.GX
set_option linter.unusedSimpArgs false
set_option linter.unusedVariables false
set_option linter.unusedSectionVars false
open Go.RowKit (Below)
variable [DefL]
def pubBox (st : St) (s : Nat) : St :=
 match st.tm.get s with
 | some (⟨.ptr, some p⟩, true) => match p.path, Mem.getC st.mem p.id with
  | [0], some b => bif b.wr && (Nat.beq b.n 1 && valT b.t) then ⟨st.tm.set s (⟨.vptr b.t, b.row.getD 0 (dflt b.t)⟩, true), st.n, frz st.mem p.id b, st.nxt, st.ok⟩ else st
  | _, _ => st
 | _ => st
theorem pubBox_mono {st : St} {s : Nat} (h : (pubBox st s).ok = true) : st.ok = true := by
 unfold pubBox at h
 split at h
 ·split at h
  ·rename_i b _ _
   cases hb : b.wr && (Nat.beq b.n 1 && valT b.t) <;> rw [hb] at h
   ·exact h
   ·exact h
  ·exact h
 ·exact h
theorem pubBox_ok {base : Nat} {φ : Phi} {st : St} {a : Act} {w : World} (hr : Rel base φ st a w) {s : Nat} : ∃ ψ, φ.le ψ ∧ Rel base ψ (pubBox st s) a w := by
 have same : ∃ ψ, φ.le ψ ∧ Rel base ψ st a w := ⟨φ, Phi.le_refl _, hr⟩
 unfold pubBox
 split
 ·rename_i p hs
  split
  ·rename_i b hp hb
   obtain ⟨hb, hbnt⟩ := Mem.getC_spec hb
   cases hbb : b.wr && (Nat.beq b.n 1 && valT b.t)
   ·exact same
   ·simp only [cond_true]
    obtain ⟨hbw, hbb⟩ := and_split hbb
    obtain ⟨hn1, hval⟩ := and_split hbb
    have hn1 := Nat.eq_of_beq_eq_true hn1
    obtain ⟨ad, had, hav⟩ := VR_ptr.1 ((hr.tm _ _ _ hs).1 rfl)
    obtain ⟨ph, hph⟩ := addr_phys had
    have hbr := hr.mem.blkAt hb hph
    obtain ⟨cs, el, fr, h1, h2, h3⟩ := hbr.cells hbnt
    obtain ⟨hbs, rfl, him, hcap, hsz⟩ := h3 hbw
    have hadd : ad = ⟨ph.blk, ph.off, none⟩ := by
     unfold addr at had
     have h0 : offs b.t [] = some 0 := by cases b.t <;> rfl
     simp only [hph, hp, hbr.t] at had
     simp only [offs, h0, Option.map_some, Nat.add_zero, Nat.zero_mul, Option.some.injEq] at had
     exact had.symm
    let ψ : Phi := ⟨φ.ad, fun k => if k = ph.blk then some (.cells cs el (0, 0)) else φ.imm k, φ.lo⟩
    have hle : φ.le ψ := ⟨⟨fun _ _ h => h, fun k o h => by
     show (if k = ph.blk then _ else φ.imm k) = some o
     rw [if_neg (by intro e; subst e; rw [him] at h; cases h)]; exact h⟩, fun k o h => by
     have h : (if k = ph.blk then _ else φ.imm k) = some o := h
     by_cases e : k = ph.blk
     ·exact .inr (by rw [hr.mem.lo, e]; exact hbs)
     ·rw [if_neg e] at h; exact .inl h, rfl⟩
    refine ⟨ψ, hle, fun j v c hj => ?_, hr.n, ⟨fun i b' hi => ?_, fun i j b1 b2 p1 p2 hi hj hij hw g1 g2 => ?_, hr.mem.fresh, hr.mem.lo, hr.mem.base, fun k o hk => ?_⟩, hr.defers⟩
    ·rcases Tr.get_set hj with ⟨rfl, he⟩ | ⟨_, hj⟩
     ·cases he
      refine ⟨fun _ => ?_, fun e => by cases e⟩
      rw [VR_vptr]
      unfold CR
      refine ⟨ad, hav, by rw [hadd], cs, el, (0, 0), by rw [hadd]; show (if ph.blk = ph.blk then _ else _) = _; rw [if_pos rfl], ?_⟩
      rw [CRs_iff]
      intro i d hi
      have e1 : flat (.arr b.n b.t) b.row = flat b.t (b.row.getD 0 (dflt b.t)) := by rw [hn1]; simp [flat, List.range_succ]
      obtain ⟨v, hv, hx⟩ := h2 i d (by show (flat (.arr b.n b.t) b.row)[i]? = some d; rw [e1]; exact hi)
      refine ⟨v, ?_, CR_mono hle hx⟩
      rw [List.getElem?_drop, Array.getElem?_toList, hadd]
      exact hv
     ·obtain ⟨q1, q2⟩ := hr.tm j v c hj
      exact ⟨fun hc => VR_mono hle (q1 hc), q2⟩
    ·rcases Mem.get_set _ _ _ _ _ hi with ⟨rfl, rfl⟩ | ⟨hne, hi⟩
     ·exact .inr ⟨ph, hph, hbr.t, fun e => (by cases e), hbr.mp.same hle.1 rfl, fun _ => ⟨cs, el, (0, 0), h1, fun k d hk => let ⟨v, hv, hx⟩ := h2 k d hk; ⟨v, hv, CR_mono hle hx⟩, fun e => by cases e⟩⟩
     ·rcases hr.mem.blk i b' hi with g | ⟨ph', hp', hr'⟩
      ·exact .inl g
      ·refine .inr ⟨ph', hp', hr'.same hle (fun hw' h0 => ?_) rfl⟩
       show (if ph'.blk = ph.blk then _ else φ.imm ph'.blk) = none
       rw [if_neg (hr.mem.apart i p.id b' b ph' ph hi hb hne hw' hp' hph)]
       exact h0
    ·rcases Mem.get_set _ _ _ _ _ hi with ⟨rfl, rfl⟩ | ⟨_, hi⟩
     ·cases hw
     ·rcases Mem.get_set _ _ _ _ _ hj with ⟨rfl, rfl⟩ | ⟨_, hj⟩
      ·exact hr.mem.apart i p.id b1 b p1 p2 hi hb hij hw g1 g2
      ·exact hr.mem.apart i j b1 b2 p1 p2 hi hj hij hw g1 g2
    ·have hk : (if k = ph.blk then _ else φ.imm k) = some o := hk
     by_cases e : k = ph.blk
     ·rw [if_pos e] at hk; cases hk; rw [e]; exact h1
     ·rw [if_neg e] at hk; exact hr.mem.imm k o hk
  ·exact same
 ·exact same
def pubBs (mark : Nat → Bool) : List Nat → St → St
 | [], st => st
 | s :: r, st => pubBs mark r (bif mark s then pubBox st s else st)
theorem pubBs_mono {mark : Nat → Bool} : ∀ {l : List Nat} {st : St}, (pubBs mark l st).ok = true → st.ok = true
 | [], _, h => h
 | s :: r, st, h => by
  have := pubBs_mono (l := r) h
  cases hm : mark s <;> rw [hm] at this
  ·exact this
  ·exact pubBox_mono this
theorem pubBs_ok {base : Nat} {a : Act} {w : World} {mark : Nat → Bool} : ∀ {l : List Nat} {φ : Phi} {st : St}, Rel base φ st a w → ∃ ψ, φ.le ψ ∧ Rel base ψ (pubBs mark l st) a w
 | [], φ, _, hr => ⟨φ, Phi.le_refl _, hr⟩
 | s :: r, φ, st, hr => by
  have h1 : ∃ ψ, φ.le ψ ∧ Rel base ψ (bif mark s then pubBox st s else st) a w := by
   cases mark s
   ·exact ⟨φ, Phi.le_refl _, hr⟩
   ·exact pubBox_ok hr
  obtain ⟨ψ, h2, h3⟩ := h1
  obtain ⟨χ, h4, h5⟩ := pubBs_ok (l := r) (mark := mark) h3
  exact ⟨χ, Phi.le_trans h2 h4, h5⟩
end Go.GX

namespace Go.GX
set_option linter.unusedSimpArgs false
set_option linter.unusedVariables false
set_option linter.unusedSectionVars false
open Go.RowKit (Below)
variable [DefL]
def noDst (s : Nat) (ops : List Oper) : Bool := ops.all fun o => match o.dst with | some d => !(Nat.beq d s) | none => true
def pkOp (Θ : Tab) (s : Nat) (kd : IntKind) (n : Int) (o : Oper) : Oper := match o.op with
 | .load t (.tmp s') => bif Nat.beq s' s && (match Θ t with | some ti => decide (ti.ty = .int kd) | none => false) then ⟨o.dst, .assign (.const (.int kd n)), o.type, o.pos, o.after, o.guard⟩ else o
 | _ => o
def pkBox (st : St) (s : Nat) : Option (Nat × Blk × IntKind × Int) := match st.tm.get s with
 | some (⟨.ptr, some p⟩, true) => match p.path, Mem.getC st.mem p.id with
  | [0], some ⟨.int kd, n, row, wr⟩ => bif wr && Nat.beq n 1 then some (p.id, ⟨.int kd, n, row, wr⟩, kd, row.getD 0 0) else none
  | _, _ => none
 | _ => none
def pkSt (st : St) (i : Nat) (b : Blk) : St := ⟨st.tm, st.n, frz st.mem i b, st.nxt, st.ok⟩
structure PkFact (ψ : Phi) (st : St) (s : Nat) (kd : IntKind) (n : Int) : Prop where
 ex : ∃ i ph cs el fr, st.tm.get s = some (⟨.ptr, some ⟨i, [0]⟩⟩, true) ∧ ψ i = some ph ∧ ψ.imm ph.blk = some (.cells cs el fr) ∧ cs[ph.off]? = some (.int kd n)
theorem pkBox_ok {base : Nat} {φ : Phi} {st : St} {a : Act} {w : World} (hr : Rel base φ st a w) {s i : Nat} {b : Blk} {kd : IntKind} {n : Int} (h : pkBox st s = some (i, b, kd, n)) :
 ∃ ψ, φ.le ψ ∧ Rel base ψ (pkSt st i b) a w ∧ PkFact ψ (pkSt st i b) s kd n := by
 unfold pkBox at h
 split at h
 ·rename_i p hs
  split at h
  ·rename_i kd' bn row wr hp hb
   cases hw : wr && Nat.beq bn 1 <;> rw [hw] at h
   ·cases h
   ·simp only [cond_true, Option.some.injEq, Prod.mk.injEq] at h
    obtain ⟨rfl, rfl, rfl, rfl⟩ := h
    obtain ⟨hbw, hn1⟩ := and_split hw
    have hn1 := Nat.eq_of_beq_eq_true hn1
    subst hn1; subst hbw
    obtain ⟨hb, hbnt⟩ := Mem.getC_spec hb
    obtain ⟨ad, had, hav⟩ := VR_ptr.1 ((hr.tm _ _ _ hs).1 rfl)
    obtain ⟨ph, hph⟩ := addr_phys had
    have hbr := hr.mem.blkAt hb hph
    obtain ⟨cs, el, fr, h1, h2, h3⟩ := hbr.cells hbnt
    obtain ⟨hbs, rfl, him, hcap, hsz⟩ := h3 rfl
    let ψ : Phi := ⟨φ.ad, fun k => if k = ph.blk then some (.cells cs el (0, 0)) else φ.imm k, φ.lo⟩
    have hle : φ.le ψ := ⟨⟨fun _ _ h => h, fun k o h => by
     show (if k = ph.blk then _ else φ.imm k) = some o
     rw [if_neg (by intro e; subst e; rw [him] at h; cases h)]; exact h⟩, fun k o h => by
     have h : (if k = ph.blk then _ else φ.imm k) = some o := h
     by_cases e : k = ph.blk
     ·exact .inr (by rw [hr.mem.lo, e]; exact hbs)
     ·rw [if_neg e] at h; exact .inl h, rfl⟩
    refine ⟨ψ, hle, ⟨fun j v c hj => ?_, hr.n, ⟨fun i b' hi => ?_, fun i j b1 b2 p1 p2 hi hj hij hw g1 g2 => ?_, hr.mem.fresh, hr.mem.lo, hr.mem.base, fun k o hk => ?_⟩, hr.defers⟩, ⟨p.id, ph, cs, el, (0, 0), ?_, hph, ?_, ?_⟩⟩
    ·obtain ⟨q1, q2⟩ := hr.tm j v c hj
     exact ⟨fun hc => VR_mono hle (q1 hc), q2⟩
    ·rcases Mem.get_set _ _ _ _ _ hi with ⟨rfl, rfl⟩ | ⟨hne, hi⟩
     ·exact .inr ⟨ph, hph, hbr.t, fun e => (by cases e), hbr.mp.same hle.1 rfl, fun _ => ⟨cs, el, (0, 0), h1, fun k d hk => let ⟨v, hv, hx⟩ := h2 k d hk; ⟨v, hv, CR_mono hle hx⟩, fun e => by cases e⟩⟩
     ·rcases hr.mem.blk i b' hi with g | ⟨ph', hp', hr'⟩
      ·exact .inl g
      ·refine .inr ⟨ph', hp', hr'.same hle (fun hw' h0 => ?_) rfl⟩
       show (if ph'.blk = ph.blk then _ else φ.imm ph'.blk) = none
       rw [if_neg (hr.mem.apart i p.id b' _ ph' ph hi hb hne hw' hp' hph)]
       exact h0
    ·rcases Mem.get_set _ _ _ _ _ hi with ⟨rfl, rfl⟩ | ⟨_, hi⟩
     ·cases hw
     ·rcases Mem.get_set _ _ _ _ _ hj with ⟨rfl, rfl⟩ | ⟨_, hj⟩
      ·exact hr.mem.apart i p.id b1 _ p1 p2 hi hb hij hw g1 g2
      ·exact hr.mem.apart i j b1 b2 p1 p2 hi hj hij hw g1 g2
    ·have hk : (if k = ph.blk then _ else φ.imm k) = some o := hk
     by_cases e : k = ph.blk
     ·rw [if_pos e] at hk; cases hk; rw [e]; exact h1
     ·rw [if_neg e] at hk; exact hr.mem.imm k o hk
    ·show st.tm.get s = some (⟨.ptr, some ⟨p.id, [0]⟩⟩, true)
     rw [hs, ← hp]
    ·show (if ph.blk = ph.blk then _ else _) = _
     rw [if_pos rfl]
    ·obtain ⟨v, hv, hx⟩ := h2 0 (.c0 (.int kd' (row.getD 0 0))) (by simp [flat, Blk.val, List.range_succ]; rfl)
     unfold CR at hx
     have hx : v = .int kd' (row.getD 0 0) := hx
     rw [hx, Nat.add_zero] at hv
     exact hv
  ·cases h
 ·cases h
theorem load_at {P : Program} {Θ : Tab} {t : Nat} {ti : TI} (hT : TIOK P Θ t ti) {kd : IntKind} (ht : ti.ty = .int kd) {w : World} {k o : Nat} {cs : Array Value} {el : TypeId} {fr} {n : Int} (hk : w.heap[k]? = some (.cells cs el fr)) (hc : cs[o]? = some (.int kd n)) :
 (loadVar t ⟨k, o, none⟩).run P w = .ok (.int kd n) w := by
 obtain ⟨v, hv, hr⟩ := run_loadVar (φ := ⟨fun _ => none, fun _ => none, 0⟩) hT (x := ht ▸ (n : (Ty.int kd).den)) (w := w) (k := k) (o := o) (fun i c hi => by
  obtain ⟨ty, b, sub, cmp⟩ := ti
  simp only at ht
  subst ht
  cases i with
  | zero =>
   simp [flat] at hi; subst hi
   exact ⟨.int kd n, by simp only [World.cell?, hk, Nat.add_zero]; exact hc, by unfold CR; rfl⟩
  | succ i => simp [flat] at hi)
 rw [hv]
 obtain ⟨ty, b, sub, cmp⟩ := ti
 simp only at ht
 subst ht
 have := VR_int.1 (VR_of_V1 (t := .int kd) rfl hr)
 rw [this]
theorem pk_rep {P : Program} {Θ : Tab} (hΘ : TabOK P Θ) {ops : Array Oper} {s : Nat} {kd : IntKind} {n : Int} {ψ : Phi} {st : St} (hf : PkFact ψ st s kd n) (hd : noDst s ops.toList = true) {Q : Exit → Act → World → Prop} (F : Nat → St) (hF : F 0 = st) :
 Rep P (ops.toList.map (pkOp Θ s kd n)).toArray ops Q (JZ ψ (ops.toList.map (pkOp Θ s kd n)).toArray F) := by
 have hget : ∀ (i : Nat) o, (ops.toList.map (pkOp Θ s kd n)).toArray[i]? = some o → ∃ o0, ops[i]? = some o0 ∧ o = pkOp Θ s kd n o0 := by
  intro i o h
  rw [List.getElem?_toArray, List.getElem?_map, Option.map_eq_some_iff] at h
  obtain ⟨o0, h0, rfl⟩ := h
  exact ⟨o0, by simpa using h0, rfl⟩
 have hdst : ∀ o, (pkOp Θ s kd n o).dst = o.dst ∧ (pkOp Θ s kd n o).after = o.after ∧ (pkOp Θ s kd n o).guard = o.guard := by
  intro o
  unfold pkOp
  split
  ·rename_i t s' _
   cases Nat.beq s' s && _ <;> exact ⟨rfl, rfl, rfl⟩
  ·exact ⟨rfl, rfl, rfl⟩
 refine ⟨fun i o hi => ?_, fun i o hi => ?_⟩
 ·obtain ⟨o0, h0, rfl⟩ := hget i o hi
  obtain ⟨d1, d2, d3⟩ := hdst o0
  refine ⟨o0, h0, d1.symm, d2.symm, d3.symm, fun a w hJ next h => ?_⟩
  unfold pkOp at h
  split at h
  ·rename_i t s' hop
   cases hb : Nat.beq s' s && (match Θ t with | some ti => decide (ti.ty = .int kd) | none => false) <;> rw [hb] at h
   ·exact h
   ·simp only [cond_true] at h
    obtain ⟨h1, h2⟩ := and_split hb
    have h1 := Nat.eq_of_beq_eq_true h1
    subst h1
    split at h2
    ·rename_i ti hti
     have hty := of_decide_eq_true h2
     obtain ⟨j, ph, cs, el, fr, g1, g2, g3, g4⟩ := hf.ex
     obtain ⟨φ, hle, himm, hsl⟩ := hJ
     have hv := hsl s' (fun k o2 hk e => by
      obtain ⟨o3, k1, rfl⟩ := hget k o2 hk
      rw [(hdst o3).1] at e
      unfold noDst at hd
      rw [List.all_eq_true] at hd
      have := hd o3 (by rw [Array.mem_toList_iff]; exact Array.mem_of_getElem? k1)
      rw [e] at this
      simp at this) _ (by rw [hF]; exact g1)
     obtain ⟨ad, had, hav⟩ := VR_ptr.1 hv
     have hadd : ad = ⟨ph.blk, ph.off, none⟩ := by
      unfold addr at had
      have h0 : offs ph.t [] = some 0 := by cases ph.t <;> rfl
      simp only [hle.ad _ _ g2] at had
      simp only [offs, h0, Option.map_some, Nat.add_zero, Nat.zero_mul, Option.some.injEq] at had
      exact had.symm
     subst hadd
     have hrun := load_at (hΘ.get hti) hty (himm _ _ (hle.imm _ _ g3)) g4
     obtain ⟨dst, op, type, pos, after, guard⟩ := o0
     simp only at hop
     subst hop
     have e1 : (execOp a.eval ⟨dst, .load t (.tmp s'), type, pos, after, guard⟩).run P w = .ok (.value (.int kd n)) w := by
      refine run_v ?_
      have hav' : a.eval (.tmp s') = .pointer (some ⟨ph.blk, ph.off, none⟩) := hav
      simp only [Instr.loadAt, hav', Instr.sureAddr, Sem.run_bind, Sem.run_pure, Result.andThen]
      exact hrun
     unfold Oper.wp at h ⊢
     rw [e1]
     exact h
    ·cases h2
  ·exact h
 ·have hl : i < (ops.toList.map (pkOp Θ s kd n)).toArray.size := by
   have := (Array.getElem?_eq_some_iff.1 hi).1
   simpa using this
  exact ⟨_, Array.getElem?_eq_getElem hl⟩
def drawK (Θ : Tab) (K : Kn) (s : Nat) (ops : List Oper) (st : St) : Option St := match pkBox st s with
 | some (i, b, kd, n) => bif noDst s ops then drawZ Θ K (ops.map (pkOp Θ s kd n)) (pkSt st i b) else none
 | none => none
theorem drawK_ok {P : Program} {Θ : Tab} {K : Kn} (hΘ : TabOK P Θ) (hK : KOK P K) (hmix : P.follows .mixedOrders = true) {s : Nat} {ops : Array Oper} {base : Nat} {Q : Exit → Act → World → Prop} {st st' : St} {φ : Phi} {a : Act} {w : World} {id : Nat}
 (h : drawK Θ K s ops.toList st = some st') (hok : st'.ok = true) (hr : Rel base φ st a w) (hQ : ∀ ψ a' w', φ.le ψ → Rel base ψ st' a' w' → Below base w w' → Q .normal a' w') : (Code.region id ops true).wp P Q a w := by
 unfold drawK at h
 split at h
 ·rename_i i b kd n hpk
  cases hd : noDst s ops.toList <;> rw [hd] at h
  ·cases h
  ·simp only [cond_true] at h
   obtain ⟨ψ, hle, hr2, hf⟩ := pkBox_ok hr hpk
   exact drawZ_okR (ops := (ops.toList.map (pkOp Θ s kd n)).toArray) hΘ hK hmix (by simp) (fun F hF => pk_rep hΘ hf hd F hF) (by simpa using h) hok hr2 (fun ψ' a' w' h0 h1 h2 => hQ ψ' a' w' (Phi.le_trans hle h0) h1 h2)
 ·cases h
theorem drawK_mono {Θ : Tab} {K : Kn} {s : Nat} {ops : List Oper} {st st' : St} (hs : drawK Θ K s ops st = some st') (hok : st'.ok = true) : st.ok = true := by
 unfold drawK at hs
 split at hs
 ·rename_i i b kd n hpk
  cases hd : noDst s ops <;> rw [hd] at hs
  ·cases hs
  ·have := drawZ_mono (st := pkSt st i b) (by simpa using hs) hok
   exact this
 ·cases hs
end Go.GX

namespace Go.GX
set_option linter.unusedSimpArgs false
set_option linter.unusedVariables false
set_option linter.unusedSectionVars false
open Go.RowKit (Below)
section
variable [DefL]
theorem Tr.put_same {α : Type} : ∀ (f : Nat) (t : Tr α) (n : Nat) (x : α), n + 1 < 2 ^ f → t.get n = some x → put f t n x = t
 | 0, _, _, _, h, _ => by simp at h
 | f + 1, .lf, n, x, _, h => by simp [get] at h
 | f + 1, .nd l v r, n, x, hlt, h => by
  have hp : 2 ^ (f + 1) = 2 * 2 ^ f := by rw [Nat.pow_succ, Nat.mul_comm]
  simp only [get] at h
  simp only [put]
  rcases Nat.eq_zero_or_pos n with hn | hn
  ·subst hn
   simp at h; subst h; rfl
  ·rw [beq_pos hn] at h ⊢
   simp only [cond_false] at h ⊢
   by_cases ho : n % 2 = 1
   ·rw [beq_odd ho] at h ⊢
    simp only [cond_true] at h ⊢
    rw [Tr.put_same f l (Nat.div n 2) x (by show n / 2 + 1 < _; omega) h]
   ·rw [beq_even ho] at h ⊢
    simp only [cond_false] at h ⊢
    rw [Tr.put_same f r (Nat.sub (Nat.div n 2) 1) x (by show (n / 2 - 1) + 1 < _; omega) h]
theorem Tr.set_same {α : Type} {t : Tr α} {n : Nat} {x : α} (hn : Nat.blt n 1000000 = true) (h : t.get n = some x) : t.set n x = t :=
 Tr.put_same 40 t n x (Nat.lt_of_lt_of_le (Nat.succ_lt_succ (Nat.le_of_ble_eq_true hn)) (by decide)) h
def slotOf (ops : List Oper) (j : Nat) : Option Nat := match ops[j]? with | some o => o.dst | none => none
def opGo (Θ : Tab) (K : Kn) (st : St) (o : Oper) (g : Bool) : Option St :=
 match g with
 | true => opRun Θ K st o
 | false => match putV st.tm st.n o.dst (some dummy) false with | some tm => some ⟨tm, st.n, st.mem, st.nxt, st.ok⟩ | none => none
def regionT {ρ : Type} (Θ : Tab) (K : Kn) (ops : List Oper) : List Oper → St → (St → Option ρ) → Option ρ
 | [], st, k => k st
 | o :: r, st, k => match o.guard with
  | none => match opRun Θ K st o with | some s => regionT Θ K ops r s k | none => none
  | some (j, want) => match slotOf ops j with
   | none => none
   | some d => match st.tm.get d with
    | some (⟨.bool, b⟩, true) => bif Nat.blt d 1000000 then
     (bif b then (match opGo Θ K ⟨st.tm.set d (⟨.bool, true⟩, true), st.n, st.mem, st.nxt, st.ok⟩ o want with | some s => regionT Θ K ops r s k | none => none)
     else (match opGo Θ K ⟨st.tm.set d (⟨.bool, false⟩, true), st.n, st.mem, st.nxt, st.ok⟩ o (!want) with | some s => regionT Θ K ops r s k | none => none)) else none
    | some (_, false) => match opGo Θ K st o false with | some s => regionT Θ K ops r s k | none => none
    | _ => none
theorem opS_guard {Θ : Tab} {K : Kn} {ops : List Oper} {st : St} {o : Oper} {j : Nat} {want g : Bool} (hg : o.guard = some (j, want)) (h : guardV st.tm ops j want = some g) : opS false Θ K ops st o = opGo Θ K st o g := by
 unfold opS
 rw [hg]
 simp only
 rw [h]
 cases g
 ·simp only [cond_false, opGo]
  cases putV st.tm st.n o.dst (some dummy) false <;> rfl
 ·rfl
theorem regionT_spec {ρ : Type} {Θ : Tab} {K : Kn} {ops : List Oper} {r : ρ} : ∀ {l : List Oper} {st : St} {k : St → Option ρ}, regionT Θ K ops l st k = some r → ∃ s, regionX false Θ K ops l st = some s ∧ k s = some r
 | [], st, k, h => ⟨st, rfl, h⟩
 | o :: rest, st, k, h => by
  simp only [regionT] at h
  have go : ∀ {s1 : Option St}, opS false Θ K ops st o = s1 → (match s1 with | some s => regionT Θ K ops rest s k | none => none) = some r → ∃ s, regionX false Θ K ops (o :: rest) st = some s ∧ k s = some r := by
   intro s1 hs h
   simp only [regionX]
   rw [hs]
   cases s1 with
   | none => cases h
   | some s => exact regionT_spec h
  split at h
  ·rename_i hg
   refine go ?_ h
   unfold opS; rw [hg]
  ·rename_i j want hg
   split at h
   ·cases h
   ·rename_i d hd
    have hgv : ∀ {x : V × Bool}, st.tm.get d = some x → guardV st.tm ops j want = (match x with | (⟨.bool, b⟩, c) => some (c && (bif want then b else !b)) | (_, false) => some false | _ => none) := by
     intro x hx
     unfold slotOf at hd
     unfold guardV
     cases ho' : ops[j]? with
     | none => rw [ho'] at hd; cases hd
     | some o' =>
      rw [ho'] at hd
      simp only at hd
      simp only [hd, hx]
      obtain ⟨⟨t, y⟩, c⟩ := x
      cases t <;> cases c <;> rfl
    split at h
    ·rename_i b hb
     cases hlt : Nat.blt d 1000000 <;> rw [hlt] at h
     ·cases h
     ·simp only [cond_true] at h
      have hgv := hgv hb
      cases b
      ·simp only [cond_false] at h
       rw [Tr.set_same hlt hb] at h
       exact go (opS_guard hg (by rw [hgv]; cases want <;> rfl)) h
      ·simp only [cond_true] at h
       rw [Tr.set_same hlt hb] at h
       exact go (opS_guard hg (by rw [hgv]; cases want <;> rfl)) h
    ·rename_i x hx
     refine go (opS_guard (g := false) hg ?_) h
     rw [hgv hx]
     obtain ⟨t, y⟩ := x
     cases t <;> rfl
    ·cases h
def drawGo (Θ : Tab) (K : Kn) (mem : Mem) (nxt : Nat) (tm : TM) (o : Oper) : Bool → Option (V × Bool × Bool)
 | true => match tameX Θ K tm mem nxt o with | some (v, c) => some (v, true, c) | none => none
 | false => some (dummy, false, true)
def drawLT {ρ : Type} (Θ : Tab) (K : Kn) (ops : List Oper) (mem : Mem) (nxt : Nat) : List Oper → TM → Bool → (TM → Bool → Option ρ) → Option ρ
 | [], tm, ok, k => k tm ok
 | o :: r, tm, ok, k => match o.guard, o.dst with
  | _, none => none
  | none, some d => match tameX Θ K tm mem nxt o with
   | some (v, c) => drawLT Θ K ops mem nxt r (tm.set d (v, true)) (c && ok) k
   | none => none
  | some (j, want), some d => match slotOf ops j with
   | none => none
   | some e => match tm.get e with
    | some (⟨.bool, b⟩, true) => bif Nat.blt e 1000000 then
     (bif b then (match drawGo Θ K mem nxt (tm.set e (⟨.bool, true⟩, true)) o want with | some (v, g, c) => drawLT Θ K ops mem nxt r ((tm.set e (⟨.bool, true⟩, true)).set d (v, g)) (c && ok) k | none => none)
     else (match drawGo Θ K mem nxt (tm.set e (⟨.bool, false⟩, true)) o (!want) with | some (v, g, c) => drawLT Θ K ops mem nxt r ((tm.set e (⟨.bool, false⟩, true)).set d (v, g)) (c && ok) k | none => none)) else none
    | some (_, false) => drawLT Θ K ops mem nxt r (tm.set d (dummy, false)) ok k
    | _ => none
theorem entry_guard {Θ : Tab} {K : Kn} {ops : List Oper} {tm : TM} {mem : Mem} {nxt : Nat} {o : Oper} {j : Nat} {want g : Bool} (hg : o.guard = some (j, want)) (h : guardV tm ops j want = some g) :
 entry false Θ K ops tm mem nxt o = drawGo Θ K mem nxt tm o g := by
 unfold entry
 rw [hg]
 simp only
 rw [h]
 cases g
 ·rfl
 ·simp only [cond_true, drawGo]
  cases tameX Θ K tm mem nxt o <;> rfl
theorem drawLT_spec {ρ : Type} {Θ : Tab} {K : Kn} {ops : List Oper} {mem : Mem} {nxt : Nat} {r : ρ} : ∀ {l : List Oper} {tm : TM} {ok : Bool} {k : TM → Bool → Option ρ}, drawLT Θ K ops mem nxt l tm ok k = some r →
 ∃ tmN okN, drawL false Θ K ops mem nxt l tm ok = some (tmN, okN) ∧ k tmN okN = some r
 | [], tm, ok, k, h => ⟨tm, ok, rfl, h⟩
 | o :: rest, tm, ok, k, h => by
  simp only [drawLT] at h
  split at h
  ·cases h
  ·rename_i d hg hd
   split at h
   ·rename_i v c ht
    obtain ⟨tmN, okN, h1, h2⟩ := drawLT_spec h
    refine ⟨tmN, okN, ?_, h2⟩
    simp only [drawL, entry, hg, ht, hd, Option.map_some]
    exact h1
   ·cases h
  ·rename_i j want d hg hd
   have go : ∀ {e : Option (V × Bool × Bool)}, entry false Θ K ops tm mem nxt o = e → (match e with | some (v, g, c) => drawLT Θ K ops mem nxt rest (tm.set d (v, g)) (c && ok) k | none => none) = some r →
    ∃ tmN okN, drawL false Θ K ops mem nxt (o :: rest) tm ok = some (tmN, okN) ∧ k tmN okN = some r := by
    intro e he h
    split at h
    ·rename_i v g c
     obtain ⟨tmN, okN, h1, h2⟩ := drawLT_spec h
     refine ⟨tmN, okN, ?_, h2⟩
     simp only [drawL]
     rw [he, hd]
     exact h1
    ·cases h
   split at h
   ·cases h
   ·rename_i e hs
    have hgv : ∀ {x : V × Bool}, tm.get e = some x → guardV tm ops j want = (match x with | (⟨.bool, b⟩, c) => some (c && (bif want then b else !b)) | (_, false) => some false | _ => none) := by
     intro x hx
     unfold slotOf at hs
     unfold guardV
     cases ho' : ops[j]? with
     | none => rw [ho'] at hs; cases hs
     | some o' =>
      rw [ho'] at hs
      simp only at hs
      simp only [hs, hx]
      obtain ⟨⟨t, y⟩, c⟩ := x
      cases t <;> cases c <;> rfl
    split at h
    ·rename_i b hb
     cases hlt : Nat.blt e 1000000 <;> rw [hlt] at h
     ·cases h
     ·simp only [cond_true] at h
      have hgv := hgv hb
      cases b
      ·simp only [cond_false] at h
       rw [Tr.set_same hlt hb] at h
       exact go (entry_guard hg (by rw [hgv]; cases want <;> rfl)) h
      ·simp only [cond_true] at h
       rw [Tr.set_same hlt hb] at h
       exact go (entry_guard hg (by rw [hgv]; cases want <;> rfl)) h
    ·rename_i x hx
     refine go (e := some (dummy, false, true)) (entry_guard (g := false) hg ?_) h
     rw [hgv hx]
     obtain ⟨t, y⟩ := x
     cases t <;> rfl
    ·cases h
def drawT {ρ : Type} (Θ : Tab) (K : Kn) (ops : List Oper) (st : St) (k : St → Option ρ) : Option ρ :=
 bif Nat.ble st.n 1000000 && depsOK ops [] 0 st.n then
  drawLT Θ K ops st.mem st.nxt ops st.tm true fun tm ok => k ⟨tm, st.n, st.mem, st.nxt, ok && st.ok⟩
 else none
theorem drawT_spec {ρ : Type} {Θ : Tab} {K : Kn} {ops : List Oper} {st : St} {k : St → Option ρ} {r : ρ} (h : drawT Θ K ops st k = some r) : ∃ s, drawX false Θ K ops st = some s ∧ k s = some r := by
 unfold drawT at h
 unfold drawX
 cases hb : Nat.ble st.n 1000000 && depsOK ops [] 0 st.n <;> rw [hb] at h
 ·cases h
 ·simp only [cond_true] at h ⊢
  obtain ⟨tmN, okN, h1, h2⟩ := drawLT_spec h
  rw [h1]
  exact ⟨_, rfl, h2⟩
def walkGo {ρ : Type} (Θ : Tab) (K : Kn) (B nxt0 : Nat) (f : Nat → TM → Mem → Bool → List Ent → Option ρ) (tm : TM) (mem : Mem) (ok : Bool) (acc : List Ent) (o : Oper) (j : Nat) : Bool → Option ρ
 | true => match stepY Θ K tm mem B (nxt0 + j) o with
  | some y => match setY tm o.dst true y with | some tm' => f (j + 1) tm' (memY mem y) (y.ok && ok) (⟨tm, mem, true, y⟩ :: acc) | none => none
  | none => none
 | false => match setY tm o.dst false ⟨none, [], [], true, []⟩ with | some tm' => f (j + 1) tm' mem ok (⟨tm, mem, false, ⟨none, [], [], true, []⟩⟩ :: acc) | none => none
def walkYT {ρ : Type} (Θ : Tab) (K : Kn) (ops : List Oper) (B nxt0 : Nat) (k : List Ent → TM → Mem → Bool → Option ρ) : List Oper → Nat → TM → Mem → Bool → List Ent → Option ρ
 | [], _, tm, mem, ok, acc => k acc.reverse tm mem ok
 | o :: r, j, tm, mem, ok, acc => match o.guard with
  | none => match stepY Θ K tm mem B (nxt0 + j) o with
   | some y => match setY tm o.dst true y with | some tm' => walkYT Θ K ops B nxt0 k r (j + 1) tm' (memY mem y) (y.ok && ok) (⟨tm, mem, true, y⟩ :: acc) | none => none
   | none => none
  | some (jg, want) => match slotOf ops jg with
   | none => none
   | some e => match tm.get e with
    | some (⟨.bool, b⟩, true) => bif Nat.blt e 1000000 then
     (bif b then walkGo Θ K B nxt0 (walkYT Θ K ops B nxt0 k r) (tm.set e (⟨.bool, true⟩, true)) mem ok acc o j want
     else walkGo Θ K B nxt0 (walkYT Θ K ops B nxt0 k r) (tm.set e (⟨.bool, false⟩, true)) mem ok acc o j (!want)) else none
    | some (_, false) => walkGo Θ K B nxt0 (walkYT Θ K ops B nxt0 k r) tm mem ok acc o j false
    | _ => none
theorem walkGo_spec {ρ : Type} {Θ : Tab} {K : Kn} {ops : List Oper} {B nxt0 : Nat} {k : List Ent → TM → Mem → Bool → Option ρ} {r : ρ} {f : Nat → TM → Mem → Bool → List Ent → Option ρ} {rest : List Oper}
 (hf : ∀ j tm mem ok acc, f j tm mem ok acc = some r → ∃ E tmN memN okN, walkY Θ K ops B nxt0 rest j tm mem ok = some (E, tmN, memN, okN) ∧ k (acc.reverse ++ E) tmN memN okN = some r)
 {tm : TM} {mem : Mem} {ok : Bool} {acc : List Ent} {o : Oper} {j : Nat} {g : Bool} (he : entryY Θ K ops tm mem B (nxt0 + j) o = bif g then (stepY Θ K tm mem B (nxt0 + j) o).map fun y => (true, y) else some (false, ⟨none, [], [], true, []⟩))
 (h : walkGo Θ K B nxt0 f tm mem ok acc o j g = some r) : ∃ E tmN memN okN, walkY Θ K ops B nxt0 (o :: rest) j tm mem ok = some (E, tmN, memN, okN) ∧ k (acc.reverse ++ E) tmN memN okN = some r := by
 cases g
 ·simp only [walkGo] at h
  split at h
  ·rename_i tm' hs
   obtain ⟨E, tmN, memN, okN, h1, h2⟩ := hf _ _ _ _ _ h
   refine ⟨⟨tm, mem, false, ⟨none, [], [], true, []⟩⟩ :: E, tmN, memN, okN, ?_, by simpa using h2⟩
   simp only [cond_false] at he
   simp only [walkY, he, hs]
   rw [show memY mem ⟨none, [], [], true, []⟩ = mem from rfl, Bool.true_and, h1]
  ·cases h
 ·simp only [walkGo] at h
  split at h
  ·rename_i y hy
   split at h
   ·rename_i tm' hs
    obtain ⟨E, tmN, memN, okN, h1, h2⟩ := hf _ _ _ _ _ h
    refine ⟨⟨tm, mem, true, y⟩ :: E, tmN, memN, okN, ?_, by simpa using h2⟩
    rw [hy] at he
    simp only [cond_true, Option.map_some] at he
    simp only [walkY, he, hs, h1]
   ·cases h
  ·cases h
theorem walkYT_spec {ρ : Type} {Θ : Tab} {K : Kn} {ops : List Oper} {B nxt0 : Nat} {k : List Ent → TM → Mem → Bool → Option ρ} {r : ρ} : ∀ {l : List Oper} {j : Nat} {tm : TM} {mem : Mem} {ok : Bool} {acc : List Ent},
 walkYT Θ K ops B nxt0 k l j tm mem ok acc = some r → ∃ E tmN memN okN, walkY Θ K ops B nxt0 l j tm mem ok = some (E, tmN, memN, okN) ∧ k (acc.reverse ++ E) tmN memN okN = some r
 | [], j, tm, mem, ok, acc, h => ⟨[], tm, mem, ok, rfl, by simpa [walkYT] using h⟩
 | o :: rest, j, tm, mem, ok, acc, h => by
  have hf : ∀ j tm mem ok acc, walkYT Θ K ops B nxt0 k rest j tm mem ok acc = some r → ∃ E tmN memN okN, walkY Θ K ops B nxt0 rest j tm mem ok = some (E, tmN, memN, okN) ∧ k (acc.reverse ++ E) tmN memN okN = some r :=
   fun j tm mem ok acc h => walkYT_spec h
  simp only [walkYT] at h
  split at h
  ·rename_i hg
   refine walkGo_spec (f := walkYT Θ K ops B nxt0 k rest) (g := true) hf ?_ h
   unfold entryY; rw [hg]; rfl
  ·rename_i jg want hg
   split at h
   ·cases h
   ·rename_i e hs
    have hgv : ∀ {x : V × Bool}, tm.get e = some x → guardV tm ops jg want = (match x with | (⟨.bool, b⟩, c) => some (c && (bif want then b else !b)) | (_, false) => some false | _ => none) := by
     intro x hx
     unfold slotOf at hs
     unfold guardV
     cases ho' : ops[jg]? with
     | none => rw [ho'] at hs; cases hs
     | some o' =>
      rw [ho'] at hs
      simp only at hs
      simp only [hs, hx]
      obtain ⟨⟨t, y⟩, c⟩ := x
      cases t <;> cases c <;> rfl
    have hent : ∀ g, guardV tm ops jg want = some g → entryY Θ K ops tm mem B (nxt0 + j) o = bif g then (stepY Θ K tm mem B (nxt0 + j) o).map fun y => (true, y) else some (false, ⟨none, [], [], true, []⟩) := by
     intro g h
     unfold entryY
     rw [hg]
     simp only
     rw [h]
     cases g <;> rfl
    split at h
    ·rename_i b hb
     cases hlt : Nat.blt e 1000000 <;> rw [hlt] at h
     ·cases h
     ·simp only [cond_true] at h
      have hgv := hgv hb
      cases b
      ·simp only [cond_false] at h
       rw [Tr.set_same hlt hb] at h
       exact walkGo_spec hf (hent _ (by rw [hgv]; cases want <;> rfl)) h
      ·simp only [cond_true] at h
       rw [Tr.set_same hlt hb] at h
       exact walkGo_spec hf (hent _ (by rw [hgv]; cases want <;> rfl)) h
    ·rename_i x hx
     refine walkGo_spec (g := false) hf (hent false ?_) h
     rw [hgv hx]
     obtain ⟨t, y⟩ := x
     cases t <;> rfl
    ·cases h
def drawPT0 {ρ : Type} (Θ : Tab) (K : Kn) (ops : List Oper) (st : St) (k : St → Option ρ) : Option ρ :=
 bif quietD false st.n ops then drawT Θ K ops st k
 else bif Nat.ble st.n 1000000 && allIdx (depY st.n ops) ops 0 then
  walkYT Θ K ops (st.nxt + ops.length) st.nxt (fun E tmN memN okN => bif confY (predsY ops []) E then k ⟨tmN, st.n, memN, st.nxt + ops.length, okN && st.ok⟩ else none) ops 0 st.tm st.mem true []
 else none
theorem drawPT0_spec {ρ : Type} {Θ : Tab} {K : Kn} {ops : List Oper} {st : St} {k : St → Option ρ} {r : ρ} (h : drawPT0 Θ K ops st k = some r) : ∃ s, drawP0 false Θ K ops st = some s ∧ k s = some r := by
 unfold drawPT0 at h
 unfold drawP0
 cases hq : quietD false st.n ops <;> rw [hq] at h
 ·simp only [cond_false] at h ⊢
  unfold drawY
  cases hb : Nat.ble st.n 1000000 && allIdx (depY st.n ops) ops 0 <;> rw [hb] at h
  ·cases h
  ·simp only [cond_true] at h ⊢
   obtain ⟨E, tmN, memN, okN, h1, h2⟩ := walkYT_spec h
   rw [h1]
   simp only [List.reverse_nil, List.nil_append] at h2 ⊢
   cases hc : confY (predsY ops []) E <;> rw [hc] at h2
   ·cases h2
   ·exact ⟨_, rfl, h2⟩
 ·exact drawT_spec h
def runGo {ρ : Type} (Θ : Tab) (K : Kn) (f : St → List (Bool × Bool) → Option ρ) (st : St) (o : Oper) (fl : List (Bool × Bool)) : Bool → Option ρ
 | true => match opE Θ K st o with | some (s, b) => f s (b :: fl) | none => none
 | false => match opN st o with | some (s, b) => f s (b :: fl) | none => none
def runZT {ρ : Type} (Θ : Tab) (K : Kn) (ops : List Oper) (k : St → List (Bool × Bool) → Option ρ) : List Oper → St → List (Bool × Bool) → Option ρ
 | [], st, fl => k st fl.reverse
 | o :: r, st, fl => match o.guard with
  | none => match opE Θ K st o with | some (s, b) => runZT Θ K ops k r s (b :: fl) | none => none
  | some (j, want) => match slotOf ops j with
   | none => none
   | some d => match st.tm.get d with
    | some (⟨.bool, b⟩, true) => bif Nat.blt d 1000000 then
     (bif b then runGo Θ K (runZT Θ K ops k r) ⟨st.tm.set d (⟨.bool, true⟩, true), st.n, st.mem, st.nxt, st.ok⟩ o fl want
     else runGo Θ K (runZT Θ K ops k r) ⟨st.tm.set d (⟨.bool, false⟩, true), st.n, st.mem, st.nxt, st.ok⟩ o fl (!want)) else none
    | some (_, false) => runGo Θ K (runZT Θ K ops k r) st o fl false
    | _ => none
theorem runZT_spec {ρ : Type} {Θ : Tab} {K : Kn} {ops : List Oper} {r : ρ} {k : St → List (Bool × Bool) → Option ρ} : ∀ {l : List Oper} {st : St} {fl : List (Bool × Bool)}, runZT Θ K ops k l st fl = some r → ∃ s fl', runZ Θ K ops l st = some (s, fl') ∧ k s (fl.reverse ++ fl') = some r
 | [], st, fl, h => ⟨st, [], rfl, by simpa [runZT] using h⟩
 | o :: rest, st, fl, h => by
  simp only [runZT] at h
  have fin : ∀ {s : St} {b : Bool × Bool}, opZ Θ K ops st o = some (s, b) → runZT Θ K ops k rest s (b :: fl) = some r → ∃ s fl', runZ Θ K ops (o :: rest) st = some (s, fl') ∧ k s (fl.reverse ++ fl') = some r := by
   intro s b hs h
   obtain ⟨s', fl', h1, h2⟩ := runZT_spec h
   refine ⟨s', b :: fl', ?_, by simpa using h2⟩
   simp only [runZ, hs, h1]
  have go : ∀ {g : Bool}, opZ Θ K ops st o = (bif g then opE Θ K st o else opN st o) → runGo Θ K (runZT Θ K ops k rest) st o fl g = some r → ∃ s fl', runZ Θ K ops (o :: rest) st = some (s, fl') ∧ k s (fl.reverse ++ fl') = some r := by
   intro g hz h
   cases g
   ·simp only [runGo] at h
    split at h
    ·rename_i s b hs
     exact fin (by rw [hz]; exact hs) h
    ·cases h
   ·simp only [runGo] at h
    split at h
    ·rename_i s b hs
     exact fin (by rw [hz]; exact hs) h
    ·cases h
  split at h
  ·rename_i hg
   split at h
   ·rename_i s b hs
    exact fin (by unfold opZ; rw [hg]; exact hs) h
   ·cases h
  ·rename_i j want hg
   have zg : ∀ {g : Bool}, guardV st.tm ops j want = some g → opZ Θ K ops st o = (bif g then opE Θ K st o else opN st o) := by
    intro g hv
    unfold opZ
    rw [hg]
    simp only
    rw [hv]
    cases g <;> rfl
   split at h
   ·cases h
   ·rename_i d hd
    have hgv : ∀ {x : V × Bool}, st.tm.get d = some x → guardV st.tm ops j want = (match x with | (⟨.bool, b⟩, c) => some (c && (bif want then b else !b)) | (_, false) => some false | _ => none) := by
     intro x hx
     unfold slotOf at hd
     unfold guardV
     cases ho' : ops[j]? with
     | none => rw [ho'] at hd; cases hd
     | some o' =>
      rw [ho'] at hd
      simp only at hd
      simp only [hd, hx]
      obtain ⟨⟨t, y⟩, c⟩ := x
      cases t <;> cases c <;> rfl
    split at h
    ·rename_i b hb
     cases hlt : Nat.blt d 1000000 <;> rw [hlt] at h
     ·cases h
     ·simp only [cond_true] at h
      have hgv := hgv hb
      cases b
      ·simp only [cond_false] at h
       rw [Tr.set_same hlt hb] at h
       exact go (zg (by rw [hgv]; cases want <;> rfl)) h
      ·simp only [cond_true] at h
       rw [Tr.set_same hlt hb] at h
       exact go (zg (by rw [hgv]; cases want <;> rfl)) h
    ·rename_i x hx
     refine go (g := false) (zg ?_) h
     rw [hgv hx]
     obtain ⟨t, y⟩ := x
     cases t <;> rfl
    ·cases h
def drawPT {ρ : Type} (Θ : Tab) (K : Kn) (ops : List Oper) (st : St) (k : St → Option ρ) : Option ρ :=
 bif hasCall ops && (Nat.ble st.n 1000000 && allIdx (depY st.n ops) ops 0) then runZT Θ K ops (fun s fl => bif strictZ (predsY ops []) ops fl then k s else drawPT0 Θ K ops st k) ops st []
 else drawPT0 Θ K ops st k
theorem drawPT_spec {ρ : Type} {Θ : Tab} {K : Kn} {ops : List Oper} {st : St} {k : St → Option ρ} {r : ρ} (h : drawPT Θ K ops st k = some r) : ∃ s, drawP false Θ K ops st = some s ∧ k s = some r := by
 unfold drawPT at h
 unfold drawP
 cases hc : hasCall ops
 ·rw [hc] at h
  exact drawPT0_spec h
 ·rw [hc] at h
  simp only [Bool.true_and] at h
  simp only [cond_true]
  unfold drawZ
  cases hb : Nat.ble st.n 1000000 && allIdx (depY st.n ops) ops 0 <;> rw [hb] at h
  ·exact drawPT0_spec h
  ·simp only [cond_true] at h ⊢
   obtain ⟨s, fl, h1, h2⟩ := runZT_spec h
   rw [h1]
   simp only [List.reverse_nil, List.nil_append] at h2 ⊢
   cases h3 : strictZ (predsY ops []) ops fl <;> rw [h3] at h2
   ·exact drawPT0_spec h2
   ·exact ⟨s, rfl, h2⟩
def loopT {ρ : Type} (f : St → (X → St → Option ρ) → Option ρ) (k : X → St → Option ρ) : Nat → St → Option ρ
 | 0, _ => none
 | n + 1, st => f st fun x s => match x with
  | .normal => loopT f k n s
  | x => k x s
def learn (tm : TM) (c : Operand) (b : Bool) : TM :=
 match c with
 | .tmp t => tm.set t (⟨.bool, b⟩, true)
 | _ => tm
theorem learn_ok {φ : Phi} {tm : TM} {a : Act} (ht : TmR φ tm a.tmps) {c : Operand} {b : Bool} (h : a.eval c = .bool b) : TmR φ (learn tm c b) a.tmps := by
 unfold learn
 split
 ·rename_i t
  intro s v c' hs
  rcases Tr.get_set hs with ⟨rfl, he⟩ | ⟨_, hs⟩
  ·cases he
   exact ⟨fun _ => VR_bool.2 h, fun e => by cases e⟩
  ·exact ht s v c' hs
 ·exact ht
def altsT {ρ : Type} : List (Bool × X × St) → (X → St → Option ρ) → Option ρ
 | [], _ => none
 | (c, x, s) :: r, k => bif c then k x s else altsT r k
theorem altsT_spec {ρ : Type} {k : X → St → Option ρ} {r : ρ} : ∀ {l : List (Bool × X × St)}, altsT l k = some r → ∃ x s, pickA l = some (x, s) ∧ k x s = some r
 | [], h => by cases h
 | (c, x, s) :: l, h => by
  cases c
  ·exact altsT_spec (l := l) h
  ·exact ⟨x, s, rfl, h⟩
abbrev RunT (ρ : Type) := St → (X → St → Option ρ) → Option ρ
def jumpT {ρ : Type} (fr : Nat → Option (RunT ρ)) (k : X → St → Option ρ) : Nat → X → St → Option ρ
 | 0, x, s => match x with | .goto _ => none | x => k x s
 | n + 1, x, s => match x with
  | .goto l => match fr l with | some f => f s (jumpT fr k n) | none => none
  | x => k x s
def drawKT {ρ : Type} (Θ : Tab) (K : Kn) (s : Nat) (ops : List Oper) (st : St) (k : St → Option ρ) : Option ρ := match pkBox st s with
 | some (i, b, kd, n) => bif noDst s ops && (Nat.ble st.n 1000000 && allIdx (depY st.n (ops.map (pkOp Θ s kd n))) (ops.map (pkOp Θ s kd n)) 0) then
  runZT Θ K (ops.map (pkOp Θ s kd n)) (fun s' fl => bif strictZ (predsY (ops.map (pkOp Θ s kd n)) []) (ops.map (pkOp Θ s kd n)) fl then k s' else none) (ops.map (pkOp Θ s kd n)) (pkSt st i b) [] else none
 | none => none
theorem drawKT_spec {ρ : Type} {Θ : Tab} {K : Kn} {s : Nat} {ops : List Oper} {st : St} {k : St → Option ρ} {r : ρ} (h : drawKT Θ K s ops st k = some r) : ∃ s', drawK Θ K s ops st = some s' ∧ k s' = some r := by
 unfold drawKT at h
 unfold drawK
 split at h
 ·rename_i i b kd n hpk
  cases hb : noDst s ops && (Nat.ble st.n 1000000 && allIdx (depY st.n (ops.map (pkOp Θ s kd n))) (ops.map (pkOp Θ s kd n)) 0) <;> rw [hb] at h
  ·cases h
  ·simp only [cond_true] at h
   obtain ⟨h1, h2⟩ := and_split hb
   obtain ⟨s', fl, h3, h4⟩ := runZT_spec h
   simp only [List.reverse_nil, List.nil_append] at h4
   cases h5 : strictZ (predsY (ops.map (pkOp Θ s kd n)) []) (ops.map (pkOp Θ s kd n)) fl <;> rw [h5] at h4
   ·cases h4
   ·refine ⟨s', ?_, h4⟩
    try rw [hpk]
    simp only [h1, cond_true]
    unfold drawZ
    have h2' : (Nat.ble (pkSt st i b).n 1000000 && allIdx (depY (pkSt st i b).n (ops.map (pkOp Θ s kd n))) (ops.map (pkOp Θ s kd n)) 0) = true := h2
    rw [h2', h3]
    simp only [cond_true, h5]
 ·cases h
def pkSlot (C : Cx) (ops : List Oper) : Option Nat := (ops.flatMap opdTmps).find? (fun s => match C.L (3000000 + s) with | some _ => true | none => false)
def pubF (C : Cx) (ops : List Oper) (st : St) : St := bif hasCall ops then pubBs (fun s => match C.L (2000000 + s) with | some _ => true | none => false) (ops.flatMap opdTmps) st else st
theorem pubF_mono {C : Cx} {ops : List Oper} {st : St} (h : (pubF C ops st).ok = true) : st.ok = true := by
 unfold pubF at h
 cases hc : hasCall ops <;> rw [hc] at h
 ·exact h
 ·exact pubBs_mono h
theorem pubF_ok {C : Cx} {ops : List Oper} {base : Nat} {φ : Phi} {st : St} {a : Act} {w : World} (hr : Rel base φ st a w) : ∃ ψ, φ.le ψ ∧ Rel base ψ (pubF C ops st) a w := by
 unfold pubF
 cases hasCall ops
 ·exact ⟨φ, Phi.le_refl _, hr⟩
 ·exact pubBs_ok hr
def panO (C : Cx) (o : Oper) : Bool := match o.guard with
 | some _ => false
 | none => match o.op with
  | .call ⟨.value (.func f), _, _⟩ => (match C.P f with | some _ => true | none => false)
  | _ => false
def altsP {ρ : Type} (f : Nat → Int → Option ρ) (g : Option ρ) : List (Bool × Nat × Int) → Option ρ
 | [] => g
 | (c, t, n) :: r => bif c then f t n else altsP f g r
def panX (C : Cx) (st : St) (o : Oper) : Option (List (Bool × Nat × Int) × V × Bool × Bool) :=
 match o.op with
 | .call ⟨.value f, args, _⟩ => match rd st.tm f, rds st.tm args.toList with
  | some (⟨.func, .fn f a b⟩, c), some (l, d) => match unpacks a, unpacks b, C.P f with
   | some a, some b, some g => match g (a ++ (l ++ b)) with
    | some (al, v, k) => some (al, v, k, c && d)
    | none => none
   | _, _, _ => none
  | _, _ => none
 | _ => none
def panStep {ρ : Type} (C : Cx) (st : St) (o : Oper) (k : X → St → Option ρ) (k2 : St → Option ρ) : Option ρ :=
 match panX C st o with
 | some (al, v, kk, cd) => altsP (fun t n => k (.pan t n) ⟨st.tm, st.n, st.mem, st.nxt, cd && st.ok⟩)
  (match putV st.tm st.n o.dst (some v) true with | some tm => k2 ⟨tm, st.n, st.mem, st.nxt, kk && (cd && st.ok)⟩ | none => none) al
 | none => none
def mkPan (o : Oper) (r : List Oper) : Option (Nat × Operand × Nat) := match o.op with
 | .makeInterface T x => match o.guard, o.dst, r with
  | none, some d, [o2] => match o2.op, o2.guard with
   | .panic (.tmp d'), none => bif Nat.beq d d' then some (T, x, d) else none
   | _, _ => none
  | _, _, _ => none
 | _ => none
def panI {ρ : Type} (C : Cx) (st : St) (T : Nat) (x : Operand) (d : Nat) (k : X → St → Option ρ) : Option ρ :=
 match C.Θ T, rd st.tm x, st.tm.get d with
 | some ti, some (⟨.pair (.int .i64) .unit, y⟩, c), none => bif Nat.blt d st.n && Nat.beq (kt ti.ty) 9 then k (.pan T y.1) ⟨st.tm, st.n, st.mem, st.nxt, c && st.ok⟩ else none
 | _, _, _ => none
def regionP {ρ : Type} (C : Cx) (ops : List Oper) (k : X → St → Option ρ) : List Oper → List Oper → St → Option ρ
 | [], pre, st => regionT C.Θ C.K ops pre.reverse st (k .normal)
 | o :: r, pre, st => match mkPan o r with
  | some (T, x, d) => regionT C.Θ C.K ops pre.reverse st fun s => panI C s T x d k
  | none => match panO C o with
   | true => regionT C.Θ C.K ops pre.reverse st fun s => panStep C s o k (regionP C ops k r [])
   | false => regionP C ops k r (o :: pre) st
def isPanic (o : Oper) : Bool := match o.op with | .panic _ => true | _ => false
theorem altsP_spec {ρ : Type} {f : Nat → Int → Option ρ} {g : Option ρ} {r : ρ} : ∀ {l : List (Bool × Nat × Int)}, altsP f g l = some r → (∃ t n, pickP l = some (t, n) ∧ f t n = some r) ∨ (pickP l = none ∧ g = some r)
 | [], h => .inr ⟨rfl, h⟩
 | (c, t, n) :: l, h => by
  cases c
  ·exact altsP_spec (l := l) h
  ·exact .inl ⟨t, n, rfl, h⟩
theorem panStep_mono {ρ : Type} {C : Cx} {st : St} {o : Oper} {k : X → St → Option ρ} {k2 : St → Option ρ} {r : ρ} (h : panStep C st o k k2 = some r) (hk : ∀ x s, k x s = some r → s.ok = true) (hk2 : ∀ s, k2 s = some r → s.ok = true) : st.ok = true := by
 unfold panStep at h
 split at h
 ·rcases altsP_spec h with ⟨t, n, _, h⟩ | ⟨_, h⟩
  ·exact (and_split (hk _ _ h)).2
  ·split at h
   ·exact (and_split (and_split (hk2 _ h)).2).2
   ·cases h
 ·cases h
theorem panI_mono {ρ : Type} {C : Cx} {st : St} {T d : Nat} {x : Operand} {k : X → St → Option ρ} {r : ρ} (h : panI C st T x d k = some r) (hk : ∀ x s, k x s = some r → s.ok = true) : st.ok = true := by
 unfold panI at h
 split at h
 ·rename_i ti y c _ _ _
  cases hb : (Nat.blt d st.n && Nat.beq (kt ti.ty) 9) <;> rw [hb] at h
  ·cases h
  ·exact (and_split (hk _ _ h)).2
 ·cases h
theorem panI_ok {ρ : Type} {P : Program} {C : Cx} (hC : CxOK P C) {st : St} {o : Oper} {rest : List Oper} {T d : Nat} {x : Operand} (hm : mkPan o rest = some (T, x, d)) {k : X → St → Option ρ} {r : ρ} (h : panI C st T x d k = some r) (hk : ∀ x s, k x s = some r → s.ok = true)
 {base : Nat} {φ : Phi} {a : Act} {w : World} (hr : Rel base φ st a w) {ops : Array Oper} {Q : Exit → Act → World → Prop}
 (hQ : ∀ n s a', Rel base φ s a' w → k (.pan T n) s = some r → Q (.panic (chainOf T n)) a' w) : wpList P ops Q (o :: rest) a w := by
 unfold mkPan at hm
 split at hm
 ·rename_i T' x' hop
  split at hm
  ·rename_i d' o2 hg hd
   split at hm
   ·rename_i d2 hop2 hg2
    cases hb : Nat.beq d' d2 <;> rw [hb] at hm
    ·cases hm
    simp only [cond_true, Option.some.injEq, Prod.mk.injEq] at hm
    obtain ⟨rfl, rfl, rfl⟩ := hm
    have hb := Nat.eq_of_beq_eq_true hb
    subst hb
    unfold panI at h
    split at h
    ·rename_i ti y c hti hx hgd
     cases hb : (Nat.blt d' st.n && Nat.beq (kt ti.ty) 9) <;> rw [hb] at h
     ·cases h
     simp only [cond_true] at h
     obtain ⟨hlt, hkt⟩ := and_split hb
     have hlt : d' < st.n := Nat.le_of_ble_eq_true hlt
     have hkt := Nat.eq_of_beq_eq_true hkt
     have hc := (and_split (hk _ _ h)).1
     subst hc
     have hv := rd_ok hr.tm hx
     obtain ⟨l, hl, hcl⟩ : ∃ l, a.eval x' = .agg l ∧ CL φ [Cell.c0 (.int .i64 y.1)] l.toList := by
      unfold VR at hv
      rw [if_neg (by simp [isTup])] at hv
      unfold V1 at hv
      rw [if_pos (show isAgg (.pair (.int .i64) .unit) = true from rfl)] at hv
      exact hv
     have hl2 : l = #[.int .i64 y.1] := by
      apply Array.ext'
      obtain ⟨u, hu, hcr⟩ := hcl.2 0 _ rfl
      have hlen : l.toList.length = 1 := hcl.1
      have hcr : u = .int .i64 y.1 := CR_c0.1 hcr
      subst hcr
      match hx : l.toList, hlen with
      | [v], _ => rw [hx] at hu; simp at hu; rw [hu]
     subst hl2
     obtain ⟨dd, hdd, hdu, hdr⟩ := (hC.Θ.get hti).run_underlying
     have hkd := desc_kind hdd
     rw [hkt] at hkd
     have hmi : ∀ w, (Instr.makeInterface T' (a.eval x')).run P w = .ok (.iface T' (.agg #[.int .i64 y.1])) w := by
      intro w
      rw [hl]
      unfold Instr.makeInterface
      simp only [Sem.run_bind, hdr, Result.andThen]
      cases dd <;> first | rfl | (simp [kd] at hkd)
     rw [wpList, if_pos (by simp [Region.wanted, hg])]
     refine .inl ?_
     have hex : (execOp a.eval o).run P w = .ok (.value (.iface T' (.agg #[.int .i64 y.1]))) w := by
      unfold execOp
      rw [hop]
      exact run_v (hmi w)
     unfold Oper.wp
     rw [hex]
     show wpList P ops Q [o2] (a.put o.dst _) w
     rw [hd, wpList, if_pos (by simp [Region.wanted, hg2])]
     refine .inl ?_
     have hev : (a.put (some d') (.iface T' (.agg #[.int .i64 y.1]))).eval (.tmp d') = .iface T' (.agg #[.int .i64 y.1]) := by
      show (a.tmps.setIfInBounds d' _).getD d' undef = _
      rw [Array.getD_eq_getD_getElem?, Array.getElem?_setIfInBounds_self_of_lt (by rw [hr.n]; exact hlt)]
      rfl
     have hex2 : (execOp (a.put (some d') (.iface T' (.agg #[.int .i64 y.1]))).eval o2).run P w = .halt (.panic (.iface T' (.agg #[.int .i64 y.1]))) w := by
      unfold execOp
      rw [hop2]
      simp only [hev]
      rfl
     unfold Oper.wp
     rw [hex2]
     refine hQ _ _ _ ⟨fun s v c hs => ?_, by simp [Act.put, hr.n], hr.mem, hr.defers⟩ h
     have hne : s ≠ d' := fun e => by
      subst e
      have hs : st.tm.get s = some (v, c) := hs
      rw [hgd] at hs; cases hs
     have := hr.tm s v c hs
     have he : (a.put (some d') (.iface T' (.agg #[.int .i64 y.1]))).tmps.getD s undef = a.tmps.getD s undef := by
      show (a.tmps.setIfInBounds d' _).getD s undef = _
      rw [Array.getD_eq_getD_getElem?, Array.getD_eq_getD_getElem?, Array.getElem?_setIfInBounds_ne (fun e => hne e.symm)]
     rw [he]
     exact this
    ·cases h
   ·cases hm
  ·cases hm
 ·cases hm
theorem regionP_mono {ρ : Type} {C : Cx} {ops : List Oper} {k : X → St → Option ρ} {r : ρ} (hk : ∀ x s, k x s = some r → s.ok = true) : ∀ {l pre : List Oper} {st : St}, regionP C ops k l pre st = some r → st.ok = true
 | [], pre, st, h => by
  obtain ⟨s, hs, h⟩ := regionT_spec h
  exact regionX_mono hs (hk _ _ h)
 | o :: rest, pre, st, h => by
  simp only [regionP] at h
  split at h
  ·obtain ⟨s, hs, h⟩ := regionT_spec h
   exact regionX_mono hs (panI_mono h hk)
  split at h
  ·obtain ⟨s, hs, h⟩ := regionT_spec h
   exact regionX_mono hs (panStep_mono h hk (fun s h => regionP_mono hk h))
  ·exact regionP_mono hk h
theorem panStep_ok {ρ : Type} {P : Program} {C : Cx} (hC : CxOK P C) {st : St} {o : Oper} (hg : o.guard = none) {k : X → St → Option ρ} {k2 : St → Option ρ} {r : ρ} (h : panStep C st o k k2 = some r) (hk : ∀ x s, k x s = some r → s.ok = true) (hk2 : ∀ s, k2 s = some r → s.ok = true)
 {base : Nat} {φ : Phi} {a : Act} {w : World} (hr : Rel base φ st a w) {next : Act → World → Prop} {Q : Exit → Act → World → Prop}
 (hQ : ∀ t n s w', Rel base φ s a w' → Below base w w' → k (.pan t n) s = some r → Q (.panic (chainOf t n)) a w') (hn : ∀ s ψ a' w', φ.le ψ → Rel base ψ s a' w' → Below base w w' → k2 s = some r → next a' w') : o.wp P a w next Q := by
 obtain ⟨dst, op, type, pos, after, guard⟩ := o
 simp only at hg
 subst hg
 unfold panStep at h
 split at h
 ·rename_i al v kk cd hx
  unfold panX at hx
  split at hx
  ·rename_i f args ts hop
   simp only at hop
   subst hop
   split at hx
   ·rename_i fid fa fb c l d hf hl
    split at hx
    ·rename_i ua ub g ha hb hg
     split at hx
     ·rename_i al' v' k' hgv
      simp only [Option.some.injEq, Prod.mk.injEq] at hx
      obtain ⟨rfl, rfl, rfl, rfl⟩ := hx
      have hcd : (c && d) = true := by
       rcases altsP_spec h with ⟨t, n, _, h⟩ | ⟨_, h⟩
       ·exact (and_split (hk _ _ h)).1
       ·split at h
        ·exact (and_split (and_split (hk2 _ h)).2).1
        ·cases h
      obtain ⟨hc, hd⟩ := and_split hcd
      subst hc hd
      obtain ⟨x, y, hv, hA⟩ := call_args hC.Θ hC.K hr.mem hr.tm hf hl ha hb
      obtain ⟨hcf, hsp⟩ := hC.P fid g hg
      obtain ⟨hval, hsp⟩ := hsp _ _ _ _ hgv
      unfold Oper.wp
      have hrun : (execOp a.eval ⟨dst, .call ⟨.value f, args, ts⟩, type, pos, after, none⟩).run P w = .ok (.enter fid (x ++ args.map a.eval ++ y)) w := by
       simp only [execOp, resolve, hv, Deferred.ofValue, invoke, Sem.run_bind, Sem.run_pure, Result.andThen]
       exact hcf _ _
      rw [hrun]
      show Calls P fid _ w _
      rcases altsP_spec h with ⟨t, n, hp, h⟩ | ⟨hp, h⟩
      ·rw [hp] at hsp
       refine (hsp φ w _ hr.mem.imm hA).mono ?_
       rintro e w' ⟨rfl, hb'⟩
       exact hQ t n _ w' ⟨hr.tm, hr.n, hr.mem.same (Below.same hb' (Nat.le_refl _)) (Nat.le_refl _), hr.defers⟩ (hb'.mono hr.mem.base) h
      ·rw [hp] at hsp
       split at h
       ·rename_i tm htm
        have hkk := (and_split (hk2 _ h)).1
        refine (hsp hkk φ w _ hr.mem.imm hA).mono ?_
        rintro e w' ⟨ψ, m, n, z, rfl, h0, h3, h1, h2⟩
        obtain ⟨g1, g2⟩ := hr.mem.back (φ0 := φ.bare w.heap.size) rfl rfl h0 h3 h2
        obtain ⟨h5, h6, h7⟩ := putV_ok (TmR_mono g1 hr.tm) hr.n htm (x := z) (fun u hu => by cases hu; exact ⟨fun _ => valV_ok (φ := ψ) (ψ := φ.with ψ.imm) (fun _ _ h => h) hval h1, fun e => (by cases e)⟩)
        exact hn ⟨tm, st.n, st.mem, st.nxt, k' && (true && true && st.ok)⟩ _ _ w' g1 ⟨h5, h6, g2, h7.trans hr.defers⟩ (h2.mono hr.mem.base) h
       ·cases h
     ·cases hx
    ·cases hx
   ·cases hx
  ·cases hx
 ·cases h
theorem regionP_ok {ρ : Type} {P : Program} {C : Cx} (hC : CxOK P C) {ops : Array Oper} {k : X → St → Option ρ} {r : ρ} (hk : ∀ x s, k x s = some r → s.ok = true) {base : Nat} {Q : Exit → Act → World → Prop} :
 ∀ {l pre : List Oper} {st : St} {φ : Phi} {a : Act} {w : World}, Rel base φ st a w → regionP C ops.toList k l pre st = some r →
  (∀ x e s ψ a' w', EX x e → φ.le ψ → Rel base ψ s a' w' → Below base w w' → k x s = some r → Q e a' w') → wpList P ops Q (pre.reverse ++ l) a w
 | [], pre, st, φ, a, w, hr, h, hQ => by
  simp only [regionP] at h
  obtain ⟨s, hs, h⟩ := regionT_spec h
  rw [List.append_nil]
  exact regionX_ok hC.Θ hC.K (φ0 := φ) (w0 := w) (fun ψ a' w' h1 h2 h3 => hQ .normal .normal s ψ a' w' trivial h1 h2 h3 h) (Phi.le_refl _) hr (Below.refl _ _) hs (hk _ _ h)
 | o :: rest, pre, st, φ, a, w, hr, h, hQ => by
  simp only [regionP] at h
  split at h
  ·rename_i T x d hmk
   obtain ⟨s, hs, h⟩ := regionT_spec h
   refine regionX_app hC.Θ hC.K (φ0 := φ) (w0 := w) (fun ψ a' w' h1 h2 h3 => ?_) (Phi.le_refl _) hr (Below.refl _ _) hs (panI_mono h hk)
   exact panI_ok hC hmk h hk h2 (fun n s' a2 g1 g2 => hQ (.pan T n) (.panic (chainOf T n)) s' ψ a2 w' rfl h1 g1 h3 g2)
  split at h
  ·rename_i hp
   have hg : o.guard = none := by
    unfold panO at hp
    split at hp
    ·cases hp
    ·assumption
   obtain ⟨s, hs, h⟩ := regionT_spec h
   have hm2 : ∀ s, regionP C ops.toList k rest [] s = some r → s.ok = true := fun s h => regionP_mono hk h
   refine regionX_app hC.Θ hC.K (φ0 := φ) (w0 := w) (fun ψ a' w' h1 h2 h3 => ?_) (Phi.le_refl _) hr (Below.refl _ _) hs (panStep_mono h hk hm2)
   rw [wpList, if_pos (by simp [Region.wanted, hg])]
   refine .inl (panStep_ok hC hg h hk hm2 h2 (fun t n s' w2 g1 g2 g3 => hQ (.pan t n) (.panic (chainOf t n)) s' ψ a' w2 rfl h1 g1 (h3.trans g2) g3) (fun s' χ a2 w2 g0 g1 g2 g3 => ?_))
   have := regionP_ok hC hk (pre := []) g1 g3 (fun x e s3 ζ a3 w3 he q1 q2 q3 q4 => hQ x e s3 ζ a3 w3 he (Phi.le_trans (Phi.le_trans h1 g0) q1) q2 ((h3.trans g2).trans q3) q4)
   simpa using this
  ·have := regionP_ok hC hk (pre := o :: pre) hr h hQ
   simpa using this
def codeTT {ρ : Type} (C : Cx) : Code → RunT ρ × (Nat → Option (RunT ρ))
 | .skip => (fun st k => k .normal st, fun _ => none)
 | .region _ ops draw => (fun st k => match draw with
  | false => (match ops.toList.any (fun o => panO C o || isPanic o) with
   | false => regionT C.Θ C.K ops.toList ops.toList st (k .normal)
   | true => regionP C ops.toList k ops.toList [] st)
  | true => match pkSlot C ops.toList with
   | some s => drawKT C.Θ C.K s ops.toList (pubL C.Θ ops.toList st) (k .normal)
   | none => drawPT C.Θ C.K ops.toList (pubF C ops.toList (pubL C.Θ ops.toList st)) (k .normal), fun _ => none)
 | .seq a b => (fun st k => (codeTT C a).1 st fun x s => match x with
  | .normal => match C.L (jkey b) with
   | some f => (match Nat.beq (jkey b) 0 with | false => altsT (f s) k | true => (codeTT C b).1 s k)
   | none => (codeTT C b).1 s k
  | x => k x s, fun l => match (codeTT C a).2 l with
   | some f => some fun st k => f st fun x s => match x with
    | .normal => (codeTT C b).1 s k
    | x => k x s
   | none => (codeTT C b).2 l)
 | .cond c a b => (fun st k => match rd st.tm c with
  | some (⟨.bool, x⟩, cc) => bif x then (codeTT C a).1 ⟨learn st.tm c true, st.n, st.mem, st.nxt, cc && st.ok⟩ k else (codeTT C b).1 ⟨learn st.tm c false, st.n, st.mem, st.nxt, cc && st.ok⟩ k
  | _ => none, fun _ => none)
 | .block id b => (fun st k => match blkL C id with
  | some f => altsT (f st) k
  | none => (codeTT C b).1 st fun x s => match x with
   | .exit j => bif Nat.beq j id then k .normal s else k (.exit j) s
   | x => k x s, fun _ => none)
 | .loop b => (fun st k => loopT (codeTT C b).1 k C.lf st, fun _ => none)
 | .exit id => (fun st k => k (.exit id) st, fun _ => none)
 | .ret => (fun st k => k .ret st, fun _ => none)
 | .label j => (fun st k => k .normal st, fun l => bif Nat.beq j l then some fun st k => k .normal st else none)
 | .goto l => (fun st k => k (.goto l) st, fun _ => none)
 | .scope b => (fun st k => (codeTT C b).1 st (jumpT (codeTT C b).2 k C.lf), fun _ => none)
 | _ => (fun _ _ => none, fun _ => none)
def codeT {ρ : Type} (C : Cx) (c : Code) : RunT ρ := (codeTT C c).1
theorem loopT_mono {ρ : Type} {f : St → (X → St → Option ρ) → Option ρ} {r : ρ} (hf : ∀ st k, (∀ x s, k x s = some r → s.ok = true) → f st k = some r → st.ok = true) {k : X → St → Option ρ} (hk : ∀ x s, k x s = some r → s.ok = true) :
 ∀ (n : Nat) (st : St), loopT f k n st = some r → st.ok = true
 | 0, st, h => by simp [loopT] at h
 | n + 1, st, h => by
  simp only [loopT] at h
  refine hf st _ (fun x s hs => ?_) h
  cases x with
  | normal => exact loopT_mono hf hk n s hs
  | exit j => exact hk _ _ hs
  | ret => exact hk _ _ hs
  | goto l => exact hk _ _ hs
  | pan t n => exact hk _ _ hs
def Goes (P : Program) (kp base : Nat) (φ : Phi) (w : World) {ρ : Type} (r : ρ) (k : X → St → Option ρ) (Q : Exit → Act → World → Prop) : Prop :=
 ∀ x e s ψ a' w', EX x e → Phi.leK kp φ ψ → Rel base ψ s a' w' → Below base w w' → k x s = some r → Q e a' w'
theorem Goes.weaken {P : Program} {kp base : Nat} {φ ψ : Phi} {w w' : World} {ρ : Type} {r : ρ} {k : X → St → Option ρ} {Q : Exit → Act → World → Prop} (h : Goes P kp base φ w r k Q) (hle : Phi.leK kp φ ψ) (hb : Below base w w') : Goes P kp base ψ w' r k Q :=
 fun x e s χ a2 w2 he h1 h2 h3 h4 => h x e s χ a2 w2 he (Phi.leK_trans hle h1) h2 (hb.trans h3) h4
theorem EX_of {x : X} {e : Exit} (h : EX x e) : (x = .normal ∧ e = .normal) ∨ (∃ j, x = .exit j ∧ e = .exit j) ∨ (x = .ret ∧ e = .ret) ∨ (∃ j, x = .goto j ∧ e = .goto j) ∨ (∃ t n, x = .pan t n ∧ e = .panic (chainOf t n)) := by
 cases x <;> cases e <;> simp [EX] at h
 ·exact .inl ⟨rfl, rfl⟩
 ·subst h; exact .inr (.inl ⟨_, rfl, rfl⟩)
 ·exact .inr (.inr (.inl ⟨rfl, rfl⟩))
 ·subst h; exact .inr (.inr (.inr (.inl ⟨_, rfl, rfl⟩)))
 ·subst h; exact .inr (.inr (.inr (.inr ⟨_, _, rfl, rfl⟩)))
structure OneT (P : Program) (kp : Nat) {ρ : Type} (r : ρ) (c : Code) (f : RunT ρ) : Prop where
 mono : ∀ {st : St} {k : X → St → Option ρ}, (∀ x s, k x s = some r → s.ok = true) → f st k = some r → st.ok = true
 ok : ∀ {st : St} {k : X → St → Option ρ} {base : Nat} {φ : Phi} {a : Act} {w : World} {Q : Exit → Act → World → Prop},
  (∀ x s, k x s = some r → s.ok = true) → f st k = some r → Rel base φ st a w → Goes P kp base φ w r k Q → c.wp P Q a w
def GoodT (P : Program) (kp : Nat) {ρ : Type} (r : ρ) (c : Code) (f : RunT ρ × (Nat → Option (RunT ρ))) : Prop :=
 OneT P kp r c f.1 ∧ ∀ l, match f.2 l with
  | some g => ∃ rest, findLabel c l = some rest ∧ OneT P kp r rest g
  | none => findLabel c l = none
theorem OneT.seq {P : Program} {kp : Nat} {ρ : Type} {r : ρ} {a b : Code} {fa fb : RunT ρ} (ha : OneT P kp r a fa) (hb : OneT P kp r b fb) : OneT P kp r (.seq a b) (fun st k => fa st fun x s => match x with | .normal => fb s k | x => k x s) := by
 have hm : ∀ {k : X → St → Option ρ}, (∀ x s, k x s = some r → s.ok = true) → ∀ (x : X) (s : St), (match x with | .normal => fb s k | x => k x s) = some r → s.ok = true := by
  intro k hk x s hs
  cases x with
  | normal => exact hb.mono hk hs
  | exit j => exact hk _ _ hs
  | ret => exact hk _ _ hs
  | goto l => exact hk _ _ hs
  | pan t n => exact hk _ _ hs
 refine ⟨fun hk h => ha.mono (hm hk) h, fun {st k base φ a' w Q} hk h hr hQ => wp_seq (ha.ok (hm hk) h hr ?_)⟩
 intro x e s ψ a2 w2 he h1 h2 h3 h4
 rcases EX_of he with ⟨rfl, rfl⟩ | ⟨j, rfl, rfl⟩ | ⟨rfl, rfl⟩ | ⟨j, rfl, rfl⟩ | ⟨_, _, rfl, rfl⟩
 ·exact hb.ok hk h4 h2 (hQ.weaken h1 h3)
 ·exact hQ _ _ s ψ a2 w2 he h1 h2 h3 h4
 ·exact hQ _ _ s ψ a2 w2 he h1 h2 h3 h4
 ·exact hQ _ _ s ψ a2 w2 he h1 h2 h3 h4
 ·exact hQ _ _ s ψ a2 w2 he h1 h2 h3 h4
theorem jumpT_mono {P : Program} {kp : Nat} {ρ : Type} {r : ρ} {c : Code} {f : RunT ρ × (Nat → Option (RunT ρ))} (hf : GoodT P kp r c f) {k : X → St → Option ρ} (hk : ∀ x s, k x s = some r → s.ok = true) : ∀ n x s, jumpT f.2 k n x s = some r → s.ok = true
 | 0, x, s, h => by
  cases x with
  | goto l => cases h
  | normal => exact hk _ _ h
  | exit j => exact hk _ _ h
  | ret => exact hk _ _ h
  | pan t n => exact hk _ _ h
 | n + 1, x, s, h => by
  cases x with
  | goto l =>
   simp only [jumpT] at h
   have hg := hf.2 l
   split at h
   ·rename_i g e
    rw [e] at hg
    obtain ⟨rest, _, h2⟩ := hg
    exact h2.mono (jumpT_mono hf hk n) h
   ·cases h
  | normal => exact hk _ _ h
  | exit j => exact hk _ _ h
  | ret => exact hk _ _ h
  | pan t n => exact hk _ _ h
theorem jumpT_ok {P : Program} {kp : Nat} {ρ : Type} {r : ρ} {c : Code} {f : RunT ρ × (Nat → Option (RunT ρ))} (hf : GoodT P kp r c f) {k : X → St → Option ρ} (hk : ∀ x s, k x s = some r → s.ok = true) {Q : Exit → Act → World → Prop} :
 ∀ (n : Nat) {y : Code} {g : RunT ρ}, OneT P kp r y g → ∀ {st : St} {base : Nat} {φ : Phi} {a : Act} {w : World}, g st (jumpT f.2 k n) = some r → Rel base φ st a w → Goes P kp base φ w r k Q → JumpWp P c Q (n + 1) y a w
 | n, y, g, hg, st, base, φ, a, w, h, hr, hQ => by
  refine hg.ok (jumpT_mono hf hk n) h hr ?_
  intro x e s ψ a2 w2 he h1 h2 h3 h4
  rcases EX_of he with ⟨rfl, rfl⟩ | ⟨j, rfl, rfl⟩ | ⟨rfl, rfl⟩ | ⟨l, rfl, rfl⟩ | ⟨_, _, rfl, rfl⟩
  ·cases n <;> exact hQ _ _ s ψ a2 w2 he h1 h2 h3 h4
  ·cases n <;> exact hQ _ _ s ψ a2 w2 he h1 h2 h3 h4
  ·cases n <;> exact hQ _ _ s ψ a2 w2 he h1 h2 h3 h4
  ·cases n with
   | zero => cases h4
   | succ n =>
    simp only [jumpT] at h4
    have hg := hf.2 l
    split at h4
    ·rename_i g' e
     rw [e] at hg
     obtain ⟨rest, hr1, hr2⟩ := hg
     exact ⟨rest, hr1, jumpT_ok hf hk n hr2 h4 h2 (hQ.weaken h1 h3)⟩
    ·cases h4
  ·cases n <;> exact hQ _ _ s ψ a2 w2 he h1 h2 h3 h4
theorem OneT.known {P : Program} {kp : Nat} {ρ : Type} {r : ρ} {b : Code} {f : St → List (Bool × X × St)} (h : ∀ st x st', pickA (f st) = some (x, st') → CodeOK P kp b st x st') : OneT P kp r b (fun st k => altsT (f st) k) := by
 refine ⟨fun {st k} hk h' => ?_, fun {st k base φ a w Q} hk h' hr hQ => ?_⟩
 ·obtain ⟨x, s, hs, h'⟩ := altsT_spec h'
  exact (h _ _ _ hs).1 (hk _ _ h')
 ·obtain ⟨x, s, hs, h'⟩ := altsT_spec h'
  refine wp_mono ((h _ _ _ hs).2 (hk _ _ h') base φ a w hr) ?_
  rintro e a' w' ⟨he, ψ, h1, h2, h3⟩
  exact hQ x e s ψ a' w' he h1 h2 h3 h'
theorem codeTT_ok {ρ : Type} {P : Program} {C : Cx} (hC : CxOK P C) {r : ρ} {kp : Nat} : ∀ {c : Code}, LOK P C kp c → GoodT P kp r c (codeTT C c) := by
 intro c
 induction c with
 | skip => intro _; exact ⟨⟨fun hk h => hk _ _ h, fun {st k base φ a w Q} hk h hr hQ => wp_skip (hQ .normal .normal st φ a w trivial (Phi.leK_refl _) hr (Below.refl _ _) h)⟩, fun l => rfl⟩
 | region id ops draw =>
  intro _
  refine ⟨⟨fun {st k} hk h => ?_, fun {st k base φ a w Q} hk h hr hQ => ?_⟩, fun l => rfl⟩
  ·simp only [codeTT] at h
   split at h
   ·split at h
    ·obtain ⟨s, hs, h⟩ := regionT_spec h
     exact regionX_mono hs (hk _ _ h)
    ·exact regionP_mono hk h
   ·split at h
    ·obtain ⟨s, hs, h⟩ := drawKT_spec h
     exact pubL_mono (drawK_mono hs (hk _ _ h))
    ·obtain ⟨s, hs, h⟩ := drawPT_spec h
     exact pubL_mono (pubF_mono (drawP_mono hs (hk _ _ h)))
  ·simp only [codeTT] at h
   split at h
   ·split at h
    rotate_left
    ·have := regionP_ok (Q := Q) hC hk (pre := []) hr h (fun x e s ψ a' w' he h1 h2 h3 h4 => hQ x e s ψ a' w' he h1.toK h2 h3 h4)
     exact wp_region_list (by simpa using this)
    obtain ⟨s, hs, h⟩ := regionT_spec h
    exact wp_region_list (regionX_ok hC.Θ hC.K (φ0 := φ) (w0 := w) (fun ψ a' w' h1 h2 h3 => hQ .normal .normal s ψ a' w' trivial h1.toK h2 h3 h) (Phi.le_refl _) hr (Below.refl _ _) hs (hk _ _ h))
   ·split at h
    ·obtain ⟨s, hs, h⟩ := drawKT_spec h
     obtain ⟨χ0, hle0, hr0⟩ := pubL_ok hr (drawK_mono hs (hk _ _ h))
     exact drawK_ok hC.Θ hC.K hC.mix hs (hk _ _ h) hr0 (fun ψ a' w' h0 h1 h2 => hQ .normal .normal s ψ a' w' trivial (Phi.le_trans hle0 h0).toK h1 h2 h)
    obtain ⟨s, hs, h⟩ := drawPT_spec h
    obtain ⟨χ0, hle0, hr0⟩ := pubL_ok hr (pubF_mono (drawP_mono hs (hk _ _ h)))
    obtain ⟨χ, hle1, hr2⟩ := pubF_ok (C := C) (ops := ops.toList) hr0
    have hle := Phi.le_trans hle0 hle1
    exact drawP_ok hC.Θ hC.K hC.mix hs (hk _ _ h) hr2 (fun ψ a' w' h0 h1 h2 => hQ .normal .normal s ψ a' w' trivial (Phi.le_trans hle h0).toK h1 h2 h)
 | seq x y iha ihb =>
  intro hL
  have ga := iha (fun id b hb => hL id b (by simp [blocksOf, hb]))
  have gb := ihb (fun id b hb => hL id b (by simp [blocksOf, hb]))
  have gj : OneT P kp r y (fun s k => match C.L (jkey y) with
   | some f => (match Nat.beq (jkey y) 0 with | false => altsT (f s) k | true => (codeTT C y).1 s k)
   | none => (codeTT C y).1 s k) := by
   cases hl : C.L (jkey y) with
   | none => exact gb.1
   | some f =>
    cases hz : Nat.beq (jkey y) 0
    ·have := OneT.known (r := r) (fun st x st' h => hL (jkey y) y (by simp [blocksOf, hz]) f hl st x st' h)
     rw [unitC_j hz] at this
     exact this
    ·exact gb.1
  refine ⟨OneT.seq ga.1 gj, fun l => ?_⟩
  have h1 := ga.2 l
  have h2 := gb.2 l
  simp only [codeTT, findLabel]
  cases e : (codeTT (ρ := ρ) C x).2 l with
  | some f =>
   rw [e] at h1
   obtain ⟨rest, hr1, hr2⟩ := h1
   rw [hr1]
   exact ⟨_, rfl, OneT.seq hr2 gb.1⟩
  | none =>
   rw [e] at h1
   rw [h1]
   exact h2
 | cond c x y iha ihb =>
  intro hL
  have ga := iha (fun id b hb => hL id b (by simp [blocksOf, hb]))
  have gb := ihb (fun id b hb => hL id b (by simp [blocksOf, hb]))
  refine ⟨⟨fun {st k} hk h => ?_, fun {st k base φ a w Q} hk h hr hQ => ?_⟩, fun l => rfl⟩
  ·simp only [codeTT] at h
   split at h
   ·rename_i t cc hc
    cases t
    ·have h : (codeTT C y).1 ⟨learn st.tm c false, st.n, st.mem, st.nxt, cc && st.ok⟩ k = some r := h
     exact (and_split (gb.1.mono hk h)).2
    ·have h : (codeTT C x).1 ⟨learn st.tm c true, st.n, st.mem, st.nxt, cc && st.ok⟩ k = some r := h
     exact (and_split (ga.1.mono hk h)).2
   ·cases h
  ·simp only [codeTT] at h
   split at h
   ·rename_i t cc hc
    have key : cc = true → a.eval c = .bool t := fun hcc => by subst hcc; exact VR_bool.1 (rd_ok hr.tm hc)
    cases t
    ·have h : (codeTT C y).1 ⟨learn st.tm c false, st.n, st.mem, st.nxt, cc && st.ok⟩ k = some r := h
     have e := key (and_split (gb.1.mono hk h)).1
     exact wp_cond_false e (gb.1.ok hk h ⟨learn_ok hr.tm e, hr.n, hr.mem, hr.defers⟩ hQ)
    ·have h : (codeTT C x).1 ⟨learn st.tm c true, st.n, st.mem, st.nxt, cc && st.ok⟩ k = some r := h
     have e := key (and_split (ga.1.mono hk h)).1
     exact wp_cond_true e (ga.1.ok hk h ⟨learn_ok hr.tm e, hr.n, hr.mem, hr.defers⟩ hQ)
   ·cases h
 | block id b ih =>
  intro hL
  refine ⟨⟨fun {st k} hk h => ?_, fun {st k base φ a w Q} hk h hr hQ => ?_⟩, fun l => rfl⟩
  all_goals
   have gb := ih (fun id' b' hb => hL id' b' (by simp [blocksOf, hb]))
   have hm : ∀ (x : X) (s : St), (match x with | .exit j => bif Nat.beq j id then k .normal s else k (.exit j) s | x => k x s) = some r → s.ok = true := by
    intro x s hs
    cases x with
    | normal => exact hk _ _ hs
    | exit j =>
     simp only at hs
     cases hj : Nat.beq j id <;> rw [hj] at hs
     ·exact hk _ _ hs
     ·exact hk _ _ hs
    | ret => exact hk _ _ hs
    | goto l => exact hk _ _ hs
    | pan t n => exact hk _ _ hs
  ·simp only [codeTT] at h
   split at h
   ·rename_i f hf
    obtain ⟨x, s, hs, h⟩ := altsT_spec h
    obtain ⟨hf, hu⟩ := blkL_some hf
    have := hL id b (by simp [blocksOf]) f hf _ _ _ hs
    exact this.1 (hk _ _ h)
   ·exact gb.1.mono hm h
  ·simp only [codeTT] at h
   split at h
   ·rename_i f hf
    obtain ⟨x, s, hs, h⟩ := altsT_spec h
    obtain ⟨hf, hu⟩ := blkL_some hf
    have := hL id b (by simp [blocksOf]) f hf _ _ _ hs
    rw [hu] at this
    have := this.2 (hk _ _ h) base φ a w hr
    refine wp_mono this ?_
    rintro e a' w' ⟨he, ψ, h1, h2, h3⟩
    exact hQ x e s ψ a' w' he h1 h2 h3 h
   ·refine wp_block (gb.1.ok hm h hr ?_)
    intro x e s ψ a' w' he h1 h2 h3 h4
    rcases EX_of he with ⟨rfl, rfl⟩ | ⟨j, rfl, rfl⟩ | ⟨rfl, rfl⟩ | ⟨j, rfl, rfl⟩ | ⟨_, _, rfl, rfl⟩
    ·exact hQ .normal .normal s ψ a' w' trivial h1 h2 h3 h4
    ·simp only at h4
     cases hj : Nat.beq j id <;> rw [hj] at h4
     ·simp only [Exit.inBlock]
      rw [if_neg (by intro e; subst e; simp at hj)]
      exact hQ (.exit j) (.exit j) s ψ a' w' rfl h1 h2 h3 h4
     ·have hj := Nat.eq_of_beq_eq_true hj
      subst hj
      simp only [Exit.inBlock, if_true]
      exact hQ .normal .normal s ψ a' w' trivial h1 h2 h3 h4
    ·exact hQ .ret .ret s ψ a' w' trivial h1 h2 h3 h4
    ·exact hQ (.goto j) (.goto j) s ψ a' w' rfl h1 h2 h3 h4
    ·exact hQ _ _ s ψ a' w' he h1 h2 h3 h4
 | loop b ih =>
  intro hL
  have gb := ih (fun id' b' hb => hL id' b' (by simpa [blocksOf] using hb))
  refine ⟨⟨fun {st k} hk h => loopT_mono (fun st k hk h => gb.1.mono hk h) hk _ _ h, fun {st k base φ a w Q} hk h hr hQ => ?_⟩, fun l => rfl⟩
  have key : ∀ (n : Nat) (st : St) (φ : Phi) (a : Act) (w : World), loopT (codeTT C b).1 k n st = some r → Rel base φ st a w → Goes P kp base φ w r k Q → Code.rounds P b Q n a w := by
   intro n
   induction n with
   | zero => intro st φ a w h; simp [loopT] at h
   | succ n ihn =>
    intro st φ a w h hr hQ
    simp only [loopT] at h
    rw [rounds_succ]
    refine gb.1.ok (fun x s hs => ?_) h hr ?_
    ·cases x with
     | normal => exact loopT_mono (fun st k hk h => gb.1.mono hk h) hk _ _ hs
     | exit j => exact hk _ _ hs
     | ret => exact hk _ _ hs
     | goto l => exact hk _ _ hs
     | pan t n => exact hk _ _ hs
    ·intro x e s ψ a' w' he h1 h2 h3 h4
     rcases EX_of he with ⟨rfl, rfl⟩ | ⟨j, rfl, rfl⟩ | ⟨rfl, rfl⟩ | ⟨j, rfl, rfl⟩ | ⟨_, _, rfl, rfl⟩
     ·exact ihn s ψ a' w' h4 h2 (hQ.weaken h1 h3)
     ·exact hQ _ _ s ψ a' w' he h1 h2 h3 h4
     ·exact hQ _ _ s ψ a' w' he h1 h2 h3 h4
     ·exact hQ _ _ s ψ a' w' he h1 h2 h3 h4
     ·exact hQ _ _ s ψ a' w' he h1 h2 h3 h4
  exact wp_loop_rounds C.lf (key C.lf st φ a w h hr hQ)
 | exit id => intro _; exact ⟨⟨fun hk h => hk _ _ h, fun {st k base φ a w Q} hk h hr hQ => wp_exit (hQ (.exit id) (.exit id) st φ a w rfl (Phi.leK_refl _) hr (Below.refl _ _) h)⟩, fun l => rfl⟩
 | ret => intro _; exact ⟨⟨fun hk h => hk _ _ h, fun {st k base φ a w Q} hk h hr hQ => wp_ret (hQ .ret .ret st φ a w trivial (Phi.leK_refl _) hr (Below.refl _ _) h)⟩, fun l => rfl⟩
 | goto l => intro _; exact ⟨⟨fun hk h => hk _ _ h, fun {st k base φ a w Q} hk h hr hQ => wp_goto (hQ (.goto l) (.goto l) st φ a w rfl (Phi.leK_refl _) hr (Below.refl _ _) h)⟩, fun l => rfl⟩
 | label j =>
  intro _
  refine ⟨⟨fun hk h => hk _ _ h, fun {st k base φ a w Q} hk h hr hQ => wp_label (hQ .normal .normal st φ a w trivial (Phi.leK_refl _) hr (Below.refl _ _) h)⟩, fun l => ?_⟩
  simp only [codeTT, findLabel]
  cases e : Nat.beq j l
  ·have : ¬ j = l := fun h => by subst h; simp at e
   simp [this]
  ·have := Nat.eq_of_beq_eq_true e
   subst this
   simp only [cond_true, beq_self_eq_true, if_true]
   exact ⟨_, rfl, fun hk h => hk _ _ h, fun {st k base φ a w Q} hk h hr hQ => wp_skip (hQ .normal .normal st φ a w trivial (Phi.leK_refl _) hr (Below.refl _ _) h)⟩
 | scope b ih =>
  intro hL
  have gb := ih (fun id' b' hb => hL id' b' (by simpa [blocksOf] using hb))
  exact ⟨⟨fun hk h => gb.1.mono (jumpT_mono gb hk _) h, fun {st k base φ a w Q} hk h hr hQ => wp_scope_n (jumpT_ok gb hk C.lf gb.1 h hr hQ)⟩, fun l => rfl⟩
 | _ => intro _; exact ⟨⟨fun hk h => by simp [codeTT] at h, fun {st k base φ a w Q} hk h hr hQ => by simp [codeTT] at h⟩, fun l => rfl⟩
theorem codeT_mono {ρ : Type} {P : Program} {C : Cx} (hC : CxOK P C) {r : ρ} {kp : Nat} {c : Code} (hL : LOK P C kp c) {st : St} {k : X → St → Option ρ} (hk : ∀ x s, k x s = some r → s.ok = true) (h : codeT C c st k = some r) : st.ok = true :=
 (codeTT_ok hC hL).1.mono hk h
theorem codeT_ok {ρ : Type} {P : Program} {C : Cx} (hC : CxOK P C) {r : ρ} {kp : Nat} {c : Code} (hL : LOK P C kp c) {st : St} {k : X → St → Option ρ} {base : Nat} {φ : Phi} {a : Act} {w : World} {Q : Exit → Act → World → Prop}
 (hk : ∀ x s, k x s = some r → s.ok = true) (h : codeT C c st k = some r) (hr : Rel base φ st a w) (hQ : Goes P kp base φ w r k Q) : c.wp P Q a w :=
 (codeTT_ok hC hL).1.ok hk h hr hQ
end
def fnT (C : Cx) (fn : Func) (t : Ty) (args : List V) : Option t.den :=
 match fn.body with
 | none => none
 | some c => bif Nat.ble args.length fn.ntmps && (args.all valV && valT t) then
  codeT C c ⟨putArgs args 0 .lf, fn.ntmps, [], 0, true⟩ fun x s => match x with
   | .exit _ => none
   | .goto _ => none
   | .pan _ _ => none
   | _ => match resY C.Θ fn s with
    | some (v, _, c) => bif c then asT t v else none
    | none => none
  else none
theorem fnT_ok {P : Program} {C : Cx} (hC : CxOK P C) {fn : Func} {f : Nat} (hf : P.funcs[f]? = some fn) (hL : ∀ c, fn.body = some c → LOK P C 0 c) {t : Ty} {args : List V} {r : t.den}
 (h : fnT C fn t args = some r) : PureOK P f args ⟨t, r⟩ := by
 intro φ w xs hI hA
 unfold fnT at h
 split at h
 ·cases h
 ·rename_i c hc
  cases hb : (Nat.ble args.length fn.ntmps && (args.all valV && valT t)) <;> rw [hb] at h
  ·cases h
  ·simp only [cond_true] at h
   obtain ⟨hb1, hb2⟩ := and_split hb
   obtain ⟨hpa, hpt⟩ := and_split hb2
   have hle := Nat.le_of_ble_eq_true hb1
   let φ0 : Phi := φ.bare w.heap.size
   have hA0 : AR φ0 args xs := ⟨hA.1, fun i v hi => by
    obtain ⟨x, hx, hxr⟩ := hA.2 i v hi
    exact ⟨x, hx, valV_ok (φ := φ) (ψ := φ.bare w.heap.size) (fun _ _ h => h) (List.all_eq_true.1 hpa v (List.mem_of_getElem? hi)) hxr⟩⟩
   refine calls_of_wp hf hc (codeT_ok hC (hL c hc) (base := w.heap.size) (φ := φ0) (fun x s hs => ?_) h ⟨fun s u c' hs => ?_, by simp [hA.1]; omega, MemRel.nil w hI, rfl⟩ ?_)
   ·split at hs
    ·cases hs
    ·cases hs
    ·cases hs
    ·split at hs
     ·rename_i v s' c hres
      cases hk : c <;> rw [hk] at hs hres
      ·cases hs
      ·unfold resY at hres
       split at hres
       ·simp only [Option.some.injEq, Prod.mk.injEq] at hres
        exact pubs_mono (and_split hres.2.2).2
       ·cases hres
     ·cases hs
   ·rcases putArgs_get hs with ⟨hc', _, hg⟩ | hg
    ·subst hc'
     simp only [Nat.sub_zero] at hg
     obtain ⟨x, hx, hr⟩ := hA0.2 s u hg
     refine ⟨fun _ => ?_, fun e => by cases e⟩
     have hsz : s < xs.size := (Array.getElem?_eq_some_iff.1 hx).1
     rw [Array.getD_eq_getD_getElem?, Array.getElem?_append_left hsz, hx]
     exact hr
    ·simp [Tr.get] at hg
   ·intro x e s ψ a' w' he h1 hr' hb' h4
    have post : a'.defers = [] ∧ ∃ z, (results fn a'.tmps).run P w' = .ok z w' ∧ (∃ ψ m n x, Ending.returned z = .returned x ∧ (φ.bare w.heap.size).le ψ ∧ MemRel w.heap.size ψ m n w' ∧ VR ψ ⟨t, r⟩ x ∧ Below w.heap.size w w') := by
     have h4 : (match resY C.Θ fn s with | some (v, _, c) => bif c then asT t v else none | none => none) = some r := by
      rcases EX_of he with ⟨rfl, rfl⟩ | ⟨j, rfl, rfl⟩ | ⟨rfl, rfl⟩ | ⟨j, rfl, rfl⟩ | ⟨_, _, rfl, rfl⟩
      ·exact h4
      ·cases h4
      ·exact h4
      ·cases h4
      ·cases h4
     split at h4
     ·rename_i v s' cc hres
      cases hk : cc <;> rw [hk] at h4 hres
      ·cases h4
      ·simp only [cond_true] at h4
       have hv := asT_eq h4
       subst hv
       obtain ⟨χ, hχ, hr2, _, z, hrun, hz⟩ := resY_ok hC.Θ hr' hres
       exact ⟨hr'.defers, z, hrun, χ, _, _, _, rfl, Phi.le_trans (h1.toLe (fun i p hp => by cases hp)) hχ, hr2.mem, hz, hb'⟩
     ·cases h4
    rcases EX_of he with ⟨rfl, rfl⟩ | ⟨j, rfl, rfl⟩ | ⟨rfl, rfl⟩ | ⟨j, rfl, rfl⟩ | ⟨_, _, rfl, rfl⟩
    ·exact post
    ·cases h4
    ·exact post
    ·cases h4
    ·cases h4
theorem SmOK.pure {P : Program} {f : Nat} {g : List V → Option (V × Bool)} (h : ∀ args v, g args = some (v, true) → PureOK P f args v)
 (hval : ∀ args v c, g args = some (v, c) → valV v = true) : SmOK P f (fun args mem nxt => match g args with | some (v, c) => some (v, mem, nxt, c) | none => none) := by
 intro args mem nxt v mem' nxt' hg base φ w xs hm hA
 dsimp only at hg
 split at hg
 ·rename_i v' c hv
  simp only [Option.some.injEq, Prod.mk.injEq] at hg
  obtain ⟨rfl, rfl, rfl, rfl⟩ := hg
  refine (h args v' hv φ w xs hm.imm hA).mono ?_
  rintro e w' ⟨ψ, m, n, x, rfl, h0, h3, h1, h2⟩
  obtain ⟨g1, g2⟩ := hm.back (φ0 := φ.bare w.heap.size) rfl rfl h0 h3 h2
  exact ⟨_, x, rfl, g1, g2, h2.mono hm.base, valV_ok (φ := ψ) (ψ := φ.with ψ.imm) (fun _ _ h => h) (hval _ _ _ hv) h1⟩
 ·cases hg
end Go.GX

namespace Go.GX
set_option linter.unusedSimpArgs false
set_option linter.unusedVariables false
set_option linter.unusedSectionVars false
open Go.RowKit
open Go.ChangeShapes Go.WideShapes Go.ChangeAt
open Go.ChangeMaps (open_string shut_string)
section
variable {H : Type} {enc : TypeId × Value → H} {P : Program} {w : World} {base : Nat} {spare : Nat → Bool} {held : Bool} {Θ : Tab}
theorem cellsOf_eq (hΘ : TabOK P Θ) {t : Nat} {ti : TI} (h : Θ t = some ti) : P.cellsOf t = size ti.ty := by
 obtain ⟨i, z, hi, hs, _⟩ := (hΘ.get h).info
 simp [Program.cellsOf, hi, hs]
theorem CL_single {φ : Phi} {c : Cell} {v : Value} (h : CR φ c v) : CL φ [c] [v] := ⟨rfl, fun i c' hi => by
 cases i with
 | zero => simp at hi; subst hi; exact ⟨v, rfl, h⟩
 | succ i => simp at hi⟩
theorem CL_append {φ : Phi} {a b : List Cell} {u v : List Value} (h : CL φ a u) (k : CL φ b v) : CL φ (a ++ b) (u ++ v) := ⟨by simp [h.1, k.1], fun i c hi => by
 by_cases hlt : i < a.length
 ·rw [List.getElem?_append_left hlt] at hi
  obtain ⟨x, hx, hr⟩ := h.2 i c hi
  exact ⟨x, by rw [List.getElem?_append_left (by rw [h.1]; exact hlt)]; exact hx, hr⟩
 ·rw [List.getElem?_append_right (by omega)] at hi
  obtain ⟨x, hx, hr⟩ := k.2 _ c hi
  exact ⟨x, by rw [List.getElem?_append_right (by rw [h.1]; omega), h.1]; exact hx, hr⟩⟩
end
end Go.GX

namespace Go.GX
set_option linter.unusedSimpArgs false
set_option linter.unusedVariables false
set_option linter.unusedSectionVars false
open Go.RowKit
def kOf : List (Nat × Sm) → Kn
 | [], _ => none
 | (k, g) :: r, f => bif Nat.beq k f then some g else kOf r f
theorem KOK.nil {P : Program} : KOK P (kOf []) := fun f g h => by cases h
theorem KOK.cons {P : Program} {k : Nat} {g : Sm} {r : List (Nat × Sm)} (hc : ∀ args w, (callFunc k args).run P w = .ok (.enter k args) w) (hs : SmOK P k g) (hr : KOK P (kOf r)) : KOK P (kOf ((k, g) :: r)) := fun f g' h => by
 simp only [kOf] at h
 cases hb : Nat.beq k f <;> rw [hb] at h
 ·exact hr f g' h
 ·have := Nat.eq_of_beq_eq_true hb
  subst this
  cases h
  exact ⟨hc, hs⟩
theorem KOK.none {P : Program} : KOK P (fun _ => Option.none) := fun f g h => by cases h
theorem LOK.none {P : Program} {C : Cx} (h : C.L = fun _ => Option.none) (kp : Nat) (c : Code) : LOK P C kp c := fun id b _ f hf => by rw [h] at hf; cases hf
theorem AR_of {φ : Phi} {args : List V} {xs : List Value} (h : xs.length = args.length ∧ ∀ (i : Nat) v, args[i]? = some v → ∃ x, xs[i]? = some x ∧ VR φ v x) : AR φ args xs.toArray :=
 ⟨by simpa using h.1, fun i v hi => by obtain ⟨x, hx, hr⟩ := h.2 i v hi; exact ⟨x, by simpa using hx, hr⟩⟩
def ARL (φ : Phi) (args : List V) (xs : List Value) : Prop := xs.length = args.length ∧ ∀ (i : Nat) v, args[i]? = some v → ∃ x, xs[i]? = some x ∧ VR φ v x
theorem ARL.nil {φ : Phi} : ARL φ [] [] := ⟨rfl, fun i v h => by simp at h⟩
theorem ARL.cons {φ : Phi} {v : V} {x : Value} {args : List V} {xs : List Value} (h : VR φ v x) (hr : ARL φ args xs) : ARL φ (v :: args) (x :: xs) := ⟨by simp [hr.1], fun i u hi => by
 cases i with
 | zero => simp at hi; subst hi; exact ⟨x, rfl, h⟩
 | succ i => simpa using hr.2 i u (by simpa using hi)⟩
def Phi.ofW (w : World) : Phi := ⟨fun _ => Option.none, fun k => w.heap[k]?, w.heap.size⟩
theorem law_calls {P : Program} {f : Nat} {args : List V} {xs : List Value} (h : PureOK P f args ⟨.bool, true⟩) (w : World) (hA : ARL (Phi.ofW w) args xs) :
 Calls P f xs.toArray w fun e w' => e = .returned (.bool true) ∧ Below w.heap.size w w' := by
 refine (h (Phi.ofW w) w xs.toArray (fun _ _ h => h) (AR_of hA)).mono ?_
 rintro e w' ⟨ψ, m, n, x, rfl, _, _, h1, h2⟩
 have h1 := VR_bool.1 h1
 subst h1
 exact ⟨rfl, h2⟩
end Go.GX

namespace Go.GX
set_option linter.unusedSimpArgs false
set_option linter.unusedVariables false
set_option linter.unusedSectionVars false
open Go.RowKit (Below)
def noDup : List Nat → Bool
 | [] => true
 | x :: r => !(r.contains x) && noDup r
theorem noDup_cons {x : Nat} {r : List Nat} (h : noDup (x :: r) = true) : x ∉ r ∧ noDup r = true := by
 simp only [noDup, Bool.and_eq_true, Bool.not_eq_true', List.contains_eq_mem, decide_eq_false_iff_not] at h
 exact h
theorem noDup_append {a b : List Nat} (h : noDup (a ++ b) = true) : noDup a = true ∧ noDup b = true ∧ ∀ x ∈ a, x ∉ b := by
 induction a with
 | nil => exact ⟨rfl, h, fun x hx => by cases hx⟩
 | cons x r ih =>
  obtain ⟨h1, h2⟩ := noDup_cons (x := x) (r := r ++ b) h
  obtain ⟨g1, g2, g3⟩ := ih h2
  refine ⟨?_, g2, fun y hy => ?_⟩
  ·simp only [noDup, Bool.and_eq_true, Bool.not_eq_true', List.contains_eq_mem, decide_eq_false_iff_not]
   exact ⟨fun hx => h1 (by simp [hx]), g1⟩
  ·rcases List.mem_cons.1 hy with rfl | hy
   ·exact fun hb => h1 (by simp [hb])
   ·exact g3 y hy
inductive Dk where
 | v (t : Ty)
 | own (c : Nat) (e : Ty)
 | mp (c : Nat) (K E : Ty)
 | pr (a b : Dk)
@[reducible] def Dk.ty : Dk → Ty
 | .v t => t
 | .own _ _ => .slice
 | .mp _ _ _ => .map
 | .pr a b => .pair a.ty b.ty
@[reducible] def Dk.den : Dk → Type
 | .v t => t.den
 | .own _ e => List e.den
 | .mp _ K E => List (MT K E).den
 | .pr a b => a.den × b.den
def Dk.dflt : (D : Dk) → D.den
 | .v t => GX.dflt t
 | .own _ _ => []
 | .mp _ _ _ => []
 | .pr a b => (a.dflt, b.dflt)
def Dk.nms : Dk → List Nat
 | .v _ => []
 | .own c _ => [c]
 | .mp c _ _ => [c]
 | .pr a b => a.nms ++ b.nms
def Dk.plain : Dk → Bool
 | .v t => valT t
 | .own _ e => valT e
 | .mp _ K E => valT K && valT E
 | .pr a b => a.plain && b.plain
def Dk.mk : (D : Dk) → D.den → D.ty.den
 | .v _, x => x
 | .own c _, x => some ⟨c, [], 0, x.length, none⟩
 | .mp c _ _, _ => some c
 | .pr a b, x => (a.mk x.1, b.mk x.2)
def Dk.blks : (D : Dk) → D.den → Mem
 | .v _, _ => []
 | .own c e, x => [(c, ⟨e, x.length, x, true⟩)]
 | .mp c K E, x => [(c, ⟨MT K E, 0, x, true⟩)]
 | .pr a b, x => a.blks x.1 ++ b.blks x.2
def ownB (q : SL) (b : Blk) (e : Ty) : Option (List e.den × Bool × List Nat) :=
 if h : b.t = e then some (h ▸ sec (GX.dflt b.t) b.row q.start q.len, !(Nat.beq q.start MARK) && (b.wr && (decide (q.start + q.len ≤ b.n) && (match q.cap with | some k => decide (q.start + k ≤ b.n) | none => true))), [q.id]) else none
def ownRd (mem : Mem) (e : Ty) (q : Option SL) : Option (List e.den × Bool × List Nat) :=
 match q with
 | none => some ([], true, [])
 | some q => match q.path, Mem.getC mem q.id with
  | [], some b => ownB q b e
  | _, _ => none
def mpRd (mem : Mem) (K E : Ty) (q : Option Nat) : Option (List (MT K E).den × Bool × List Nat) :=
 match q with
 | none => none
 | some j => match Mem.get mem j with
  | some b => match asBlk (MT K E) b with
   | some row => some (row, b.wr && Nat.beq b.n 0, [j])
   | none => none
  | none => none
def anyIn : List Nat → List Nat → Bool
 | [], _ => false
 | x :: r, l => l.contains x || anyIn r l
theorem anyIn_f {a b : List Nat} (h : anyIn a b = false) : ∀ x ∈ a, x ∉ b := by
 induction a with
 | nil => intro x hx; cases hx
 | cons y r ih =>
  simp only [anyIn, Bool.or_eq_false_iff, List.contains_eq_mem, decide_eq_false_iff_not] at h
  intro x hx
  rcases List.mem_cons.1 hx with rfl | hx
  ·exact h.1
  ·exact ih h.2 x hx
def Dk.rd (mem : Mem) : (D : Dk) → D.ty.den → Option (D.den × Bool × List Nat)
 | .v _, x => some (x, true, [])
 | .own _ e, q => ownRd mem e q
 | .mp _ K E, q => mpRd mem K E q
 | .pr a b, x => match a.rd mem x.1, b.rd mem x.2 with
  | some (y, c, u), some (z, d, w) => bif anyIn u w then none else some ((y, z), c && d, u ++ w)
  | _, _ => none
def qPh (φ : Phi) (q : SL) (v : Value) (e : Ty) : Option Phys :=
 match φ q.id, v with
 | some ph, .slice (some _) _ c => if 0 < c then some ⟨ph.blk, ph.off + q.start * size e, e, c⟩ else none
 | _, _ => none
def qPhO (φ : Phi) (q : Option SL) (v : Value) (e : Ty) : Option Phys := match q with | some q => qPh φ q v e | none => none
def mPhO (φ : Phi) (q : Option Nat) : Option Phys := match q with | some j => φ j | none => none
def Dk.ph (φ : Phi) (val : Nat → Value) : (D : Dk) → D.ty.den → Nat → Nat → Option Phys
 | .v _, _, _, _ => none
 | .own _ e, q, k, _ => qPhO φ q (val k) e
 | .mp _ _ _, q, _, _ => mPhO φ q
 | .pr a b, x, k, i => if i ∈ a.nms then a.ph φ val x.1 k i else b.ph φ val x.2 (k + size a.ty) i
def BlkAt (base : Nat) (φ ψ : Phi) (mem : Mem) (w : World) (u : List Nat) (i : Nat) (b : Blk) : Prop :=
 (ψ i = none ∧ b.n = 0) ∨ ∃ ph, ψ i = some ph ∧ BlkRel base ψ ph b w ∧ ∃ i0 b0 ph0, i0 ∈ u ∧ Mem.get mem i0 = some b0 ∧ (b.wr = true → b0.wr = true) ∧ φ i0 = some ph0 ∧ ph0.blk = ph.blk
theorem BlkAt.more {base : Nat} {φ ψ : Phi} {mem : Mem} {w : World} {u u' : List Nat} {i : Nat} {b : Blk} (h : BlkAt base φ ψ mem w u i b) (hu : ∀ x ∈ u, x ∈ u') : BlkAt base φ ψ mem w u' i b :=
 h.imp id (fun ⟨ph, k1, k2, i0, b0, ph0, k3, k4⟩ => ⟨ph, k1, k2, i0, b0, ph0, hu _ k3, k4⟩)
theorem CR_imm2 {φ ψ : Phi} (h : ψ.imm = φ.imm) {t : Ty} (ht : valT t = true) {x : t.den} {c : Cell} {i : Nat} (hc : (flat t x)[i]? = some c) {v : Value} (hr : CR φ c v) : CR ψ c v :=
 CR_imm (fun k o hk => by rw [h]; exact hk) (val_cells ht c (List.mem_of_getElem? hc)) hr
theorem own_sound {base : Nat} {φ ψ : Phi} {mem : Mem} {nxt : Nat} {w : World} (hm : MemRel base φ mem nxt w) (himm : ψ.imm = φ.imm) {e : Ty} (hT : valT e = true) {q : Option SL} {y : List e.den} {u : List Nat} (h : ownRd mem e q = some (y, true, u)) {v : Value}
 (hv : CR φ (.c0 (.slice q)) v) {c : Nat} (hc : ψ c = qPhO φ q v e) :
 SR ψ ⟨c, [], 0, y.length, none⟩ v ∧ BlkAt base φ ψ mem w u c ⟨e, y.length, y, true⟩ := by
 unfold CR at hv
 cases q with
 | none =>
  simp only [ownRd, Option.some.injEq, Prod.mk.injEq] at h
  obtain ⟨rfl, _, rfl⟩ := h
  have hv : v = .slice none 0 0 := hv
  exact ⟨.inl ⟨rfl, rfl, hv⟩, .inl ⟨hc, rfl⟩⟩
 | some q =>
  have hvv : SR φ q v := hv
  have hc : ψ c = qPh φ q v e := hc
  simp only [ownRd] at h
  split at h
  ·rename_i b hqp hb
   obtain ⟨hb, hbnt⟩ := Mem.getC_spec hb
   unfold ownB at h
   split at h
   ·rename_i hbt
    simp only [Option.some.injEq, Prod.mk.injEq] at h
    obtain ⟨rfl, hok, rfl⟩ := h
    rw [Bool.and_eq_true, Bool.and_eq_true, Bool.and_eq_true] at hok
    obtain ⟨hmk, hwr, hle, hcap⟩ := hok
    have hnv : ¬ VD q := VD.start (by simpa using hmk)
    have hle := of_decide_eq_true hle
    obtain ⟨bt, bn, brow, bwr⟩ := b
    simp only at hbt hwr hle hcap
    subst hbt
    subst hwr
    have empty : qPh φ q v bt = none → q.len = 0 → SR ψ ⟨c, [], 0, (sec (GX.dflt bt) brow q.start q.len).length, none⟩ v → SR ψ ⟨c, [], 0, (sec (GX.dflt bt) brow q.start q.len).length, none⟩ v ∧ BlkAt base φ ψ mem w [q.id] c ⟨bt, (sec (GX.dflt bt) brow q.start q.len).length, sec (GX.dflt bt) brow q.start q.len, true⟩ :=
     fun h1 h2 h3 => ⟨h3, .inl ⟨hc.trans h1, by show (sec _ _ _ _).length = 0; rw [length_sec]; exact h2⟩⟩
    rcases hvv with ⟨hl0, _, hv⟩ | ⟨ad, cc, hv, hlc, hck, hcn, had⟩
    ·exact empty (by unfold qPh; rw [hv]; cases φ q.id <;> rfl) hl0 (.inl ⟨by simp only [length_sec]; exact hl0, rfl, hv⟩)
    ·rcases Nat.eq_zero_or_pos cc with h0 | hpos
     ·have hl0 : q.len = 0 := by omega
      refine empty (by unfold qPh; rw [hv]; cases φ q.id <;> simp [h0]) hl0 (.inr ⟨ad, cc, ?_, ?_, fun k hk => (by cases hk), fun _ hc _ => (by omega), fun hc _ => (by omega)⟩)
      ·simp only [length_sec]; exact hv
      ·simp only [length_sec]; exact hlc
     ·have ha := had hpos hnv
      obtain ⟨ph, hph⟩ := addr_phys ha
      simp only at hph
      have hbr := hm.blkAt hb hph
      obtain ⟨cs, el, fr, g1, g2, g3⟩ := hbr.cells hbnt
      obtain ⟨hbs, rfl, him, hbcap, hsz⟩ := g3 rfl
      have hsome : ψ c = some ⟨ph.blk, ph.off + q.start * size bt, bt, cc⟩ := by
       rw [hc]; unfold qPh; rw [hph, hv]; simp only; rw [if_pos hpos]
      have hcap2 : q.start + cc ≤ ph.cap := by
       cases hqc : q.cap with
       | none =>
        obtain ⟨ph', hp', _, he'⟩ := hcn hqc hpos hnv
        rw [hph] at hp'; cases hp'
        omega
       | some k =>
        have := hck k hqc
        rw [hqc] at hcap
        simp only [decide_eq_true_eq] at hcap
        simp only at hbcap
        omega
      have hadd : ad = ⟨ph.blk, ph.off + q.start * size bt, none⟩ := by
       unfold addr at ha
       have h00 : offs bt [] = some 0 := by cases bt <;> rfl
       simp only [hph, hqp, List.nil_append, hbr.t] at ha
       simp only [offs, h00, Option.map_some, Nat.add_zero, Option.some.injEq] at ha
       exact ha.symm
      have hnb : BlkRel base ψ ⟨ph.blk, ph.off + q.start * size bt, bt, cc⟩ ⟨bt, (sec (GX.dflt bt) brow q.start q.len).length, sec (GX.dflt bt) brow q.start q.len, true⟩ w := by
       refine ⟨rfl, fun _ => ⟨hbs, by rw [himm]; exact him⟩, MpRel.plain hbnt _, fun _ => ⟨cs, el, (0, 0), g1, fun k d hk => ?_, fun _ => ⟨hbs, rfl, by rw [himm]; exact him, by simp only [length_sec]; exact hlc, ?_⟩⟩⟩
       ·have hk0 : (flat (.arr q.len bt) (sec (GX.dflt bt) brow q.start q.len))[k]? = some d := by
         have hk' : (flat (.arr (sec (GX.dflt bt) brow q.start q.len).length bt) (sec (GX.dflt bt) brow q.start q.len))[k]? = some d := hk
         rwa [length_sec] at hk'
        have hlt := (List.getElem?_eq_some_iff.1 hk0).1
        rw [length_flat, size] at hlt
        have hposz : 0 < size bt := by
         rcases Nat.eq_zero_or_pos (size bt) with h0 | h0
         ·rw [h0] at hlt; omega
         ·exact h0
        have hq : k / size bt < q.len := Nat.div_lt_of_lt_mul (by rw [Nat.mul_comm]; exact hlt)
        have hrr : k % size bt < size bt := Nat.mod_lt _ hposz
        have hkk : k = k / size bt * size bt + k % size bt := by rw [Nat.mul_comm]; exact (Nat.div_add_mod k (size bt)).symm
        have hk1 := hk0
        rw [flat, hkk, get_flatMap_const _ (size bt) (fun i => length_flat bt _) _ _ _ hq hrr, getD_sec _ _ _ _ _ hq] at hk1
        obtain ⟨v', hv', hvr⟩ := g2 ((q.start + k / size bt) * size bt + k % size bt) d (by
         show (flat (.arr bn bt) brow)[_]? = some d
         rw [flat, get_flatMap_const _ (size bt) (fun i => length_flat bt _) _ _ _ (by omega) hrr]; exact hk1)
        refine ⟨v', ?_, CR_imm2 himm (t := bt) hT hk1 hvr⟩
        rw [← hv']
        congr 1
        show ph.off + q.start * size bt + k = _
        rw [Nat.add_mul]; omega
       ·simp only at hsz ⊢
        have : (q.start + cc) * size bt ≤ ph.cap * size bt := Nat.mul_le_mul_right _ hcap2
        rw [Nat.add_mul] at this
        omega
      refine ⟨.inr ⟨ad, cc, by simp only [length_sec]; exact hv, by simp only [length_sec]; exact hlc, fun k hk => (by cases hk), fun _ _ _ => ⟨_, hsome, rfl, by simp⟩, fun _ _ => ?_⟩, .inr ⟨_, hsome, hnb, q.id, _, ph, by simp, hb, fun _ => rfl, hph, rfl⟩⟩
      unfold addr
      simp only [hsome]
      have h00 : offs bt [] = some 0 := by cases bt <;> rfl
      simp [offs, h00, hadd]
   ·cases h
  ·cases h
theorem V1_imm2 {φ ψ : Phi} (h : ψ.imm = φ.imm) {t : Ty} (ht : valT t = true) {x : t.den} {v : Value} (hr : V1 φ t x v) : V1 ψ t x v := by
 unfold V1 at hr ⊢
 split
 ·rename_i ha
  rw [if_pos ha] at hr
  obtain ⟨l, e, h1, h2⟩ := hr
  exact ⟨l, e, h1, fun i c hi => by obtain ⟨v, hv, hx⟩ := h2 i c hi; exact ⟨v, hv, CR_imm2 h ht hi hx⟩⟩
 ·rename_i ha
  rw [if_neg ha] at hr
  obtain ⟨c, e, h1⟩ := hr
  exact ⟨c, e, CR_imm2 h ht (i := 0) (by rw [e]; rfl) h1⟩
theorem mp_sound {base : Nat} {φ ψ : Phi} {mem : Mem} {nxt : Nat} {w : World} (hm : MemRel base φ mem nxt w) (himm : ψ.imm = φ.imm) {K E : Ty} (hK : valT K = true) (hE : valT E = true) {q : Option Nat} {y : List (MT K E).den} {u : List Nat} (h : mpRd mem K E q = some (y, true, u)) {v : Value}
 (hv : CR φ (.c0 (.map q)) v) {c : Nat} (hc : ψ c = mPhO φ q) :
 CR ψ (.c0 (.map (some c))) v ∧ BlkAt base φ ψ mem w u c ⟨MT K E, 0, y, true⟩ := by
 unfold CR at hv ⊢
 cases q with
 | none => cases h
 | some j =>
  simp only [mpRd] at h
  split at h
  ·rename_i b hb
   split at h
   ·rename_i row hrow
    simp only [Option.some.injEq, Prod.mk.injEq] at h
    obtain ⟨rfl, hok, rfl⟩ := h
    obtain ⟨hwr, hn⟩ := and_split hok
    have hn := Nat.eq_of_beq_eq_true hn
    have hbe := asBlk_eq hrow
    rw [hwr, hn] at hbe
    subst hbe
    obtain ⟨ph, hp, hvv⟩ := hv
    have hbr := hm.blkAt hb hp
    have hcs : ψ c = some ph := by rw [hc]; exact hp
    refine ⟨⟨ph, hcs, hvv⟩, .inr ⟨ph, hcs, ⟨hbr.t, fun hw => ?_, ?_, fun ht => by cases ht⟩, j, _, ph, by simp, hb, fun _ => rfl, hp, rfl⟩⟩
    ·obtain ⟨h1, h2⟩ := hbr.own hw
     exact ⟨h1, by rw [himm]; exact h2⟩
    ·obtain ⟨es, clock, h1, h2, h3, h4⟩ := hbr.mp
     exact ⟨es, clock, h1, h2, fun i x hx => (by
      obtain ⟨e, he, k1, k2⟩ := h3 i x hx
      exact ⟨e, he, V1_imm2 himm hK k1, V1_imm2 himm hE k2⟩), h4⟩
   ·cases h
  ·cases h
theorem Mem.get_append {a b : Mem} {i : Nat} : Mem.get (a ++ b) i = match Mem.get a i with | some x => some x | none => Mem.get b i := by
 induction a with
 | nil => rfl
 | cons p r ih =>
  obtain ⟨k, c⟩ := p
  simp only [List.cons_append, Mem.get_cons]
  by_cases e : i = k
  ·rw [if_pos e, if_pos e]
  ·rw [if_neg e, if_neg e]; exact ih
theorem Dk.get_blks : ∀ {D : Dk} {y : D.den} {i : Nat} {b : Blk}, Mem.get (D.blks y) i = some b → i ∈ D.nms
 | .v _, y, i, b, h => by simp [Dk.blks, Mem.get] at h
 | .own c e, y, i, b, h => by
  simp only [Dk.blks, Mem.get_cons] at h
  by_cases e : i = c
  ·simp [Dk.nms, e]
  ·rw [if_neg e] at h; cases h
 | .mp c K E, y, i, b, h => by
  simp only [Dk.blks, Mem.get_cons] at h
  by_cases e : i = c
  ·simp [Dk.nms, e]
  ·rw [if_neg e] at h; cases h
 | .pr a b, y, i, b', h => by
  simp only [Dk.blks, Mem.get_append] at h
  simp only [Dk.nms, List.mem_append]
  split at h
  ·rename_i x hx
   exact .inl (Dk.get_blks hx)
  ·exact .inr (Dk.get_blks h)
theorem blks_wr : ∀ {D : Dk} {y : D.den} {c : Nat} {b : Blk}, Mem.get (D.blks y) c = some b → b.wr = true
 | .v _, y, c, b, h => by simp [Dk.blks, Mem.get] at h
 | .own c0 e, y, c, b, h => by
  simp only [Dk.blks, Mem.get_cons] at h
  by_cases e : c = c0
  ·rw [if_pos e] at h; cases h; rfl
  ·rw [if_neg e] at h; cases h
 | .mp c0 K E, y, c, b, h => by
  simp only [Dk.blks, Mem.get_cons] at h
  by_cases e : c = c0
  ·rw [if_pos e] at h; cases h; rfl
  ·rw [if_neg e] at h; cases h
 | .pr a b, y, c, b', h => by
  simp only [Dk.blks, Mem.get_append] at h
  split at h
  ·rename_i x hx; cases h; exact blks_wr hx
  ·exact blks_wr h
theorem apart_src {base : Nat} {φ ψ : Phi} {mem : Mem} {nxt : Nat} {w : World} (hm : MemRel base φ mem nxt w) {u1 u2 : List Nat} (hd : ∀ x ∈ u1, x ∉ u2) {i j : Nat} {bi bj : Blk} {pi pj : Phys} (h1 : BlkAt base φ ψ mem w u1 i bi) (h2 : BlkAt base φ ψ mem w u2 j bj)
 (hw : bi.wr = true ∨ bj.wr = true) (hpi : ψ i = some pi) (hpj : ψ j = some pj) : pi.blk ≠ pj.blk := by
 rcases h1 with ⟨g, _⟩ | ⟨p1, k1, _, i1, c1, q1, k3, k4, k5, k6, k7⟩
 ·rw [hpi] at g; cases g
 ·rcases h2 with ⟨g, _⟩ | ⟨p2, l1, _, i2, c2, q2, l3, l4, l5, l6, l7⟩
  ·rw [hpj] at g; cases g
  ·rw [hpi] at k1; cases k1
   rw [hpj] at l1; cases l1
   rw [← k7, ← l7]
   rcases hw with hw | hw
   ·exact hm.apart i1 i2 c1 c2 q1 q2 k4 l4 (fun e => hd i1 k3 (e ▸ l3)) (k5 hw) k6 l6
   ·exact (hm.apart i2 i1 c2 c1 q2 q1 l4 k4 (fun e => hd i1 k3 (e ▸ l3)) (l5 hw) l6 k6).symm
structure MemAt (base : Nat) (φ ψ : Phi) (mem : Mem) (w : World) (u : List Nat) (A : Mem) : Prop where
 at_ : ∀ i b, Mem.get A i = some b → BlkAt base φ ψ mem w u i b
 apart : ∀ i j b b' ph ph', Mem.get A i = some b → Mem.get A j = some b' → i ≠ j → b.wr = true → ψ i = some ph → ψ j = some ph' → ph.blk ≠ ph'.blk
theorem MemAt.append {base : Nat} {φ ψ : Phi} {mem : Mem} {nxt : Nat} {w : World} (hm : MemRel base φ mem nxt w) {u1 u2 : List Nat} (hd : ∀ x ∈ u1, x ∉ u2) {A B : Mem} (ha : MemAt base φ ψ mem w u1 A) (hb : MemAt base φ ψ mem w u2 B) : MemAt base φ ψ mem w (u1 ++ u2) (A ++ B) := by
 refine ⟨fun i b hi => ?_, fun i j b b' ph ph' hi hj hij hw hp hp' => ?_⟩
 ·rw [Mem.get_append] at hi
  split at hi
  ·rename_i x hx
   cases hi
   exact (ha.at_ i b hx).more (fun x hx => by simp [hx])
  ·exact (hb.at_ i b hi).more (fun x hx => by simp [hx])
 ·rw [Mem.get_append] at hi hj
  cases g1 : Mem.get A i with
  | some x1 =>
   rw [g1] at hi; cases hi
   cases g2 : Mem.get A j with
   | some x2 => exact ha.apart i j b x2 ph ph' g1 g2 hij hw hp hp'
   | none =>
    rw [g2] at hj
    exact apart_src hm hd (ha.at_ i b g1) (hb.at_ j b' hj) (.inl hw) hp hp'
  | none =>
   rw [g1] at hi
   cases g2 : Mem.get A j with
   | some x2 => exact (apart_src hm hd (ha.at_ j x2 g2) (hb.at_ i b hi) (.inr hw) hp' hp).symm
   | none =>
    rw [g2] at hj
    exact hb.apart i j b b' ph ph' hi hj hij hw hp hp'
theorem MemAt.one {base : Nat} {φ ψ : Phi} {mem : Mem} {w : World} {u : List Nat} {i : Nat} {b : Blk} (h : BlkAt base φ ψ mem w u i b) : MemAt base φ ψ mem w u [(i, b)] := by
 refine ⟨fun j b' hj => ?_, fun j k b1 b2 p1 p2 hj hk hjk => ?_⟩
 ·simp only [Mem.get_cons] at hj
  by_cases e : j = i
  ·rw [if_pos e] at hj; cases hj; subst e; exact h
  ·rw [if_neg e] at hj; cases hj
 ·simp only [Mem.get_cons] at hj hk
  by_cases e : j = i
  ·by_cases e' : k = i
   ·exact absurd (e.trans e'.symm) hjk
   ·rw [if_neg e'] at hk; cases hk
  ·rw [if_neg e] at hj; cases hj
theorem Dk.sound {base : Nat} {φ ψ : Phi} {mem : Mem} {nxt : Nat} {w : World} (hm : MemRel base φ mem nxt w) (himm : ψ.imm = φ.imm) {val : Nat → Value} :
 ∀ {D : Dk} {x0 : D.ty.den} {y : D.den} {u : List Nat} {k0 : Nat}, D.rd mem x0 = some (y, true, u) → D.plain = true → noDup D.nms = true →
  (∀ j c, (flat D.ty x0)[j]? = some c → CR φ c (val (k0 + j))) → (∀ c ∈ D.nms, ψ c = D.ph φ val x0 k0 c) →
  (∀ j c, (flat D.ty (D.mk y))[j]? = some c → CR ψ c (val (k0 + j))) ∧ (∀ i b, Mem.get (D.blks y) i = some b → BlkAt base φ ψ mem w u i b) ∧
  (∀ i j b b' ph ph', Mem.get (D.blks y) i = some b → Mem.get (D.blks y) j = some b' → i ≠ j → ψ i = some ph → ψ j = some ph' → ph.blk ≠ ph'.blk)
 | .v t, x0, y, u, k0, h, hp, hd, hc, hn => by
  simp only [Dk.rd, Option.some.injEq, Prod.mk.injEq] at h
  obtain ⟨rfl, _, rfl⟩ := h
  refine ⟨fun j c hj => CR_imm2 himm (t := t) hp hj (hc j c hj), fun i b hi => ?_, fun i j b b' ph ph' hi => ?_⟩
  ·simp [Dk.blks, Mem.get] at hi
  ·simp [Dk.blks, Mem.get] at hi
 | .own c e, x0, y, u, k0, h, hp, hd, hc, hn => by
  have h0 := hc 0 (.c0 (.slice x0)) rfl
  obtain ⟨h1, h2⟩ := own_sound hm himm hp h h0 (c := c) (by
   rw [hn c (by simp [Dk.nms])]
   rfl)
  refine ⟨fun j d hj => ?_, fun i b hi => ?_, fun i j b b' ph ph' hi hj hij => ?_⟩
  ·cases j with
   | zero =>
    simp only [Dk.mk, flat, List.getElem?_cons_zero, Option.some.injEq] at hj
    subst hj
    unfold CR
    exact h1
   | succ j => simp [Dk.mk, flat] at hj
  ·simp only [Dk.blks, Mem.get_cons] at hi
   by_cases e : i = c
   ·rw [if_pos e] at hi; cases hi; subst e; exact h2
   ·rw [if_neg e] at hi; cases hi
  ·simp only [Dk.blks, Mem.get_cons] at hi hj
   by_cases e : i = c
   ·by_cases e' : j = c
    ·exact absurd (e.trans e'.symm) hij
    ·rw [if_neg e'] at hj; cases hj
   ·rw [if_neg e] at hi; cases hi
 | .mp c K E, x0, y, u, k0, h, hp, hd, hc, hn => by
  have h0 := hc 0 (.c0 (.map x0)) rfl
  obtain ⟨hK, hE⟩ := and_split hp
  obtain ⟨h1, h2⟩ := mp_sound hm himm hK hE h h0 (c := c) (by
   rw [hn c (by simp [Dk.nms])]
   rfl)
  refine ⟨fun j d hj => ?_, fun i b hi => ?_, fun i j b b' ph ph' hi hj hij => ?_⟩
  ·cases j with
   | zero =>
    simp only [Dk.mk, flat, List.getElem?_cons_zero, Option.some.injEq] at hj
    subst hj
    exact h1
   | succ j => simp [Dk.mk, flat] at hj
  ·simp only [Dk.blks, Mem.get_cons] at hi
   by_cases e : i = c
   ·rw [if_pos e] at hi; cases hi; subst e; exact h2
   ·rw [if_neg e] at hi; cases hi
  ·simp only [Dk.blks, Mem.get_cons] at hi hj
   by_cases e : i = c
   ·by_cases e' : j = c
    ·exact absurd (e.trans e'.symm) hij
    ·rw [if_neg e'] at hj; cases hj
   ·rw [if_neg e] at hi; cases hi
 | .pr a b, x0, y, u, k0, h, hp, hd, hc, hn => by
  simp only [Dk.rd] at h
  split at h
  ·rename_i y1 c1 u1 y2 c2 u2 ha hb
   cases hi : anyIn u1 u2 <;> rw [hi] at h
   ·simp only [cond_false, Option.some.injEq, Prod.mk.injEq] at h
    obtain ⟨rfl, hok, rfl⟩ := h
    obtain ⟨rfl, rfl⟩ := and_split hok
    obtain ⟨hpa, hpb⟩ := and_split hp
    obtain ⟨hda, hdb, hdis⟩ := noDup_append hd
    obtain ⟨a1, a2, a3⟩ := Dk.sound hm himm (D := a) (k0 := k0) ha hpa hda (fun j c hj => hc j c (by
     simp only [flat]
     rw [List.getElem?_append_left (List.getElem?_eq_some_iff.1 hj).1]; exact hj)) (fun c hcm => by
     rw [hn c (by simp [Dk.nms, hcm])]
     simp only [Dk.ph, if_pos hcm])
    obtain ⟨b1, b2, b3⟩ := Dk.sound hm himm (D := b) (k0 := k0 + size a.ty) hb hpb hdb (fun j c hj => by
     have := hc (size a.ty + j) c (by
      simp only [flat]
      rw [List.getElem?_append_right (by rw [length_flat]; omega), length_flat]
      rw [show size a.ty + j - size a.ty = j by omega]; exact hj)
     rwa [← Nat.add_assoc] at this) (fun c hcm => by
     rw [hn c (by simp [Dk.nms, hcm])]
     simp only [Dk.ph]
     rw [if_neg (fun h => hdis c h hcm)])
    refine ⟨fun j c hj => ?_, fun i b' hi' => ?_, fun i j b1' b2' ph ph' hi' hj' hij hp1 hp2 => ?_⟩
    ·simp only [Dk.mk, flat] at hj
     rcases Nat.lt_or_ge j (size a.ty) with hlt | hge
     ·rw [List.getElem?_append_left (by rw [length_flat]; exact hlt)] at hj
      exact a1 j c hj
     ·rw [List.getElem?_append_right (by rw [length_flat]; exact hge), length_flat] at hj
      have := b1 (j - size a.ty) c hj
      rwa [show k0 + size a.ty + (j - size a.ty) = k0 + j by omega] at this
    ·simp only [Dk.blks, Mem.get_append] at hi'
     split at hi'
     ·rename_i x hx
      cases hi'
      exact (a2 i b' hx).more (fun x hx => by simp [hx])
     ·exact (b2 i b' hi').more (fun x hx => by simp [hx])
    ·have src : ∀ {i j : Nat} {bi bj : Blk} {pi pj : Phys}, BlkAt base φ ψ mem w u1 i bi → BlkAt base φ ψ mem w u2 j bj → bi.wr = true → ψ i = some pi → ψ j = some pj → pi.blk ≠ pj.blk := by
      intro i j bi bj pi pj h1 h2 hw hpi hpj
      rcases h1 with ⟨g, _⟩ | ⟨p1, k1, _, i1, c1, q1, k3, k4, k5, k6, k7⟩
      ·rw [hpi] at g; cases g
      ·rcases h2 with ⟨g, _⟩ | ⟨p2, l1, _, i2, c2, q2, l3, l4, l5, l6, l7⟩
       ·rw [hpj] at g; cases g
       ·rw [hpi] at k1; cases k1
        rw [hpj] at l1; cases l1
        rw [← k7, ← l7]
        exact hm.apart i1 i2 c1 c2 q1 q2 k4 l4 (fun e => anyIn_f hi i1 k3 (e ▸ l3)) (k5 hw) k6 l6
     simp only [Dk.blks, Mem.get_append] at hi' hj'
     cases g1 : Mem.get (a.blks y1) i with
     | some x1 =>
      cases g2 : Mem.get (a.blks y1) j with
      | some x2 => exact a3 i j x1 x2 ph ph' g1 g2 hij hp1 hp2
      | none =>
       rw [g2] at hj'
       exact src (a2 i x1 g1) (b2 j b2' hj') (blks_wr g1) hp1 hp2
     | none =>
      rw [g1] at hi'
      cases g2 : Mem.get (a.blks y1) j with
      | some x2 => exact (src (a2 j x2 g2) (b2 i b1' hi') (blks_wr g2) hp2 hp1).symm
      | none =>
       rw [g2] at hj'
       exact b3 i j b1' b2' ph ph' hi' hj' hij hp1 hp2
   ·cases h
  ·cases h
theorem Dk.ph_lt {φ : Phi} {val : Nat → Value} {N : Nat} (hm : ∀ i ph, φ i = some ph → ph.blk < N) : ∀ {D : Dk} {x : D.ty.den} {k i : Nat} {p : Phys}, D.ph φ val x k i = some p → p.blk < N
 | .v _, x, k, i, p, h => by cases h
 | .own _ e, x, k, i, p, h => by
  simp only [Dk.ph, qPhO] at h
  split at h
  ·unfold qPh at h
   split at h
   ·rename_i ph _ _ _ h0 _
    split at h
    ·cases h; exact hm _ ph h0
    ·cases h
   ·cases h
  ·cases h
 | .mp _ _ _, x, k, i, p, h => by
  simp only [Dk.ph, mPhO] at h
  split at h
  ·exact hm _ p h
  ·cases h
 | .pr a b, x, k, i, p, h => by
  simp only [Dk.ph] at h
  split at h
  ·exact Dk.ph_lt hm h
  ·exact Dk.ph_lt hm h
def cellAt (w : World) (blk k : Nat) : Value := match w.heap[blk]? with | some (.cells cs _ _) => (cs[k]?).getD undef | _ => undef
def obRd0 (mem : Mem) (i : Nat) (D : Dk) (b : Blk) : Option (D.den × Bool × List Nat) :=
 if h : b.t = D.ty then (match D.rd mem (h ▸ b.row.getD 0 (GX.dflt b.t)) with
  | some (x, c, v) => bif v.contains i then none else some (x, b.wr && (Nat.beq b.n 1 && c), i :: v)
  | none => none) else none
def obRd (mem : Mem) (i : Nat) (D : Dk) (b : Blk) : Option (D.den × Bool × List Nat) := bif b.wr then obRd0 mem i D b else none
theorem obRd_0 {mem : Mem} {i : Nat} {D : Dk} {b : Blk} {r : D.den × Bool × List Nat} (h : obRd mem i D b = some r) : obRd0 mem i D b = some r := by
 unfold obRd at h
 cases hw : b.wr <;> rw [hw] at h
 ·cases h
 ·exact h
def obPh (φ : Phi) (st : Mem) (w : World) (i : Nat) (D : Dk) (c : Nat) : Option Phys :=
 match φ i, Mem.getC st i with
 | some ph, some b => if h : b.t = D.ty then D.ph φ (fun k => cellAt w ph.blk (ph.off + k)) (h ▸ b.row.getD 0 (GX.dflt b.t)) 0 c else none
 | _, _ => none
theorem obPh_lt {φ : Phi} {st : Mem} {w : World} {i : Nat} {D : Dk} {c : Nat} {N : Nat} (hm : ∀ i ph, φ i = some ph → ph.blk < N) {p : Phys} (h : obPh φ st w i D c = some p) : p.blk < N := by
 unfold obPh at h
 split at h
 ·split at h
  ·exact Dk.ph_lt hm h
  ·cases h
 ·cases h
theorem ob_sound {base : Nat} {φ ψ : Phi} {mem : Mem} {nxt : Nat} {w : World} (hm : MemRel base φ mem nxt w) (himm : ψ.imm = φ.imm) {i : Nat} {D : Dk} {b : Blk} (hb : Mem.getC mem i = some b) {x : D.den} {u : List Nat} (h : obRd mem i D b = some (x, true, u)) (hp : D.plain = true)
 (hd : noDup D.nms = true) {i' : Nat} (hi : ψ i' = φ i) (hn : ∀ c ∈ D.nms, ψ c = obPh φ mem w i D c) : MemAt base φ ψ mem w u ((i', ⟨D.ty, 1, [D.mk x], true⟩) :: D.blks x) := by
 have hb0 := hb
 obtain ⟨hb, hbnt⟩ := Mem.getC_spec hb
 replace h := obRd_0 h
 unfold obRd0 at h
 split at h
 ·rename_i ht
  split at h
  ·rename_i x' c v hrd
   cases hc : v.contains i <;> rw [hc] at h
   ·simp only [cond_false, Option.some.injEq, Prod.mk.injEq] at h
    obtain ⟨rfl, hok, rfl⟩ := h
    obtain ⟨hwr, hok⟩ := and_split hok
    obtain ⟨hn1, rfl⟩ := and_split hok
    obtain ⟨bt, bn, brow, bwr⟩ := b
    simp only at ht hwr hn1 hbnt hrd hn
    subst hwr
    have hn1 := Nat.eq_of_beq_eq_true hn1
    subst hn1
    rcases hm.blk i _ hb with ⟨_, h0⟩ | ⟨ph, hph, hbr⟩
    ·simp at h0
    ·obtain ⟨cs, el, fr, g1, g2, g3⟩ := hbr.cells hbnt
     subst ht
     have hval : ∀ k, cellAt w ph.blk k = (cs[k]?).getD undef := fun k => by unfold cellAt; rw [g1]
     have e1 : ∀ z : D.ty.den, flat (.arr 1 D.ty) [z] = flat D.ty z := fun z => by simp [flat, List.range_succ]
     have e2 : flat (.arr 1 D.ty) brow = flat D.ty (brow.getD 0 (GX.dflt D.ty)) := by simp [flat, List.range_succ]
     obtain ⟨s1, s2, s3⟩ := Dk.sound hm himm (val := fun k => cellAt w ph.blk (ph.off + k)) (k0 := 0) hrd hp hd (fun j d hj => by
      obtain ⟨v, hv, hx⟩ := g2 j d (by show (flat (.arr 1 D.ty) brow)[j]? = some d; rw [e2]; exact hj)
      show CR φ d (cellAt w ph.blk (ph.off + (0 + j)))
      rw [Nat.zero_add, hval, hv]; exact hx) (fun d hd => by
      rw [hn d hd]
      unfold obPh
      rw [hph, hb0]
      simp)
     have hiv : i ∉ v := by intro hm; rw [show v.contains i = true from by simpa using hm] at hc; cases hc
     have hone : BlkAt base φ ψ mem w [i] i' ⟨D.ty, 1, [D.mk x'], true⟩ := by
      refine .inr ⟨ph, hi.trans hph, ⟨hbr.t, fun _ => ⟨(g3 rfl).1, by rw [himm]; exact (g3 rfl).2.2.1⟩, MpRel.plain hbnt _, fun _ => ⟨cs, el, fr, g1, fun k d hk => ?_, fun _ => ?_⟩⟩, i, _, ph, by simp, hb, fun _ => rfl, hph, rfl⟩
      ·have hk' : (flat D.ty (D.mk x'))[k]? = some d := by rw [← e1]; exact hk
       have hx := s1 k d hk'
       have hx : CR ψ d (cellAt w ph.blk (ph.off + (0 + k))) := hx
       rw [Nat.zero_add, hval] at hx
       have hlt := (List.getElem?_eq_some_iff.1 hk').1
       obtain ⟨d0, hd0⟩ : ∃ d0, (flat D.ty (brow.getD 0 (GX.dflt D.ty)))[k]? = some d0 := by
        refine ⟨_, List.getElem?_eq_getElem (by rw [length_flat]; rw [length_flat] at hlt; exact hlt)⟩
       obtain ⟨v, hv, _⟩ := g2 k d0 (by show (flat (.arr 1 D.ty) brow)[k]? = some d0; rw [e2]; exact hd0)
       rw [hv] at hx
       exact ⟨v, hv, hx⟩
      ·obtain ⟨k1, k2, k3, k4, k5⟩ := g3 rfl
       exact ⟨k1, k2, by rw [himm]; exact k3, k4, k5⟩
     exact (MemAt.one hone).append hm (fun y hy => by simp at hy; subst hy; exact hiv) ⟨s2, fun i j b b' ph ph' g1 g2 g3 _ g4 g5 => s3 i j b b' ph ph' g1 g2 g3 g4 g5⟩
   ·cases h
  ·cases h
 ·cases h
def Dk.blksR : (D : Dk) → D.den → Mem
 | .v _, _ => []
 | .own c e, x => [(c, ⟨e, x.length, x, false⟩)]
 | .mp c K E, x => [(c, ⟨MT K E, 0, x, false⟩)]
 | .pr a b, x => a.blksR x.1 ++ b.blksR x.2
def impS {α : Type} (l : List α) : Nat := bif l.isEmpty then MARK else 0
def Dk.mkI : (D : Dk) → D.den → D.ty.den
 | .v _, x => x
 | .own c _, x => some ⟨c, [], impS x, x.length, none⟩
 | .mp c _ _, _ => some c
 | .pr a b, x => (a.mkI x.1, b.mkI x.2)
theorem Dk.get_blksR : ∀ {D : Dk} {y : D.den} {i : Nat} {b : Blk}, Mem.get (D.blksR y) i = some b → i ∈ D.nms
 | .v _, y, i, b, h => by simp [Dk.blksR, Mem.get] at h
 | .own c e, y, i, b, h => by
  simp only [Dk.blksR, Mem.get_cons] at h
  by_cases e : i = c
  ·simp [Dk.nms, e]
  ·rw [if_neg e] at h; cases h
 | .mp c K E, y, i, b, h => by
  simp only [Dk.blksR, Mem.get_cons] at h
  by_cases e : i = c
  ·simp [Dk.nms, e]
  ·rw [if_neg e] at h; cases h
 | .pr a b, y, i, b', h => by
  simp only [Dk.blksR, Mem.get_append] at h
  simp only [Dk.nms, List.mem_append]
  split at h
  ·rename_i x hx
   exact .inl (Dk.get_blksR hx)
  ·exact .inr (Dk.get_blksR h)
theorem blksR_ro : ∀ {D : Dk} {y : D.den} {i : Nat} {b : Blk}, Mem.get (D.blksR y) i = some b → b.wr = false
 | .v _, y, i, b, h => by simp [Dk.blksR, Mem.get] at h
 | .own c e, y, i, b, h => by
  simp only [Dk.blksR, Mem.get_cons] at h
  by_cases e : i = c
  ·rw [if_pos e] at h; cases h; rfl
  ·rw [if_neg e] at h; cases h
 | .mp c K E, y, i, b, h => by
  simp only [Dk.blksR, Mem.get_cons] at h
  by_cases e : i = c
  ·rw [if_pos e] at h; cases h; rfl
  ·rw [if_neg e] at h; cases h
 | .pr a b, y, i, b', h => by
  simp only [Dk.blksR, Mem.get_append] at h
  split at h
  ·rename_i x hx; cases h; exact blksR_ro hx
  ·exact blksR_ro h
def ownI (q : SL) (b : Blk) (e : Ty) : Option (List e.den × Bool × List Nat) :=
 if h : b.t = e then some (h ▸ sec (GX.dflt b.t) b.row q.start q.len, decide (q.start + q.len ≤ b.n) || Nat.beq q.len 0, [q.id]) else none
def ownRdI (mem : Mem) (e : Ty) (q : Option SL) : Option (List e.den × Bool × List Nat) :=
 match q with
 | none => some ([], true, [])
 | some q => match q.path, Mem.getC mem q.id with
  | [], some b => ownI q b e
  | _, _ => none
def Dk.rdI (mem : Mem) : (D : Dk) → D.ty.den → Option (D.den × Bool × List Nat)
 | .v _, x => some (x, true, [])
 | .own _ e, q => ownRdI mem e q
 | .mp _ _ _, _ => none
 | .pr a b, x => match a.rdI mem x.1, b.rdI mem x.2 with
  | some (y, c, u), some (z, d, w) => some ((y, z), c && d, u ++ w)
  | _, _ => none
def qPhI (φ : Phi) (q : Option SL) (v : Value) (e : Ty) : Option Phys := match q with
 | some q => if q.len = 0 then none else qPh φ q v e
 | none => none
def Dk.phI (φ : Phi) (val : Nat → Value) : (D : Dk) → D.ty.den → Nat → Nat → Option Phys
 | .v _, _, _, _ => none
 | .own _ e, q, k, _ => qPhI φ q (val k) e
 | .mp _ _ _, _, _, _ => none
 | .pr a b, x, k, i => if i ∈ a.nms then a.phI φ val x.1 k i else b.phI φ val x.2 (k + size a.ty) i
theorem impS_nil {α : Type} {l : List α} (h : l.length = 0) : impS l = MARK := by
 have : l = [] := List.length_eq_zero_iff.1 h
 rw [this]; rfl
theorem impS_pos {α : Type} {l : List α} (h : 0 < l.length) : impS l = 0 := by
 cases l with
 | nil => simp at h
 | cons _ _ => rfl
theorem ownI_sound {base : Nat} {φ ψ : Phi} {mem : Mem} {nxt : Nat} {w : World} (hm : MemRel base φ mem nxt w) (himm : ψ.imm = φ.imm) {e : Ty} (hT : valT e = true) {q : Option SL} {y : List e.den} {u : List Nat} (h : ownRdI mem e q = some (y, true, u)) {v : Value}
 (hv : CR φ (.c0 (.slice q)) v) {c : Nat} (hc : ψ c = qPhI φ q v e) : SR ψ ⟨c, [], impS y, y.length, none⟩ v ∧ BlkAt base φ ψ mem w u c ⟨e, y.length, y, false⟩ := by
 unfold CR at hv
 have empty : ∀ {y : List e.den} {u : List Nat} {a : Addr} {cc : Nat}, y.length = 0 → v = .slice (some a) 0 cc → ψ c = none → SR ψ ⟨c, [], impS y, y.length, none⟩ v ∧ BlkAt base φ ψ mem w u c ⟨e, y.length, y, false⟩ := by
  intro y u a cc h0 hv hn
  have hvd : VD ⟨c, [], impS y, y.length, none⟩ := ⟨impS_nil h0, h0, rfl⟩
  exact ⟨.inr ⟨a, cc, by rw [hv]; simp only [h0], by simp only [h0]; omega, fun k hk => (by cases hk), fun _ _ h => absurd hvd h, fun _ h => absurd hvd h⟩, .inl ⟨hn, h0⟩⟩
 cases q with
 | none =>
  simp only [ownRdI, Option.some.injEq, Prod.mk.injEq] at h
  obtain ⟨rfl, _, rfl⟩ := h
  have hv : v = .slice none 0 0 := hv
  exact ⟨.inl ⟨rfl, rfl, hv⟩, .inl ⟨hc, rfl⟩⟩
 | some q =>
  have hvv : SR φ q v := hv
  simp only [ownRdI] at h
  split at h
  ·rename_i b hqp hb
   obtain ⟨hb, hbnt⟩ := Mem.getC_spec hb
   unfold ownI at h
   split at h
   ·rename_i hbt
    simp only [Option.some.injEq, Prod.mk.injEq] at h
    obtain ⟨rfl, hok, rfl⟩ := h
    obtain ⟨bt, bn, brow, bwr⟩ := b
    simp only at hbt hok
    subst hbt
    have hl : (sec (GX.dflt bt) brow q.start q.len).length = q.len := length_sec _ _ _ _
    rcases hvv with ⟨hl0, _, hv⟩ | ⟨ad, cc, hv, hlc, hck, hcn, had⟩
    ·refine ⟨.inl ⟨by simp only [hl]; exact hl0, rfl, hv⟩, .inl ⟨?_, by simp only [hl]; exact hl0⟩⟩
     rw [hc]; simp only [qPhI, if_pos hl0]
    ·by_cases hl0 : q.len = 0
     ·have hn : ψ c = none := by rw [hc]; simp only [qPhI, if_pos hl0]
      exact empty (y := sec (GX.dflt bt) brow q.start q.len) (by rw [hl]; exact hl0) (by rw [hv, hl0]) hn
     ·have hle : q.start + q.len ≤ bn := by
       rcases Bool.or_eq_true_iff.1 hok with h | h
       ·exact of_decide_eq_true h
       ·exact absurd (Nat.eq_of_beq_eq_true h) hl0
      have hpos : 0 < cc := by omega
      have ha := had hpos (VD.not (by omega))
      obtain ⟨ph, hph⟩ := addr_phys ha
      simp only at hph
      have hbr := hm.blkAt hb hph
      obtain ⟨cs, el, fr, g1, g2, _⟩ := hbr.cells hbnt
      have hsome : ψ c = some ⟨ph.blk, ph.off + q.start * size bt, bt, cc⟩ := by
       rw [hc]; simp only [qPhI, if_neg hl0]; unfold qPh; rw [hph, hv]; simp only; rw [if_pos hpos]
      have hadd : ad = ⟨ph.blk, ph.off + q.start * size bt, none⟩ := by
       unfold addr at ha
       have h00 : offs bt [] = some 0 := by cases bt <;> rfl
       simp only [hph, hqp, List.nil_append, hbr.t] at ha
       simp only [offs, h00, Option.map_some, Nat.add_zero, Option.some.injEq] at ha
       exact ha.symm
      have hi0 : impS (sec (GX.dflt bt) brow q.start q.len) = 0 := impS_pos (by rw [hl]; omega)
      have hnb : BlkRel base ψ ⟨ph.blk, ph.off + q.start * size bt, bt, cc⟩ ⟨bt, (sec (GX.dflt bt) brow q.start q.len).length, sec (GX.dflt bt) brow q.start q.len, false⟩ w := by
       refine ⟨rfl, fun e => (by cases e), MpRel.plain hbnt _, fun _ => ⟨cs, el, fr, g1, fun k d hk => ?_, fun e => (by cases e)⟩⟩
       have hk0 : (flat (.arr q.len bt) (sec (GX.dflt bt) brow q.start q.len))[k]? = some d := by
        have hk' : (flat (.arr (sec (GX.dflt bt) brow q.start q.len).length bt) (sec (GX.dflt bt) brow q.start q.len))[k]? = some d := hk
        rwa [length_sec] at hk'
       have hlt := (List.getElem?_eq_some_iff.1 hk0).1
       rw [length_flat, size] at hlt
       have hposz : 0 < size bt := by
        rcases Nat.eq_zero_or_pos (size bt) with h0 | h0
        ·rw [h0] at hlt; omega
        ·exact h0
       have hq : k / size bt < q.len := Nat.div_lt_of_lt_mul (by rw [Nat.mul_comm]; exact hlt)
       have hrr : k % size bt < size bt := Nat.mod_lt _ hposz
       have hkk : k = k / size bt * size bt + k % size bt := by rw [Nat.mul_comm]; exact (Nat.div_add_mod k (size bt)).symm
       have hk1 := hk0
       rw [flat, hkk, get_flatMap_const _ (size bt) (fun i => length_flat bt _) _ _ _ hq hrr, getD_sec _ _ _ _ _ hq] at hk1
       obtain ⟨v', hv', hvr⟩ := g2 ((q.start + k / size bt) * size bt + k % size bt) d (by
        show (flat (.arr bn bt) brow)[_]? = some d
        rw [flat, get_flatMap_const _ (size bt) (fun i => length_flat bt _) _ _ _ (by omega) hrr]; exact hk1)
       refine ⟨v', ?_, CR_imm2 himm (t := bt) hT hk1 hvr⟩
       rw [← hv']
       congr 1
       show ph.off + q.start * size bt + k = _
       rw [Nat.add_mul]; omega
      refine ⟨.inr ⟨ad, cc, by simp only [hl]; exact hv, by simp only [hl]; exact hlc, fun k hk => (by cases hk), fun _ _ _ => ⟨_, hsome, rfl, by simp only [hi0]; simp⟩, fun _ _ => ?_⟩, .inr ⟨_, hsome, hnb, q.id, _, ph, by simp, hb, fun e => (by cases e), hph, rfl⟩⟩
      unfold addr
      simp only [hsome, hi0]
      have h00 : offs bt [] = some 0 := by cases bt <;> rfl
      simp [offs, h00, hadd]
   ·cases h
  ·cases h
theorem Dk.soundI {base : Nat} {φ ψ : Phi} {mem : Mem} {nxt : Nat} {w : World} (hm : MemRel base φ mem nxt w) (himm : ψ.imm = φ.imm) {val : Nat → Value} :
 ∀ {D : Dk} {x0 : D.ty.den} {y : D.den} {u : List Nat} {k0 : Nat}, D.rdI mem x0 = some (y, true, u) → D.plain = true → noDup D.nms = true →
  (∀ (j : Nat) c, (flat D.ty x0)[j]? = some c → CR φ c (val (k0 + j))) → (∀ c ∈ D.nms, ψ c = D.phI φ val x0 k0 c) →
  (∀ (j : Nat) c, (flat D.ty (D.mkI y))[j]? = some c → CR ψ c (val (k0 + j))) ∧ (∀ i b, Mem.get (D.blksR y) i = some b → BlkAt base φ ψ mem w u i b)
 | .v t, x0, y, u, k0, h, hp, hd, hc, hn => by
  simp only [Dk.rdI, Option.some.injEq, Prod.mk.injEq] at h
  obtain ⟨rfl, _, rfl⟩ := h
  exact ⟨fun j c hj => CR_imm2 himm (t := t) hp hj (hc j c hj), fun i b hi => by simp [Dk.blksR, Mem.get] at hi⟩
 | .mp _ _ _, x0, y, u, k0, h, hp, hd, hc, hn => by simp [Dk.rdI] at h
 | .own c e, x0, y, u, k0, h, hp, hd, hc, hn => by
  have h0 := hc 0 (.c0 (.slice x0)) rfl
  obtain ⟨h1, h2⟩ := ownI_sound hm himm hp h h0 (c := c) (by
   rw [hn c (by simp [Dk.nms])]
   rfl)
  refine ⟨fun j d hj => ?_, fun i b hi => ?_⟩
  ·cases j with
   | zero =>
    simp only [Dk.mkI, flat, List.getElem?_cons_zero, Option.some.injEq] at hj
    subst hj
    unfold CR
    exact h1
   | succ j => simp [Dk.mkI, flat] at hj
  ·simp only [Dk.blksR, Mem.get_cons] at hi
   by_cases e : i = c
   ·rw [if_pos e] at hi; cases hi; subst e; exact h2
   ·rw [if_neg e] at hi; cases hi
 | .pr a b, x0, y, u, k0, h, hp, hd, hc, hn => by
  simp only [Dk.rdI] at h
  split at h
  ·rename_i y1 c1 u1 y2 c2 u2 ha hb
   simp only [Option.some.injEq, Prod.mk.injEq] at h
   obtain ⟨rfl, hok, rfl⟩ := h
   obtain ⟨rfl, rfl⟩ := and_split hok
   obtain ⟨hpa, hpb⟩ := and_split hp
   obtain ⟨hda, hdb, hdis⟩ := noDup_append hd
   obtain ⟨a1, a2⟩ := Dk.soundI hm himm (D := a) (k0 := k0) ha hpa hda (fun j c hj => hc j c (by
    simp only [flat]
    rw [List.getElem?_append_left (List.getElem?_eq_some_iff.1 hj).1]; exact hj)) (fun c hcm => by
    rw [hn c (by simp [Dk.nms, hcm])]
    simp only [Dk.phI, if_pos hcm])
   obtain ⟨b1, b2⟩ := Dk.soundI hm himm (D := b) (k0 := k0 + size a.ty) hb hpb hdb (fun j c hj => by
    have := hc (size a.ty + j) c (by
     simp only [flat]
     rw [List.getElem?_append_right (by rw [length_flat]; omega), length_flat]
     rw [show size a.ty + j - size a.ty = j by omega]; exact hj)
    rwa [← Nat.add_assoc] at this) (fun c hcm => by
    rw [hn c (by simp [Dk.nms, hcm])]
    simp only [Dk.phI]
    rw [if_neg (fun h => hdis c h hcm)])
   refine ⟨fun j c hj => ?_, fun i b' hi' => ?_⟩
   ·simp only [Dk.mkI, flat] at hj
    rcases Nat.lt_or_ge j (size a.ty) with hlt | hge
    ·rw [List.getElem?_append_left (by rw [length_flat]; exact hlt)] at hj
     exact a1 j c hj
    ·rw [List.getElem?_append_right (by rw [length_flat]; exact hge), length_flat] at hj
     have := b1 (j - size a.ty) c hj
     rwa [show k0 + size a.ty + (j - size a.ty) = k0 + j by omega] at this
   ·simp only [Dk.blksR, Mem.get_append] at hi'
    split at hi'
    ·rename_i x hx
     cases hi'
     exact (a2 i b' hx).more (fun x hx => by simp [hx])
    ·exact (b2 i b' hi').more (fun x hx => by simp [hx])
  ·cases h
theorem Dk.phI_lt {φ : Phi} {val : Nat → Value} {N : Nat} (hm : ∀ i ph, φ i = some ph → ph.blk < N) : ∀ {D : Dk} {x : D.ty.den} {k i : Nat} {p : Phys}, D.phI φ val x k i = some p → p.blk < N
 | .v _, x, k, i, p, h => by cases h
 | .mp _ _ _, x, k, i, p, h => by cases h
 | .own _ e, x, k, i, p, h => by
  simp only [Dk.phI, qPhI] at h
  split at h
  ·split at h
   ·cases h
   ·unfold qPh at h
    split at h
    ·rename_i ph _ _ _ h0 _
     split at h
     ·cases h; exact hm _ ph h0
     ·cases h
    ·cases h
  ·cases h
 | .pr a b, x, k, i, p, h => by
  simp only [Dk.phI] at h
  split at h
  ·exact Dk.phI_lt hm h
  ·exact Dk.phI_lt hm h
def obRdI (mem : Mem) (i : Nat) (D : Dk) (b : Blk) : Option (D.den × Bool × List Nat) :=
 if h : b.t = D.ty then (match D.rdI mem (h ▸ b.row.getD 0 (GX.dflt b.t)) with
  | some (x, c, v) => some (x, Nat.beq b.n 1 && c, i :: v)
  | none => none) else none
def obPhI (φ : Phi) (st : Mem) (w : World) (i : Nat) (D : Dk) (c : Nat) : Option Phys :=
 match φ i, Mem.getC st i with
 | some ph, some b => if h : b.t = D.ty then D.phI φ (fun k => cellAt w ph.blk (ph.off + k)) (h ▸ b.row.getD 0 (GX.dflt b.t)) 0 c else none
 | _, _ => none
theorem obPhI_lt {φ : Phi} {st : Mem} {w : World} {i : Nat} {D : Dk} {c : Nat} {N : Nat} (hm : ∀ i ph, φ i = some ph → ph.blk < N) {p : Phys} (h : obPhI φ st w i D c = some p) : p.blk < N := by
 unfold obPhI at h
 split at h
 ·split at h
  ·exact Dk.phI_lt hm h
  ·cases h
 ·cases h
theorem obI_sound {base : Nat} {φ ψ : Phi} {mem : Mem} {nxt : Nat} {w : World} (hm : MemRel base φ mem nxt w) (himm : ψ.imm = φ.imm) {i : Nat} {D : Dk} {b : Blk} (hb : Mem.getC mem i = some b) {x : D.den} {u : List Nat} (h : obRdI mem i D b = some (x, true, u)) (hp : D.plain = true)
 (hd : noDup D.nms = true) {i' : Nat} (hi : ψ i' = φ i) (hn : ∀ c ∈ D.nms, ψ c = obPhI φ mem w i D c) : MemAt base φ ψ mem w u ((i', ⟨D.ty, 1, [D.mkI x], false⟩) :: D.blksR x) := by
 have hb0 := hb
 obtain ⟨hb, hbnt⟩ := Mem.getC_spec hb
 unfold obRdI at h
 split at h
 ·rename_i ht
  split at h
  ·rename_i x' c v hrd
   simp only [Option.some.injEq, Prod.mk.injEq] at h
   obtain ⟨rfl, hok, rfl⟩ := h
   obtain ⟨hn1, rfl⟩ := and_split hok
   obtain ⟨bt, bn, brow, bwr⟩ := b
   simp only at ht hn1 hbnt hrd hn
   have hn1 := Nat.eq_of_beq_eq_true hn1
   subst hn1
   rcases hm.blk i _ hb with ⟨_, h0⟩ | ⟨ph, hph, hbr⟩
   ·simp at h0
   ·obtain ⟨cs, el, fr, g1, g2, g3⟩ := hbr.cells hbnt
    subst ht
    have hval : ∀ k, cellAt w ph.blk k = (cs[k]?).getD undef := fun k => by unfold cellAt; rw [g1]
    have e1 : ∀ z : D.ty.den, flat (.arr 1 D.ty) [z] = flat D.ty z := fun z => by simp [flat, List.range_succ]
    have e2 : flat (.arr 1 D.ty) brow = flat D.ty (brow.getD 0 (GX.dflt D.ty)) := by simp [flat, List.range_succ]
    obtain ⟨s1, s2⟩ := Dk.soundI hm himm (val := fun k => cellAt w ph.blk (ph.off + k)) (k0 := 0) hrd hp hd (fun j d hj => by
     obtain ⟨v, hv, hx⟩ := g2 j d (by show (flat (.arr 1 D.ty) brow)[j]? = some d; rw [e2]; exact hj)
     show CR φ d (cellAt w ph.blk (ph.off + (0 + j)))
     rw [Nat.zero_add, hval, hv]; exact hx) (fun d hd => by
     rw [hn d hd]
     unfold obPhI
     rw [hph, hb0]
     simp)
    refine ⟨fun j b' hj => ?_, fun j k b1 b2 p1 p2 hj hk hjk hw => ?_⟩
    ·simp only [Mem.get_cons] at hj
     by_cases e : j = i'
     ·rw [if_pos e] at hj; cases hj; subst e
      refine .inr ⟨ph, hi.trans hph, ⟨hbr.t, fun e => (by cases e), MpRel.plain hbnt _, fun _ => ⟨cs, el, fr, g1, fun k d hk => ?_, fun e => (by cases e)⟩⟩, i, _, ph, by simp, hb, fun e => (by cases e), hph, rfl⟩
      have hk' : (flat D.ty (D.mkI x'))[k]? = some d := by rw [← e1]; exact hk
      have hx := s1 k d hk'
      have hx : CR ψ d (cellAt w ph.blk (ph.off + (0 + k))) := hx
      rw [Nat.zero_add, hval] at hx
      have hlt := (List.getElem?_eq_some_iff.1 hk').1
      obtain ⟨d0, hd0⟩ : ∃ d0, (flat D.ty (brow.getD 0 (GX.dflt D.ty)))[k]? = some d0 := by
       refine ⟨_, List.getElem?_eq_getElem (by rw [length_flat]; rw [length_flat] at hlt; exact hlt)⟩
      obtain ⟨v, hv, _⟩ := g2 k d0 (by show (flat (.arr 1 D.ty) brow)[k]? = some d0; rw [e2]; exact hd0)
      rw [hv] at hx
      exact ⟨v, hv, hx⟩
     ·rw [if_neg e] at hj
      exact (s2 j b' hj).more (fun x hx => by simp [hx])
    ·simp only [Mem.get_cons] at hj
     by_cases e : j = i'
     ·rw [if_pos e] at hj; cases hj; cases hw
     ·rw [if_neg e] at hj
      rw [blksR_ro hj] at hw; cases hw
  ·cases h
 ·cases h
end Go.GX

namespace Go.GX
set_option linter.unusedSimpArgs false
set_option linter.unusedVariables false
set_option linter.unusedSectionVars false
open Go.RowKit (Below)
section
variable [DefL]
def ptrPk (p : PA) : Ty × List Cell0 := (.ptr, [.ptr (some p)])
def isPk (p : PA) : Ty × List Cell0 → Bool
 | (.ptr, [.ptr (some q)]) => decide (q = p)
 | _ => false
theorem isPk_eq {p : PA} {c : Ty × List Cell0} (h : isPk p c = true) : c = ptrPk p := by
 unfold isPk at h
 split at h
 ·rw [of_decide_eq_true h]; rfl
 ·cases h
def isPks : List PA → List (Ty × List Cell0) → Bool
 | [], [] => true
 | p :: r, c :: s => isPk p c && isPks r s
 | _, _ => false
theorem isPks_eq : ∀ {l : List PA} {m : List (Ty × List Cell0)}, isPks l m = true → m = l.map ptrPk
 | [], [], _ => rfl
 | [], _ :: _, h => by cases h
 | _ :: _, [], h => by cases h
 | p :: r, c :: s, h => by
  obtain ⟨h1, h2⟩ := Bool.and_eq_true_iff.1 h
  rw [isPk_eq h1, isPks_eq h2]; rfl
theorem VL0_ptrs {φ ψ : Phi} {l : List PA} (h : ∀ p ∈ l, ψ p.id = φ p.id) {vs : List Value} (hv : VL0 φ (l.map ptrPk) vs) : VL0 ψ (l.map ptrPk) vs := by
 refine ⟨hv.1, fun i c hc => ?_⟩
 obtain ⟨v, hi, hr⟩ := hv.2 i c hc
 refine ⟨v, hi, ?_⟩
 rw [List.getElem?_map, Option.map_eq_some_iff] at hc
 obtain ⟨p, hp, rfl⟩ := hc
 have hpm := h p (List.mem_of_getElem? hp)
 unfold VC0 ptrPk at hr ⊢
 rw [if_neg (by simp [GX.isAgg])] at hr ⊢
 obtain ⟨c, hc, ad, had, hvv⟩ := (show ∃ c, [Cell0.ptr (some p)] = [c] ∧ CR0 φ (.ptr (some p)) v by
  obtain ⟨c, hc, hcr⟩ := hr
  cases hc
  exact ⟨_, rfl, hcr⟩)
 refine ⟨_, rfl, ad, ?_, hvv⟩
 rw [← had]
 unfold addr
 rw [hpm]
inductive It where
 | sl (s : Nat) (t : Ty)
 | ow (s c : Nat) (t : Ty)
 | bl (i : Nat) (t : Ty)
 | pt (s : Nat) (p : PA)
 | ob (i : Nat) (D : Dk)
 | nl (s : Nat)
 | fv (s f : Nat) (p q : List PA)
 | rb (i : Nat) (t : Ty)
 | ro (i : Nat) (D : Dk)
@[reducible] def It.den : It → Type
 | .sl _ t => t.den
 | .ow _ _ t => List t.den
 | .bl _ t => t.den
 | .pt _ _ => Unit
 | .ob _ D => D.den
 | .nl _ => Unit
 | .fv _ _ _ _ => Unit
 | .rb _ t => t.den
 | .ro _ D => D.den
@[reducible] def XD : List It → Type
 | [] => Unit
 | i :: r => i.den × XD r
def mkS (n nxt : Nat) : (l : List It) → XD l → St
 | [], _ => ⟨.lf, n, [], nxt, true⟩
 | .sl s t :: r, x => let S := mkS n nxt r x.2; ⟨S.tm.set s (⟨t, x.1⟩, true), n, S.mem, nxt, true⟩
 | .ow s c t :: r, x => let S := mkS n nxt r x.2; ⟨S.tm.set s (⟨.slice, some ⟨c, [], 0, x.1.length, none⟩⟩, true), n, (c, ⟨t, x.1.length, x.1, true⟩) :: S.mem, nxt, true⟩
 | .bl i t :: r, x => let S := mkS n nxt r x.2; ⟨S.tm, n, (i, ⟨t, 1, [x.1], true⟩) :: S.mem, nxt, true⟩
 | .pt s p :: r, x => let S := mkS n nxt r x.2; ⟨S.tm.set s (⟨.ptr, some p⟩, true), n, S.mem, nxt, true⟩
 | .ob i D :: r, x => let S := mkS n nxt r x.2; ⟨S.tm, n, ((i, ⟨D.ty, 1, [D.mk x.1], true⟩) :: D.blks x.1) ++ S.mem, nxt, true⟩
 | .nl s :: r, x => let S := mkS n nxt r x.2; ⟨S.tm.set s (⟨.ptr, none⟩, true), n, S.mem, nxt, true⟩
 | .fv s f p q :: r, x => let S := mkS n nxt r x.2; ⟨S.tm.set s (⟨.func, FV.fn f (p.map ptrPk) (q.map ptrPk)⟩, true), n, S.mem, nxt, true⟩
 | .rb i t :: r, x => let S := mkS n nxt r x.2; ⟨S.tm, n, (i, ⟨t, 1, [x.1], false⟩) :: S.mem, nxt, true⟩
 | .ro i D :: r, x => let S := mkS n nxt r x.2; ⟨S.tm, n, ((i, ⟨D.ty, 1, [D.mkI x.1], false⟩) :: D.blksR x.1) ++ S.mem, nxt, true⟩
def extS : (l : List It) → St → Option (XD l × Bool × List Nat)
 | [], _ => some ((), true, [])
 | .sl s t :: r, st => match st.tm.get s, extS r st with
  | some (v, c), some (y, d, u) => match asT t (coeV t v) with | some x => some ((x, y), c && d, u) | none => none
  | _, _ => none
 | .ow s c t :: r, st => match st.tm.get s, extS r st with
  | some (⟨.slice, none⟩, e), some (y, d, u) => some (([], y), e && d, u)
  | some (⟨.slice, some q⟩, e), some (y, d, u) => match q.path, Mem.getC st.mem q.id with
   | [], some b => if h : b.t = t then bif u.contains q.id then none else
    some ((h ▸ sec (dflt b.t) b.row q.start q.len, y), e && (!(Nat.beq q.start MARK) && (b.wr && (decide (q.start + q.len ≤ b.n) && ((match q.cap with | some k => decide (q.start + k ≤ b.n) | none => true) && d)))), q.id :: u) else none
   | _, _ => none
  | _, _ => none
 | .bl i t :: r, st => match Mem.getC st.mem i, extS r st with
  | some b, some (y, d, u) => if h : b.t = t then bif u.contains i then none else some ((h ▸ b.row.getD 0 (dflt b.t), y), b.wr && (Nat.beq b.n 1 && d), i :: u) else none
  | _, _ => none
 | .ro i D :: r, st => match Mem.getC st.mem i, extS r st with
  | some b, some (y, d, u) => match obRdI st.mem i D b with
   | some (x, c, v) => bif anyIn v u then none else some ((x, y), c && d, v ++ u)
   | none => none
  | _, _ => none
 | .rb i t :: r, st => match Mem.getC st.mem i, extS r st with
  | some b, some (y, d, u) => if h : b.t = t then bif u.contains i then none else some ((h ▸ b.row.getD 0 (dflt b.t), y), Nat.beq b.n 1 && d, i :: u) else none
  | _, _ => none
 | .pt s p :: r, st => match st.tm.get s, extS r st with
  | some (⟨.ptr, some p'⟩, c), some (y, d, u) => if p' = p then some (((), y), c && d, u) else none
  | _, _ => none
 | .ob i D :: r, st => match Mem.getC st.mem i, extS r st with
  | some b, some (y, d, u) => match obRd st.mem i D b with
   | some (x, c, v) => bif anyIn v u then none else some ((x, y), c && d, v ++ u)
   | none => none
  | _, _ => none
 | .nl s :: r, st => match st.tm.get s, extS r st with
  | some (⟨.ptr, none⟩, c), some (y, d, u) => some (((), y), c && d, u)
  | _, _ => none
 | .fv s f p q :: r, st => match st.tm.get s, extS r st with
  | some (⟨.func, FV.fn g a b⟩, c), some (y, d, u) => bif Nat.beq g f && (isPks p a && isPks q b) then some (((), y), c && d, u) else none
  | _, _ => none
def nmS : List It → List Nat
 | [] => []
 | .ow _ c _ :: r => c :: nmS r
 | .bl i _ :: r => i :: nmS r
 | .rb i _ :: r => i :: nmS r
 | .ob i D :: r => i :: (D.nms ++ nmS r)
 | .ro i D :: r => i :: (D.nms ++ nmS r)
 | _ :: r => nmS r
def owS : List It → List Nat
 | [] => []
 | .ow _ c _ :: r => c :: owS r
 | .ob _ D :: r => D.nms ++ owS r
 | .ro _ D :: r => D.nms ++ owS r
 | _ :: r => owS r
def blS : List It → List Nat
 | [] => []
 | .bl i _ :: r => i :: blS r
 | .rb i _ :: r => i :: blS r
 | .ob i _ :: r => i :: blS r
 | .ro i _ :: r => i :: blS r
 | _ :: r => blS r
def ptS : List It → List Nat
 | [] => []
 | .pt _ p :: r => p.id :: ptS r
 | .fv _ _ p q :: r => p.map (·.id) ++ (q.map (·.id) ++ ptS r)
 | _ :: r => ptS r
def okS (kp nxt : Nat) (l : List It) : Bool :=
 noDup (nmS l) && ((nmS l).all (fun i => Nat.blt i nxt) && ((owS l).all (fun i => Nat.ble kp i) && ((ptS l).all (fun i => Nat.blt i kp || (blS l).contains i) && Nat.ble kp nxt)))
def plainIt : It → Bool
 | .sl _ t => valT t
 | .bl _ t => valT t
 | .rb _ t => valT t
 | .ow _ _ t => valT t
 | .pt _ _ => true
 | .ob _ D => D.plain
 | .ro _ D => D.plain
 | .nl _ => true
 | .fv _ _ _ _ => true
theorem owS_sub : ∀ {l : List It} {i : Nat}, i ∈ owS l → i ∈ nmS l
 | .ow s c t :: r, i, h => by
  simp only [owS, nmS, List.mem_cons] at h ⊢
  rcases h with h | h
  ·exact .inl h
  ·exact .inr (owS_sub h)
 | .sl _ _ :: r, i, h => by simp only [owS, nmS] at h ⊢; exact owS_sub h
 | .bl j _ :: r, i, h => by simp only [owS, nmS, List.mem_cons] at h ⊢; exact .inr (owS_sub h)
 | .rb j _ :: r, i, h => by simp only [owS, nmS, List.mem_cons] at h ⊢; exact .inr (owS_sub h)
 | .pt _ _ :: r, i, h => by simp only [owS, nmS] at h ⊢; exact owS_sub h
 | .nl _ :: r, i, h => by simp only [owS, nmS] at h ⊢; exact owS_sub h
 | .fv _ _ _ _ :: r, i, h => by simp only [owS, nmS] at h ⊢; exact owS_sub h
 | .ob j D :: r, i, h => by
  simp only [owS, nmS, List.mem_cons, List.mem_append] at h ⊢
  rcases h with h | h
  ·exact .inr (.inl h)
  ·exact .inr (.inr (owS_sub h))
 | .ro j D :: r, i, h => by
  simp only [owS, nmS, List.mem_cons, List.mem_append] at h ⊢
  rcases h with h | h
  ·exact .inr (.inl h)
  ·exact .inr (.inr (owS_sub h))
theorem blS_sub : ∀ {l : List It} {i : Nat}, i ∈ blS l → i ∈ nmS l
 | .ow s c t :: r, i, h => by simp only [blS, nmS, List.mem_cons] at h ⊢; exact .inr (blS_sub h)
 | .sl _ _ :: r, i, h => by simp only [blS, nmS] at h ⊢; exact blS_sub h
 | .bl j _ :: r, i, h => by
  simp only [blS, nmS, List.mem_cons] at h ⊢
  rcases h with h | h
  ·exact .inl h
  ·exact .inr (blS_sub h)
 | .rb j _ :: r, i, h => by
  simp only [blS, nmS, List.mem_cons] at h ⊢
  rcases h with h | h
  ·exact .inl h
  ·exact .inr (blS_sub h)
 | .pt _ _ :: r, i, h => by simp only [blS, nmS] at h ⊢; exact blS_sub h
 | .nl _ :: r, i, h => by simp only [blS, nmS] at h ⊢; exact blS_sub h
 | .fv _ _ _ _ :: r, i, h => by simp only [blS, nmS] at h ⊢; exact blS_sub h
 | .ob j D :: r, i, h => by
  simp only [blS, nmS, List.mem_cons, List.mem_append] at h ⊢
  rcases h with h | h
  ·exact .inl h
  ·exact .inr (.inr (blS_sub h))
 | .ro j D :: r, i, h => by
  simp only [blS, nmS, List.mem_cons, List.mem_append] at h ⊢
  rcases h with h | h
  ·exact .inl h
  ·exact .inr (.inr (blS_sub h))
theorem nm_disj : ∀ {l : List It} {i : Nat}, noDup (nmS l) = true → i ∈ owS l → i ∉ blS l
 | .ow s c t :: r, i, hd, h => by
  obtain ⟨h1, h2⟩ := noDup_cons hd
  simp only [owS, blS, List.mem_cons] at h ⊢
  rcases h with rfl | h
  ·exact fun hb => h1 (blS_sub hb)
  ·exact nm_disj h2 h
 | .sl _ _ :: r, i, hd, h => by simp only [owS, blS] at h ⊢; exact nm_disj hd h
 | .bl j _ :: r, i, hd, h => by
  obtain ⟨h1, h2⟩ := noDup_cons hd
  simp only [owS, blS, List.mem_cons, not_or] at h ⊢
  exact ⟨fun e => h1 (e ▸ owS_sub h), nm_disj h2 h⟩
 | .rb j _ :: r, i, hd, h => by
  obtain ⟨h1, h2⟩ := noDup_cons hd
  simp only [owS, blS, List.mem_cons, not_or] at h ⊢
  exact ⟨fun e => h1 (e ▸ owS_sub h), nm_disj h2 h⟩
 | .pt _ _ :: r, i, hd, h => by simp only [owS, blS] at h ⊢; exact nm_disj hd h
 | .nl _ :: r, i, hd, h => by simp only [owS, blS] at h ⊢; exact nm_disj hd h
 | .fv _ _ _ _ :: r, i, hd, h => by simp only [owS, blS] at h ⊢; exact nm_disj hd h
 | .ob j D :: r, i, hd, h => by
  obtain ⟨h1, h2⟩ := noDup_cons hd
  obtain ⟨_, h4, h5⟩ := noDup_append h2
  simp only [owS, blS, List.mem_cons, List.mem_append, not_or] at h ⊢
  rcases h with h | h
  ·exact ⟨fun e => h1 (e ▸ List.mem_append_left _ h), fun hb => h5 i h (blS_sub hb)⟩
  ·exact ⟨fun e => h1 (e ▸ List.mem_append_right _ (owS_sub h)), nm_disj h4 h⟩
 | .ro j D :: r, i, hd, h => by
  obtain ⟨h1, h2⟩ := noDup_cons hd
  obtain ⟨_, h4, h5⟩ := noDup_append h2
  simp only [owS, blS, List.mem_cons, List.mem_append, not_or] at h ⊢
  rcases h with h | h
  ·exact ⟨fun e => h1 (e ▸ List.mem_append_left _ h), fun hb => h5 i h (blS_sub hb)⟩
  ·exact ⟨fun e => h1 (e ▸ List.mem_append_right _ (owS_sub h)), nm_disj h4 h⟩
theorem mem_owS {s c : Nat} {t : Ty} : ∀ {l : List It}, It.ow s c t ∈ l → c ∈ owS l
 | i :: r, h => by
  rcases List.mem_cons.1 h with h | h
  ·subst h; simp [owS]
  ·have := mem_owS h
   cases i <;> simp [owS, this]
theorem mem_blS {c : Nat} {t : Ty} : ∀ {l : List It}, It.bl c t ∈ l → c ∈ blS l
 | i :: r, h => by
  rcases List.mem_cons.1 h with h | h
  ·subst h; simp [blS]
  ·have := mem_blS h
   cases i <;> simp [blS, this]
theorem mem_rbS {c : Nat} {t : Ty} : ∀ {l : List It}, It.rb c t ∈ l → c ∈ blS l
 | i :: r, h => by
  rcases List.mem_cons.1 h with h | h
  ·subst h; simp [blS]
  ·have := mem_rbS h
   cases i <;> simp [blS, this]
theorem mem_obS {i : Nat} {D : Dk} : ∀ {l : List It}, It.ob i D ∈ l → i ∈ blS l ∧ ∀ c ∈ D.nms, c ∈ owS l
 | j :: r, h => by
  rcases List.mem_cons.1 h with h | h
  ·subst h; exact ⟨by simp [blS], fun c hc => by simp [owS, hc]⟩
  ·obtain ⟨h1, h2⟩ := mem_obS h
   cases j <;> refine ⟨by simp [blS, h1], fun c hc => by simp [owS, h2 c hc]⟩
theorem mem_roS {i : Nat} {D : Dk} : ∀ {l : List It}, It.ro i D ∈ l → i ∈ blS l ∧ ∀ c ∈ D.nms, c ∈ owS l
 | j :: r, h => by
  rcases List.mem_cons.1 h with h | h
  ·subst h; exact ⟨by simp [blS], fun c hc => by simp [owS, hc]⟩
  ·obtain ⟨h1, h2⟩ := mem_roS h
   cases j <;> refine ⟨by simp [blS, h1], fun c hc => by simp [owS, h2 c hc]⟩
theorem mem_ptS {s : Nat} {p : PA} : ∀ {l : List It}, It.pt s p ∈ l → p.id ∈ ptS l
 | i :: r, h => by
  rcases List.mem_cons.1 h with h | h
  ·subst h; simp [ptS]
  ·have := mem_ptS h
   cases i <;> simp [ptS, this]
theorem mem_ptF {s f : Nat} {p q : List PA} : ∀ {l : List It}, It.fv s f p q ∈ l → ∀ x, x ∈ p ∨ x ∈ q → x.id ∈ ptS l
 | i :: r, h, x, hx => by
  rcases List.mem_cons.1 h with h | h
  ·subst h
   simp only [ptS, List.mem_append, List.mem_map]
   rcases hx with hx | hx
   ·exact .inl ⟨x, hx, rfl⟩
   ·exact .inr (.inl ⟨x, hx, rfl⟩)
  ·have := mem_ptF h x hx
   cases i <;> simp [ptS, this]
section
variable {base : Nat} {φ : Phi} {st : St} {a : Act} {w : World}
def slotPh (φ : Phi) (st : St) (a : Act) (s : Nat) (t : Ty) : Option Phys :=
 match st.tm.get s with
 | some (⟨.slice, some q⟩, _) => match φ q.id, a.tmps.getD s undef with
  | some ph, .slice (some _) _ c => if 0 < c then some ⟨ph.blk, ph.off + q.start * size t, t, c⟩ else none
  | _, _ => none
 | _ => none
def ownAd (φ : Phi) (st : St) (a : Act) (w : World) : List It → Nat → Option Phys
 | [], _ => none
 | .ow s c t :: r, i => if i = c then slotPh φ st a s t else ownAd φ st a w r i
 | .ob j D :: r, i => if i ∈ D.nms then obPh φ st.mem w j D i else ownAd φ st a w r i
 | .ro j D :: r, i => if i ∈ D.nms then obPhI φ st.mem w j D i else ownAd φ st a w r i
 | _ :: r, i => ownAd φ st a w r i
theorem ownAd_mem : ∀ {l : List It}, noDup (nmS l) = true → ∀ s c t, It.ow s c t ∈ l → ownAd φ st a w l c = slotPh φ st a s t
 | [], _, s, c, t, h => by simp at h
 | .ow s' c' t' :: r, hd, s, c, t, h => by
  obtain ⟨h1, h2⟩ := noDup_cons hd
  simp only [List.mem_cons, It.ow.injEq] at h
  rcases h with ⟨rfl, rfl, rfl⟩ | h
  ·simp [ownAd]
  ·have hc : c ∈ nmS r := owS_sub (mem_owS h)
   simp only [ownAd]
   rw [if_neg (fun e => by rw [e] at hc; exact h1 hc)]
   exact ownAd_mem h2 s c t h
 | .sl _ _ :: r, hd, s, c, t, h => by
  have h : It.ow s c t ∈ r := by simpa using h
  simp only [ownAd]; exact ownAd_mem (l := r) hd s c t h
 | .bl _ _ :: r, hd, s, c, t, h => by
  have h : It.ow s c t ∈ r := by simpa using h
  simp only [ownAd]; exact ownAd_mem (l := r) (noDup_cons hd).2 s c t h
 | .rb _ _ :: r, hd, s, c, t, h => by
  have h : It.ow s c t ∈ r := by simpa using h
  simp only [ownAd]; exact ownAd_mem (l := r) (noDup_cons hd).2 s c t h
 | .pt _ _ :: r, hd, s, c, t, h => by
  have h : It.ow s c t ∈ r := by simpa using h
  simp only [ownAd]; exact ownAd_mem (l := r) hd s c t h
 | .nl _ :: r, hd, s, c, t, h => by
  have h : It.ow s c t ∈ r := by simpa using h
  simp only [ownAd]; exact ownAd_mem (l := r) hd s c t h
 | .fv _ _ _ _ :: r, hd, s, c, t, h => by
  have h : It.ow s c t ∈ r := by simpa using h
  simp only [ownAd]; exact ownAd_mem (l := r) hd s c t h
 | .ob j D :: r, hd, s, c, t, h => by
  have h : It.ow s c t ∈ r := by simpa using h
  obtain ⟨h1, h2⟩ := noDup_cons hd
  obtain ⟨_, h4, h5⟩ := noDup_append h2
  have hc : c ∈ nmS r := owS_sub (mem_owS h)
  simp only [ownAd]
  rw [if_neg (fun e => h5 c e hc)]
  exact ownAd_mem h4 s c t h
 | .ro j D :: r, hd, s, c, t, h => by
  have h : It.ow s c t ∈ r := by simpa using h
  obtain ⟨h1, h2⟩ := noDup_cons hd
  obtain ⟨_, h4, h5⟩ := noDup_append h2
  have hc : c ∈ nmS r := owS_sub (mem_owS h)
  simp only [ownAd]
  rw [if_neg (fun e => h5 c e hc)]
  exact ownAd_mem h4 s c t h
theorem ownAd_ob : ∀ {l : List It}, noDup (nmS l) = true → ∀ i D, It.ob i D ∈ l → ∀ c ∈ D.nms, ownAd φ st a w l c = obPh φ st.mem w i D c
 | [], _, i, D, h, _, _ => by simp at h
 | .ow s' c' t' :: r, hd, i, D, h, c, hc => by
  have h : It.ob i D ∈ r := by simpa using h
  obtain ⟨h1, h2⟩ := noDup_cons hd
  have hcn : c ∈ nmS r := owS_sub ((mem_obS h).2 c hc)
  simp only [ownAd]
  rw [if_neg (fun e => by rw [e] at hcn; exact h1 hcn)]
  exact ownAd_ob h2 i D h c hc
 | .sl _ _ :: r, hd, i, D, h, c, hc => by
  have h : It.ob i D ∈ r := by simpa using h
  simp only [ownAd]; exact ownAd_ob (l := r) hd i D h c hc
 | .bl _ _ :: r, hd, i, D, h, c, hc => by
  have h : It.ob i D ∈ r := by simpa using h
  simp only [ownAd]; exact ownAd_ob (l := r) (noDup_cons hd).2 i D h c hc
 | .rb _ _ :: r, hd, i, D, h, c, hc => by
  have h : It.ob i D ∈ r := by simpa using h
  simp only [ownAd]; exact ownAd_ob (l := r) (noDup_cons hd).2 i D h c hc
 | .pt _ _ :: r, hd, i, D, h, c, hc => by
  have h : It.ob i D ∈ r := by simpa using h
  simp only [ownAd]; exact ownAd_ob (l := r) hd i D h c hc
 | .nl _ :: r, hd, i, D, h, c, hc => by
  have h : It.ob i D ∈ r := by simpa using h
  simp only [ownAd]; exact ownAd_ob (l := r) hd i D h c hc
 | .fv _ _ _ _ :: r, hd, i, D, h, c, hc => by
  have h : It.ob i D ∈ r := by simpa using h
  simp only [ownAd]; exact ownAd_ob (l := r) hd i D h c hc
 | .ob j D' :: r, hd, i, D, h, c, hc => by
  obtain ⟨h1, h2⟩ := noDup_cons hd
  obtain ⟨_, h4, h5⟩ := noDup_append h2
  simp only [List.mem_cons, It.ob.injEq] at h
  simp only [ownAd]
  rcases h with ⟨rfl, rfl⟩ | h
  ·rw [if_pos hc]
  ·have hcn : c ∈ nmS r := owS_sub ((mem_obS h).2 c hc)
   rw [if_neg (fun e => h5 c e hcn)]
   exact ownAd_ob h4 i D h c hc
 | .ro j D' :: r, hd, i, D, h, c, hc => by
  have h : It.ob i D ∈ r := by simpa using h
  obtain ⟨h1, h2⟩ := noDup_cons hd
  obtain ⟨_, h4, h5⟩ := noDup_append h2
  have hcn : c ∈ nmS r := owS_sub ((mem_obS h).2 c hc)
  simp only [ownAd]
  rw [if_neg (fun e => h5 c e hcn)]
  exact ownAd_ob h4 i D h c hc
theorem ownAd_ro : ∀ {l : List It}, noDup (nmS l) = true → ∀ i D, It.ro i D ∈ l → ∀ c ∈ D.nms, ownAd φ st a w l c = obPhI φ st.mem w i D c
 | [], _, i, D, h, _, _ => by simp at h
 | .ow s' c' t' :: r, hd, i, D, h, c, hc => by
  have h : It.ro i D ∈ r := by simpa using h
  obtain ⟨h1, h2⟩ := noDup_cons hd
  have hcn : c ∈ nmS r := owS_sub ((mem_roS h).2 c hc)
  simp only [ownAd]
  rw [if_neg (fun e => by rw [e] at hcn; exact h1 hcn)]
  exact ownAd_ro h2 i D h c hc
 | .sl _ _ :: r, hd, i, D, h, c, hc => by
  have h : It.ro i D ∈ r := by simpa using h
  simp only [ownAd]; exact ownAd_ro (l := r) hd i D h c hc
 | .bl _ _ :: r, hd, i, D, h, c, hc => by
  have h : It.ro i D ∈ r := by simpa using h
  simp only [ownAd]; exact ownAd_ro (l := r) (noDup_cons hd).2 i D h c hc
 | .rb _ _ :: r, hd, i, D, h, c, hc => by
  have h : It.ro i D ∈ r := by simpa using h
  simp only [ownAd]; exact ownAd_ro (l := r) (noDup_cons hd).2 i D h c hc
 | .pt _ _ :: r, hd, i, D, h, c, hc => by
  have h : It.ro i D ∈ r := by simpa using h
  simp only [ownAd]; exact ownAd_ro (l := r) hd i D h c hc
 | .nl _ :: r, hd, i, D, h, c, hc => by
  have h : It.ro i D ∈ r := by simpa using h
  simp only [ownAd]; exact ownAd_ro (l := r) hd i D h c hc
 | .fv _ _ _ _ :: r, hd, i, D, h, c, hc => by
  have h : It.ro i D ∈ r := by simpa using h
  simp only [ownAd]; exact ownAd_ro (l := r) hd i D h c hc
 | .ro j D' :: r, hd, i, D, h, c, hc => by
  obtain ⟨h1, h2⟩ := noDup_cons hd
  obtain ⟨_, h4, h5⟩ := noDup_append h2
  simp only [List.mem_cons, It.ro.injEq] at h
  simp only [ownAd]
  rcases h with ⟨rfl, rfl⟩ | h
  ·rw [if_pos hc]
  ·have hcn : c ∈ nmS r := owS_sub ((mem_roS h).2 c hc)
   rw [if_neg (fun e => h5 c e hcn)]
   exact ownAd_ro h4 i D h c hc
 | .ob j D' :: r, hd, i, D, h, c, hc => by
  have h : It.ro i D ∈ r := by simpa using h
  obtain ⟨h1, h2⟩ := noDup_cons hd
  obtain ⟨_, h4, h5⟩ := noDup_append h2
  have hcn : c ∈ nmS r := owS_sub ((mem_roS h).2 c hc)
  simp only [ownAd]
  rw [if_neg (fun e => h5 c e hcn)]
  exact ownAd_ro h4 i D h c hc
theorem ownAd_lt (hm : ∀ i ph, φ i = some ph → ph.blk < w.heap.size) : ∀ {l : List It} {i : Nat} {ph : Phys}, ownAd φ st a w l i = some ph → ph.blk < w.heap.size
 | [], i, ph, h => by cases h
 | .ow s c t :: r, i, ph, h => by
  simp only [ownAd] at h
  by_cases e : i = c
  ·rw [if_pos e] at h
   unfold slotPh at h
   split at h
   ·split at h
    ·rename_i ph0 _ _ _ h0 _
     split at h
     ·cases h; exact hm _ ph0 h0
     ·cases h
    ·cases h
   ·cases h
  ·rw [if_neg e] at h; exact ownAd_lt hm h
 | .sl _ _ :: r, i, ph, h => by simp only [ownAd] at h; exact ownAd_lt hm h
 | .bl _ _ :: r, i, ph, h => by simp only [ownAd] at h; exact ownAd_lt hm h
 | .rb _ _ :: r, i, ph, h => by simp only [ownAd] at h; exact ownAd_lt hm h
 | .pt _ _ :: r, i, ph, h => by simp only [ownAd] at h; exact ownAd_lt hm h
 | .nl _ :: r, i, ph, h => by simp only [ownAd] at h; exact ownAd_lt hm h
 | .fv _ _ _ _ :: r, i, ph, h => by simp only [ownAd] at h; exact ownAd_lt hm h
 | .ob j D :: r, i, ph, h => by
  simp only [ownAd] at h
  split at h
  ·exact obPh_lt hm h
  ·exact ownAd_lt hm h
 | .ro j D :: r, i, ph, h => by
  simp only [ownAd] at h
  split at h
  ·exact obPhI_lt hm h
  ·exact ownAd_lt hm h
def nwPhi (φ : Phi) (st : St) (a : Act) (w : World) (kp : Nat) (L : List It) : Phi :=
 ⟨fun i => if i ∈ owS L then ownAd φ st a w L i else if i < kp ∨ i ∈ blS L then φ i else none, φ.imm, φ.lo⟩
theorem CR_imm' {φ ψ : Phi} (h : φ.imm = ψ.imm) {t : Ty} (ht : valT t = true) {x : t.den} {c : Cell} {i : Nat} (hc : (flat t x)[i]? = some c) {v : Value} (hr : CR φ c v) : CR ψ c v :=
 CR_imm (fun k o hk => by rw [← h]; exact hk) (val_cells ht c (List.mem_of_getElem? hc)) hr
theorem extS_suffix (hr : Rel base φ st a w) {kp nxt : Nat} {L : List It} (hnd : noDup (nmS L) = true) (hkp : ∀ c ∈ owS L, kp ≤ c) (hpt : ∀ i ∈ ptS L, i < kp ∨ i ∈ blS L) :
 ∀ {l : List It} {x : XD l} {u : List Nat}, (∀ i ∈ l, i ∈ L) → noDup (nmS l) = true → (∀ i ∈ l, plainIt i = true) → extS l st = some (x, true, u) →
  TmR (nwPhi φ st a w kp L) (mkS st.n nxt l x).tm a.tmps ∧
  (∀ i b, Mem.get (mkS st.n nxt l x).mem i = some b → i ∈ nmS l ∧ ((nwPhi φ st a w kp L i = none ∧ b.n = 0) ∨ ∃ ph, nwPhi φ st a w kp L i = some ph ∧ BlkRel base (nwPhi φ st a w kp L) ph b w ∧
   ∃ i0 b0 ph0, i0 ∈ u ∧ Mem.get st.mem i0 = some b0 ∧ (b.wr = true → b0.wr = true) ∧ φ i0 = some ph0 ∧ ph0.blk = ph.blk)) ∧
  (∀ i j b b' ph ph', Mem.get (mkS st.n nxt l x).mem i = some b → Mem.get (mkS st.n nxt l x).mem j = some b' → i ≠ j → b.wr = true → nwPhi φ st a w kp L i = some ph → nwPhi φ st a w kp L j = some ph' → ph.blk ≠ ph'.blk)
 | [], x, u, _, _, _, h => by
  refine ⟨fun s v c hs => ?_, fun i b hi => ?_, fun i j b b' ph ph' hi => ?_⟩
  ·simp [mkS, Tr.get] at hs
  ·simp [mkS, Mem.get] at hi
  ·simp [mkS, Mem.get] at hi
 | .sl s t :: r, x, u, hsub, hd, hpl, h => by
  simp only [extS] at h
  split at h
  ·rename_i v c y d u' hs he
   split at h
   ·rename_i z hz
    simp only [Option.some.injEq, Prod.mk.injEq] at h
    obtain ⟨rfl, hok, rfl⟩ := h
    obtain ⟨rfl, rfl⟩ := and_split hok
    obtain ⟨h1, h2, h3⟩ := extS_suffix hr hnd hkp hpt (l := r) (nxt := nxt) (fun i hi => hsub i (by simp [hi])) hd (fun i hi => hpl i (by simp [hi])) he
    refine ⟨fun s' v' c' hs' => ?_, h2, h3⟩
    simp only [mkS] at hs'
    rcases Tr.get_set hs' with ⟨rfl, hh⟩ | ⟨_, hh⟩
    ·cases hh
     refine ⟨fun _ => ?_, fun e => (by cases e)⟩
     have hv := coeV_ok (t := t) ((hr.tm _ _ _ hs).1 rfl)
     rw [asT_eq hz] at hv
     exact valV_ok (φ := φ) (ψ := nwPhi φ st a w kp L) (fun _ _ h => h) (by have := hpl (.sl s' t) (by simp); simp only [plainIt] at this; simp [valV, this]) hv
    ·exact h1 s' v' c' hh
   ·cases h
  ·cases h
 | .pt s p :: r, x, u, hsub, hd, hpl, h => by
  simp only [extS] at h
  split at h
  ·rename_i p' c y d u' hs he
   split at h
   ·rename_i hpp
    subst hpp
    simp only [Option.some.injEq, Prod.mk.injEq] at h
    obtain ⟨rfl, hok, rfl⟩ := h
    obtain ⟨rfl, rfl⟩ := and_split hok
    obtain ⟨h1, h2, h3⟩ := extS_suffix hr hnd hkp hpt (l := r) (nxt := nxt) (fun i hi => hsub i (by simp [hi])) hd (fun i hi => hpl i (by simp [hi])) he
    refine ⟨fun s' v' c' hs' => ?_, h2, h3⟩
    simp only [mkS] at hs'
    rcases Tr.get_set hs' with ⟨rfl, hh⟩ | ⟨_, hh⟩
    ·cases hh
     refine ⟨fun _ => ?_, fun e => (by cases e)⟩
     obtain ⟨ad, had, hav⟩ := VR_ptr.1 ((hr.tm _ _ _ hs).1 rfl)
     refine VR_ptr.2 ⟨ad, ?_, hav⟩
     have hin : p'.id ∈ ptS L := mem_ptS (hsub (.pt s' p') (by simp))
     have hnw : nwPhi φ st a w kp L p'.id = φ p'.id := by
      show (if p'.id ∈ owS L then _ else if p'.id < kp ∨ p'.id ∈ blS L then φ p'.id else none) = _
      rw [if_neg, if_pos (hpt _ hin)]
      intro ho
      rcases hpt _ hin with h | h
      ·have := hkp _ ho; omega
      ·exact nm_disj hnd ho h
     unfold addr at had ⊢
     rw [hnw]; exact had
    ·exact h1 s' v' c' hh
   ·cases h
  ·cases h
 | .bl i t :: r, x, u, hsub, hd, hpl, h => by
  simp only [extS] at h
  split at h
  ·rename_i b y d u' hb he
   split at h
   ·rename_i hbt
    cases hc : u'.contains i <;> rw [hc] at h
    ·simp only [cond_false, Option.some.injEq, Prod.mk.injEq] at h
     obtain ⟨rfl, hok, rfl⟩ := h
     obtain ⟨hb, hbnt⟩ := Mem.getC_spec hb
     obtain ⟨hwr, hok⟩ := and_split hok
     obtain ⟨hn1, rfl⟩ := and_split hok
     obtain ⟨bt, bn, brow, bwr⟩ := b
     simp only at hbt hwr hn1 hbnt
     subst hbt
     have hn1 := Nat.eq_of_beq_eq_true hn1
     subst hn1; subst hwr
     obtain ⟨hnin, hd'⟩ := noDup_cons hd
     have hiu : i ∉ u' := by intro hm; rw [show u'.contains i = true from by simpa using hm] at hc; cases hc
     obtain ⟨h1, h2, h3⟩ := extS_suffix hr hnd hkp hpt (l := r) (nxt := nxt) (fun i hi => hsub i (by simp [hi])) hd' (fun i hi => hpl i (by simp [hi])) he
     have hmemL : i ∈ blS L := mem_blS (hsub (.bl i bt) (by simp))
     have hnw : nwPhi φ st a w kp L i = φ i := by
      show (if i ∈ owS L then _ else if i < kp ∨ i ∈ blS L then φ i else none) = _
      rw [if_neg (fun ho => nm_disj hnd ho hmemL), if_pos (.inr hmemL)]
     have hT : valT bt = true := hpl (.bl i bt) (by simp)
     have hnew : (φ i = none ∧ (1 : Nat) = 0) ∨ ∃ ph, φ i = some ph ∧ BlkRel base φ ph ⟨bt, 1, brow, true⟩ w := by
      rcases hr.mem.blk i _ hb with ⟨_, h0⟩ | h
      ·simp at h0
      ·exact .inr h
     obtain ⟨ph, hph, hbr⟩ := hnew.resolve_left (fun h => by omega)
     have hbr' : BlkRel base (nwPhi φ st a w kp L) ph ⟨bt, 1, [brow.getD 0 (dflt bt)], true⟩ w := by
      obtain ⟨cs, el, fr, g1, g2, g3⟩ := hbr.cells hbnt
      refine ⟨hbr.t, fun _ => ⟨(g3 rfl).1, (g3 rfl).2.2.1⟩, MpRel.plain hbnt _, fun _ => ⟨cs, el, fr, g1, fun k c hk => ?_, fun _ => g3 rfl⟩⟩
      have hk' : (flat (.arr 1 bt) brow)[k]? = some c := by
       have e1 : flat (.arr 1 bt) brow = flat bt (brow.getD 0 (dflt bt)) := by simp [flat, List.range_succ]
       rw [e1, ← flat_one]; exact hk
      obtain ⟨v, hv, hx⟩ := g2 k c hk'
      exact ⟨v, hv, CR_imm' (φ := φ) (ψ := nwPhi φ st a w kp L) (t := .arr 1 bt) rfl (by simpa [valT] using hT) hk' hx⟩
     refine ⟨h1, fun j b hj => ?_, fun j k b b' p p' hj hk hjk hw hp hp' => ?_⟩
     ·simp only [mkS, Mem.get_cons] at hj
      by_cases e : j = i
      ·rw [if_pos e] at hj; cases hj; subst e
       exact ⟨by simp [nmS], .inr ⟨ph, hnw.trans hph, hbr', j, _, ph, by simp, hb, fun _ => rfl, hph, rfl⟩⟩
      ·rw [if_neg e] at hj
       obtain ⟨g1, g2⟩ := h2 j b hj
       refine ⟨by simp [nmS, g1], g2.imp id (fun ⟨ph, k1, k2, i0, b0, ph0, k3, k4⟩ => ⟨ph, k1, k2, i0, b0, ph0, by simp [k3], k4⟩)⟩
     ·simp only [mkS, Mem.get_cons] at hj hk
      have other : ∀ j b p, Mem.get (mkS st.n nxt r y).mem j = some b → nwPhi φ st a w kp L j = some p → p.blk ≠ ph.blk := by
       intro j b p hj hp
       rcases (h2 j b hj).2 with ⟨g, _⟩ | ⟨ph', k1, _, i0, b0, ph0, k3, k4, k5, k6, k7⟩
       ·rw [hp] at g; cases g
       ·rw [hp] at k1; cases k1
        rw [← k7]
        exact (hr.mem.apart i i0 _ b0 ph ph0 hb k4 (fun e => hiu (e ▸ k3)) rfl hph k6).symm
      by_cases e1 : j = i
      ·subst e1
       rw [if_neg (fun e => hjk e.symm)] at hk
       rw [hnw, hph] at hp; cases hp
       exact (other k b' p' hk hp').symm
      ·rw [if_neg e1] at hj
       by_cases e2 : k = i
       ·subst e2
        rw [hnw, hph] at hp'; cases hp'
        exact other j b p hj hp
       ·rw [if_neg e2] at hk
        exact h3 j k b b' p p' hj hk hjk hw hp hp'
    ·cases h
   ·cases h
  ·cases h
 | .rb i t :: r, x, u, hsub, hd, hpl, h => by
  simp only [extS] at h
  split at h
  ·rename_i b y d u' hb he
   split at h
   ·rename_i hbt
    cases hc : u'.contains i <;> rw [hc] at h
    ·simp only [cond_false, Option.some.injEq, Prod.mk.injEq] at h
     obtain ⟨rfl, hok, rfl⟩ := h
     obtain ⟨hb, hbnt⟩ := Mem.getC_spec hb
     obtain ⟨hn1, rfl⟩ := and_split hok
     obtain ⟨bt, bn, brow, bwr⟩ := b
     simp only at hbt hn1 hbnt
     subst hbt
     have hn1 := Nat.eq_of_beq_eq_true hn1
     subst hn1
     obtain ⟨hnin, hd'⟩ := noDup_cons hd
     have hiu : i ∉ u' := by intro hm; rw [show u'.contains i = true from by simpa using hm] at hc; cases hc
     obtain ⟨h1, h2, h3⟩ := extS_suffix hr hnd hkp hpt (l := r) (nxt := nxt) (fun i hi => hsub i (by simp [hi])) hd' (fun i hi => hpl i (by simp [hi])) he
     have hmemL : i ∈ blS L := mem_rbS (hsub (.rb i bt) (by simp))
     have hnw : nwPhi φ st a w kp L i = φ i := by
      show (if i ∈ owS L then _ else if i < kp ∨ i ∈ blS L then φ i else none) = _
      rw [if_neg (fun ho => nm_disj hnd ho hmemL), if_pos (.inr hmemL)]
     have hT : valT bt = true := hpl (.rb i bt) (by simp)
     have hnew : (φ i = none ∧ (1 : Nat) = 0) ∨ ∃ ph, φ i = some ph ∧ BlkRel base φ ph ⟨bt, 1, brow, bwr⟩ w := by
      rcases hr.mem.blk i _ hb with ⟨_, h0⟩ | h
      ·simp at h0
      ·exact .inr h
     obtain ⟨ph, hph, hbr⟩ := hnew.resolve_left (fun h => by omega)
     have hbr' : BlkRel base (nwPhi φ st a w kp L) ph ⟨bt, 1, [brow.getD 0 (dflt bt)], false⟩ w := by
      obtain ⟨cs, el, fr, g1, g2, g3⟩ := hbr.cells hbnt
      refine ⟨hbr.t, fun e => (by cases e), MpRel.plain hbnt _, fun _ => ⟨cs, el, fr, g1, fun k c hk => ?_, fun e => (by cases e)⟩⟩
      have hk' : (flat (.arr 1 bt) brow)[k]? = some c := by
       have e1 : flat (.arr 1 bt) brow = flat bt (brow.getD 0 (dflt bt)) := by simp [flat, List.range_succ]
       rw [e1, ← flat_one]; exact hk
      obtain ⟨v, hv, hx⟩ := g2 k c hk'
      exact ⟨v, hv, CR_imm' (φ := φ) (ψ := nwPhi φ st a w kp L) (t := .arr 1 bt) rfl (by simpa [valT] using hT) hk' hx⟩
     refine ⟨h1, fun j b hj => ?_, fun j k b b' p p' hj hk hjk hw hp hp' => ?_⟩
     ·simp only [mkS, Mem.get_cons] at hj
      by_cases e : j = i
      ·rw [if_pos e] at hj; cases hj; subst e
       exact ⟨by simp [nmS], .inr ⟨ph, hnw.trans hph, hbr', j, _, ph, by simp, hb, fun e => (by cases e), hph, rfl⟩⟩
      ·rw [if_neg e] at hj
       obtain ⟨g1, g2⟩ := h2 j b hj
       refine ⟨by simp [nmS, g1], g2.imp id (fun ⟨ph, k1, k2, i0, b0, ph0, k3, k4⟩ => ⟨ph, k1, k2, i0, b0, ph0, by simp [k3], k4⟩)⟩
     ·simp only [mkS, Mem.get_cons] at hj hk
      have other : ∀ j b p, Mem.get (mkS st.n nxt r y).mem j = some b → b.wr = true → nwPhi φ st a w kp L j = some p → p.blk ≠ ph.blk := by
       intro j b p hj hw hp
       rcases (h2 j b hj).2 with ⟨g, _⟩ | ⟨ph', k1, _, i0, b0, ph0, k3, k4, k5, k6, k7⟩
       ·rw [hp] at g; cases g
       ·rw [hp] at k1; cases k1
        rw [← k7]
        exact hr.mem.apart i0 i b0 _ ph0 ph k4 hb (fun e => hiu (e ▸ k3)) (k5 hw) k6 hph
      by_cases e1 : j = i
      ·subst e1
       rw [if_pos rfl] at hj
       cases hj
       cases hw
      ·rw [if_neg e1] at hj
       by_cases e2 : k = i
       ·subst e2
        rw [hnw, hph] at hp'; cases hp'
        exact other j b p hj hw hp
       ·rw [if_neg e2] at hk
        exact h3 j k b b' p p' hj hk hjk hw hp hp'
    ·cases h
   ·cases h
  ·cases h
 | .fv s f p q :: r, x, u, hsub, hd, hpl, h => by
  simp only [extS] at h
  split at h
  ·rename_i g av bv c y d u' hs he
   cases hb : Nat.beq g f && (isPks p av && isPks q bv) <;> rw [hb] at h
   ·cases h
   obtain ⟨hb1, hb23⟩ := and_split hb
   obtain ⟨hb2, hb3⟩ := and_split hb23
   have hgf := Nat.eq_of_beq_eq_true hb1
   have hav := isPks_eq hb2
   have hbv := isPks_eq hb3
   subst hgf; subst hav; subst hbv
   simp only [cond_true, Option.some.injEq, Prod.mk.injEq] at h
   obtain ⟨rfl, hok, rfl⟩ := h
   obtain ⟨rfl, rfl⟩ := and_split hok
   obtain ⟨h1, h2, h3⟩ := extS_suffix hr hnd hkp hpt (l := r) (nxt := nxt) (fun i hi => hsub i (by simp [hi])) hd (fun i hi => hpl i (by simp [hi])) he
   refine ⟨fun s' v' c' hs' => ?_, h2, h3⟩
   simp only [mkS] at hs'
   rcases Tr.get_set hs' with ⟨rfl, hh⟩ | ⟨_, hh⟩
   ·cases hh
    refine ⟨fun _ => ?_, fun e => (by cases e)⟩
    have hid : ∀ x, x ∈ p ∨ x ∈ q → nwPhi φ st a w kp L x.id = φ x.id := by
     intro x hx
     have hin : x.id ∈ ptS L := mem_ptF (hsub (.fv s' g p q) (by simp)) x hx
     show (if x.id ∈ owS L then _ else if x.id < kp ∨ x.id ∈ blS L then φ x.id else none) = _
     rw [if_neg, if_pos (hpt _ hin)]
     intro ho
     rcases hpt _ hin with h | h
     ·have := hkp _ ho; omega
     ·exact nm_disj hnd ho h
    obtain ⟨xa, xb, hv, g1, g2⟩ := VR_func.1 ((hr.tm _ _ _ hs).1 rfl)
    exact VR_func.2 ⟨xa, xb, hv, VL0_ptrs (fun x hx => hid x (.inl hx)) g1, VL0_ptrs (fun x hx => hid x (.inr hx)) g2⟩
   ·exact h1 s' v' c' hh
  ·cases h
 | .nl s :: r, x, u, hsub, hd, hpl, h => by
  simp only [extS] at h
  split at h
  ·rename_i c y d u' hs he
   simp only [Option.some.injEq, Prod.mk.injEq] at h
   obtain ⟨rfl, hok, rfl⟩ := h
   obtain ⟨rfl, rfl⟩ := and_split hok
   obtain ⟨h1, h2, h3⟩ := extS_suffix hr hnd hkp hpt (l := r) (nxt := nxt) (fun i hi => hsub i (by simp [hi])) hd (fun i hi => hpl i (by simp [hi])) he
   refine ⟨fun s' v' c' hs' => ?_, h2, h3⟩
   simp only [mkS] at hs'
   rcases Tr.get_set hs' with ⟨rfl, hh⟩ | ⟨_, hh⟩
   ·cases hh
    exact ⟨fun _ => VR_nilptr.2 (VR_nilptr.1 ((hr.tm _ _ _ hs).1 rfl)), fun e => (by cases e)⟩
   ·exact h1 s' v' c' hh
  ·cases h
 | .ob i D :: r, x, u, hsub, hd, hpl, h => by
  simp only [extS] at h
  split at h
  ·rename_i b y d u' hb he
   split at h
   ·rename_i x' c v hrd
    cases hc : anyIn v u' <;> rw [hc] at h
    ·simp only [cond_false, Option.some.injEq, Prod.mk.injEq] at h
     obtain ⟨rfl, hok, rfl⟩ := h
     obtain ⟨rfl, rfl⟩ := and_split hok
     obtain ⟨g1, g2⟩ := noDup_cons hd
     obtain ⟨g3, g4, g5⟩ := noDup_append g2
     obtain ⟨h1, h2, h3⟩ := extS_suffix hr hnd hkp hpt (l := r) (nxt := nxt) (fun i hi => hsub i (by simp [hi])) g4 (fun i hi => hpl i (by simp [hi])) he
     have hin : It.ob i D ∈ L := hsub (.ob i D) (by simp)
     obtain ⟨hbL, hoL⟩ := mem_obS hin
     have hnwi : nwPhi φ st a w kp L i = φ i := by
      show (if i ∈ owS L then _ else if i < kp ∨ i ∈ blS L then φ i else none) = _
      rw [if_neg (fun ho => nm_disj hnd ho hbL), if_pos (.inr hbL)]
     have hA := ob_sound (ψ := nwPhi φ st a w kp L) hr.mem rfl hb hrd (hpl (.ob i D) (by simp)) g3 hnwi (fun c hc => by
      show (if c ∈ owS L then ownAd φ st a w L c else _) = _
      rw [if_pos (hoL c hc)]
      exact ownAd_ob hnd i D hin c hc)
     have hB : MemAt base φ (nwPhi φ st a w kp L) st.mem w u' (mkS st.n nxt r y).mem := ⟨fun i b hi => (h2 i b hi).2, h3⟩
     have hAB := hA.append hr.mem (anyIn_f hc) hB
     refine ⟨h1, fun j b hj => ⟨?_, hAB.at_ j b hj⟩, hAB.apart⟩
     simp only [mkS, Mem.get_append] at hj
     simp only [nmS, List.mem_cons, List.mem_append]
     split at hj
     ·rename_i z hz
      simp only [Mem.get_cons] at hz
      by_cases e : j = i
      ·exact .inl e
      ·rw [if_neg e] at hz; exact .inr (.inl (Dk.get_blks hz))
     ·exact .inr (.inr (h2 j b hj).1)
    ·cases h
   ·cases h
  ·cases h
 | .ro i D :: r, x, u, hsub, hd, hpl, h => by
  simp only [extS] at h
  split at h
  ·rename_i b y d u' hb he
   split at h
   ·rename_i x' c v hrd
    cases hc : anyIn v u' <;> rw [hc] at h
    ·simp only [cond_false, Option.some.injEq, Prod.mk.injEq] at h
     obtain ⟨rfl, hok, rfl⟩ := h
     obtain ⟨rfl, rfl⟩ := and_split hok
     obtain ⟨g1, g2⟩ := noDup_cons hd
     obtain ⟨g3, g4, g5⟩ := noDup_append g2
     obtain ⟨h1, h2, h3⟩ := extS_suffix hr hnd hkp hpt (l := r) (nxt := nxt) (fun i hi => hsub i (by simp [hi])) g4 (fun i hi => hpl i (by simp [hi])) he
     have hin : It.ro i D ∈ L := hsub (.ro i D) (by simp)
     obtain ⟨hbL, hoL⟩ := mem_roS hin
     have hnwi : nwPhi φ st a w kp L i = φ i := by
      show (if i ∈ owS L then _ else if i < kp ∨ i ∈ blS L then φ i else none) = _
      rw [if_neg (fun ho => nm_disj hnd ho hbL), if_pos (.inr hbL)]
     have hA := obI_sound (ψ := nwPhi φ st a w kp L) hr.mem rfl hb hrd (hpl (.ro i D) (by simp)) g3 hnwi (fun c hc => by
      show (if c ∈ owS L then ownAd φ st a w L c else _) = _
      rw [if_pos (hoL c hc)]
      exact ownAd_ro hnd i D hin c hc)
     have hB : MemAt base φ (nwPhi φ st a w kp L) st.mem w u' (mkS st.n nxt r y).mem := ⟨fun i b hi => (h2 i b hi).2, h3⟩
     have hAB := hA.append hr.mem (anyIn_f hc) hB
     refine ⟨h1, fun j b hj => ⟨?_, hAB.at_ j b hj⟩, hAB.apart⟩
     simp only [mkS, Mem.get_append] at hj
     simp only [nmS, List.mem_cons, List.mem_append]
     split at hj
     ·rename_i z hz
      simp only [Mem.get_cons] at hz
      by_cases e : j = i
      ·exact .inl e
      ·rw [if_neg e] at hz; exact .inr (.inl (Dk.get_blksR hz))
     ·exact .inr (.inr (h2 j b hj).1)
    ·cases h
   ·cases h
  ·cases h
 | .ow s c t :: r, x, u, hsub, hd, hpl, h => by
  simp only [extS] at h
  obtain ⟨hnin, hd'⟩ := noDup_cons hd
  have hcL : c ∈ owS L := mem_owS (hsub (.ow s c t) (by simp))
  have hnw : nwPhi φ st a w kp L c = slotPh φ st a s t := by
   show (if c ∈ owS L then ownAd φ st a w L c else _) = _
   rw [if_pos hcL]
   exact ownAd_mem hnd s c t (hsub (.ow s c t) (by simp))
  have hT : valT t = true := hpl (.ow s c t) (by simp)
  split at h
  ·rename_i e y d u' hs he
   simp only [Option.some.injEq, Prod.mk.injEq] at h
   obtain ⟨rfl, hok, rfl⟩ := h
   obtain ⟨rfl, rfl⟩ := and_split hok
   obtain ⟨h1, h2, h3⟩ := extS_suffix hr hnd hkp hpt (l := r) (nxt := nxt) (fun i hi => hsub i (by simp [hi])) hd' (fun i hi => hpl i (by simp [hi])) he
   have hv := VR_nilslice.1 ((hr.tm _ _ _ hs).1 rfl)
   have hnone : nwPhi φ st a w kp L c = none := by rw [hnw]; unfold slotPh; rw [hs]
   refine ⟨fun s' v' c' hs' => ?_, fun j b hj => ?_, fun j k b b' p p' hj hk hjk hw hp hp' => ?_⟩
   ·simp only [mkS] at hs'
    rcases Tr.get_set hs' with ⟨rfl, hh⟩ | ⟨_, hh⟩
    ·cases hh
     exact ⟨fun _ => VR_slice.2 (.inl ⟨rfl, rfl, hv⟩), fun e => (by cases e)⟩
    ·exact h1 s' v' c' hh
   ·simp only [mkS, Mem.get_cons] at hj
    by_cases e : j = c
    ·rw [if_pos e] at hj; cases hj; subst e
     exact ⟨by simp [nmS], .inl ⟨hnone, rfl⟩⟩
    ·rw [if_neg e] at hj
     obtain ⟨g1, g2⟩ := h2 j b hj
     exact ⟨by simp [nmS, g1], g2⟩
   ·simp only [mkS, Mem.get_cons] at hj hk
    by_cases e1 : j = c
    ·subst e1; rw [hnone] at hp; cases hp
    ·by_cases e2 : k = c
     ·subst e2; rw [hnone] at hp'; cases hp'
     ·rw [if_neg e1] at hj; rw [if_neg e2] at hk
      exact h3 j k b b' p p' hj hk hjk hw hp hp'
  ·rename_i q e y d u' hs he
   split at h
   ·rename_i b hqp hb
    obtain ⟨hb, hbnt⟩ := Mem.getC_spec hb
    split at h
    ·rename_i hbt
     cases hc : u'.contains q.id <;> rw [hc] at h
     ·simp only [cond_false, Option.some.injEq, Prod.mk.injEq] at h
      obtain ⟨rfl, hok, rfl⟩ := h
      rw [Bool.and_eq_true, Bool.and_eq_true, Bool.and_eq_true, Bool.and_eq_true, Bool.and_eq_true] at hok
      obtain ⟨hok1, hmk, hwr, hle, hcap, hok2⟩ := hok
      have hnv : ¬ VD q := VD.start (by simpa using hmk)
      subst hok1 hok2
      have hle := of_decide_eq_true hle
      obtain ⟨bt, bn, brow, bwr⟩ := b
      simp only at hbt hwr hle hcap
      subst hbt
      subst hwr
      have hiu : q.id ∉ u' := by intro hm; rw [show u'.contains q.id = true from by simpa using hm] at hc; cases hc
      obtain ⟨h1, h2, h3⟩ := extS_suffix hr hnd hkp hpt (l := r) (nxt := nxt) (fun i hi => hsub i (by simp [hi])) hd' (fun i hi => hpl i (by simp [hi])) he
      have hvv := VR_slice.1 ((hr.tm _ _ _ hs).1 rfl)
      have empty : slotPh φ st a s bt = none → q.len = 0 → (SR (nwPhi φ st a w kp L) ⟨c, [], 0, (sec (dflt bt) brow q.start q.len).length, none⟩ (a.tmps.getD s undef)) →
       TmR (nwPhi φ st a w kp L) (mkS st.n nxt (.ow s c bt :: r) (sec (dflt bt) brow q.start q.len, y)).tm a.tmps ∧
       (∀ i b, Mem.get (mkS st.n nxt (.ow s c bt :: r) (sec (dflt bt) brow q.start q.len, y)).mem i = some b → i ∈ nmS (.ow s c bt :: r) ∧ ((nwPhi φ st a w kp L i = none ∧ b.n = 0) ∨ ∃ ph, nwPhi φ st a w kp L i = some ph ∧ BlkRel base (nwPhi φ st a w kp L) ph b w ∧
        ∃ i0 b0 ph0, i0 ∈ q.id :: u' ∧ Mem.get st.mem i0 = some b0 ∧ (b.wr = true → b0.wr = true) ∧ φ i0 = some ph0 ∧ ph0.blk = ph.blk)) ∧
       (∀ i j b b' ph ph', Mem.get (mkS st.n nxt (.ow s c bt :: r) (sec (dflt bt) brow q.start q.len, y)).mem i = some b → Mem.get (mkS st.n nxt (.ow s c bt :: r) (sec (dflt bt) brow q.start q.len, y)).mem j = some b' → i ≠ j → b.wr = true → nwPhi φ st a w kp L i = some ph → nwPhi φ st a w kp L j = some ph' → ph.blk ≠ ph'.blk) := by
       intro hsp hl0 hsr
       have hnone : nwPhi φ st a w kp L c = none := by rw [hnw]; exact hsp
       refine ⟨fun s' v' c' hs' => ?_, fun j b hj => ?_, fun j k b b' p p' hj hk hjk hw hp hp' => ?_⟩
       ·simp only [mkS] at hs'
        rcases Tr.get_set hs' with ⟨rfl, hh⟩ | ⟨_, hh⟩
        ·cases hh
         exact ⟨fun _ => VR_slice.2 hsr, fun e => (by cases e)⟩
        ·exact h1 s' v' c' hh
       ·simp only [mkS, Mem.get_cons] at hj
        by_cases e : j = c
        ·rw [if_pos e] at hj; cases hj; subst e
         exact ⟨by simp [nmS], .inl ⟨hnone, by simp only [length_sec]; exact hl0⟩⟩
        ·rw [if_neg e] at hj
         obtain ⟨g1, g2⟩ := h2 j b hj
         exact ⟨by simp [nmS, g1], g2.imp id (fun ⟨ph, k1, k2, i0, b0, ph0, k3, k4⟩ => ⟨ph, k1, k2, i0, b0, ph0, by simp [k3], k4⟩)⟩
       ·simp only [mkS, Mem.get_cons] at hj hk
        by_cases e1 : j = c
        ·subst e1; rw [hnone] at hp; cases hp
        ·by_cases e2 : k = c
         ·subst e2; rw [hnone] at hp'; cases hp'
         ·rw [if_neg e1] at hj; rw [if_neg e2] at hk
          exact h3 j k b b' p p' hj hk hjk hw hp hp'
      rcases hvv with ⟨hl0, _, hv⟩ | ⟨ad, cc, hv, hlc, hck, hcn, had⟩
      ·exact empty (by unfold slotPh; rw [hs]; simp only; rw [hv]; cases φ q.id <;> rfl) hl0 (.inl ⟨by simp only [length_sec]; exact hl0, rfl, hv⟩)
      ·rcases Nat.eq_zero_or_pos cc with h0 | hpos
       ·have hl0 : q.len = 0 := by omega
        refine empty (by unfold slotPh; rw [hs]; simp only; rw [hv]; cases φ q.id <;> simp [h0]) hl0 (.inr ⟨ad, cc, ?_, ?_, fun k hk => (by cases hk), fun _ hc _ => (by omega), fun hc _ => (by omega)⟩)
        ·simp only [length_sec]; exact hv
        ·simp only [length_sec]; exact hlc
       ·have ha := had hpos hnv
        obtain ⟨ph, hph⟩ := addr_phys ha
        simp only at hph
        have hbr := hr.mem.blkAt hb hph
        obtain ⟨cs, el, fr, g1, g2, g3⟩ := hbr.cells hbnt
        obtain ⟨hbs, rfl, him, hbcap, hsz⟩ := g3 rfl
        have hsp : slotPh φ st a s bt = some ⟨ph.blk, ph.off + q.start * size bt, bt, cc⟩ := by
         unfold slotPh; rw [hs]; simp only; rw [hph, hv]; simp only; rw [if_pos hpos]
        have hsome : nwPhi φ st a w kp L c = some ⟨ph.blk, ph.off + q.start * size bt, bt, cc⟩ := hnw.trans hsp
        have hcap2 : q.start + cc ≤ ph.cap := by
         cases hqc : q.cap with
         | none =>
          obtain ⟨ph', hp', _, he'⟩ := hcn hqc hpos hnv
          rw [hph] at hp'; cases hp'
          omega
         | some k =>
          have := hck k hqc
          rw [hqc] at hcap
          simp only [decide_eq_true_eq] at hcap
          simp only at hbcap
          omega
        have hadd : ad = ⟨ph.blk, ph.off + q.start * size bt, none⟩ := by
         unfold addr at ha
         have h00 : offs bt [] = some 0 := by cases bt <;> rfl
         simp only [hph, hqp, List.nil_append, hbr.t] at ha
         simp only [offs, h00, Option.map_some, Nat.add_zero, Option.some.injEq] at ha
         exact ha.symm
        have hnb : BlkRel base (nwPhi φ st a w kp L) ⟨ph.blk, ph.off + q.start * size bt, bt, cc⟩ ⟨bt, (sec (dflt bt) brow q.start q.len).length, sec (dflt bt) brow q.start q.len, true⟩ w := by
         refine ⟨rfl, fun _ => ⟨hbs, him⟩, MpRel.plain hbnt _, fun _ => ⟨cs, el, (0, 0), g1, fun k d hk => ?_, fun _ => ⟨hbs, rfl, him, by simp only [length_sec]; exact hlc, ?_⟩⟩⟩
         ·have hk0 : (flat (.arr q.len bt) (sec (dflt bt) brow q.start q.len))[k]? = some d := by
           have hk' : (flat (.arr (sec (dflt bt) brow q.start q.len).length bt) (sec (dflt bt) brow q.start q.len))[k]? = some d := hk
           rwa [length_sec] at hk'
          have hlt := (List.getElem?_eq_some_iff.1 hk0).1
          rw [length_flat, size] at hlt
          have hposz : 0 < size bt := by
           rcases Nat.eq_zero_or_pos (size bt) with h0 | h0
           ·rw [h0] at hlt; omega
           ·exact h0
          have hq : k / size bt < q.len := Nat.div_lt_of_lt_mul (by rw [Nat.mul_comm]; exact hlt)
          have hrr : k % size bt < size bt := Nat.mod_lt _ hposz
          have hkk : k = k / size bt * size bt + k % size bt := by rw [Nat.mul_comm]; exact (Nat.div_add_mod k (size bt)).symm
          have hk1 := hk0
          rw [flat, hkk, get_flatMap_const _ (size bt) (fun i => length_flat bt _) _ _ _ hq hrr, getD_sec _ _ _ _ _ hq] at hk1
          obtain ⟨v, hv', hvr⟩ := g2 ((q.start + k / size bt) * size bt + k % size bt) d (by
           show (flat (.arr bn bt) brow)[_]? = some d
           rw [flat, get_flatMap_const _ (size bt) (fun i => length_flat bt _) _ _ _ (by omega) hrr]; exact hk1)
          refine ⟨v, ?_, CR_imm' (φ := φ) (ψ := nwPhi φ st a w kp L) (t := bt) rfl hT hk1 hvr⟩
          rw [← hv']
          congr 1
          show ph.off + q.start * size bt + k = _
          rw [Nat.add_mul]; omega
         ·simp only at hsz ⊢
          have : (q.start + cc) * size bt ≤ ph.cap * size bt := Nat.mul_le_mul_right _ hcap2
          rw [Nat.add_mul] at this
          omega
        refine ⟨fun s' v' c' hs' => ?_, fun j b hj => ?_, fun j k b b' p p' hj hk hjk hw hp hp' => ?_⟩
        ·simp only [mkS] at hs'
         rcases Tr.get_set hs' with ⟨rfl, hh⟩ | ⟨_, hh⟩
         ·cases hh
          refine ⟨fun _ => VR_slice.2 (.inr ⟨ad, cc, by simp only [length_sec]; exact hv, by simp only [length_sec]; exact hlc, fun k hk => (by cases hk), fun _ _ _ => ⟨_, hsome, rfl, by simp⟩, fun _ _ => ?_⟩), fun e => (by cases e)⟩
          unfold addr
          simp only [hsome]
          have h00 : offs bt [] = some 0 := by cases bt <;> rfl
          simp [offs, h00, hadd]
         ·exact h1 s' v' c' hh
        ·simp only [mkS, Mem.get_cons] at hj
         by_cases e : j = c
         ·rw [if_pos e] at hj; cases hj; subst e
          exact ⟨by simp [nmS], .inr ⟨_, hsome, hnb, q.id, _, ph, by simp, hb, fun _ => rfl, hph, rfl⟩⟩
         ·rw [if_neg e] at hj
          obtain ⟨k1, k2⟩ := h2 j b hj
          exact ⟨by simp [nmS, k1], k2.imp id (fun ⟨ph, k1, k2, i0, b0, ph0, k3, k4⟩ => ⟨ph, k1, k2, i0, b0, ph0, by simp [k3], k4⟩)⟩
        ·simp only [mkS, Mem.get_cons] at hj hk
         have other : ∀ j b p, Mem.get (mkS st.n nxt r y).mem j = some b → nwPhi φ st a w kp L j = some p → p.blk ≠ ph.blk := by
          intro j b p hj hp
          rcases (h2 j b hj).2 with ⟨g, _⟩ | ⟨ph', k1, _, i0, b0, ph0, k3, k4, k5, k6, k7⟩
          ·rw [hp] at g; cases g
          ·rw [hp] at k1; cases k1
           rw [← k7]
           exact (hr.mem.apart q.id i0 _ b0 ph ph0 hb k4 (fun e => hiu (e ▸ k3)) rfl hph k6).symm
         by_cases e1 : j = c
         ·subst e1
          rw [if_neg (fun e => hjk e.symm)] at hk
          rw [hsome] at hp; cases hp
          exact (other k b' p' hk hp').symm
         ·rw [if_neg e1] at hj
          by_cases e2 : k = c
          ·subst e2
           rw [hsome] at hp'; cases hp'
           exact other j b p hj hp
          ·rw [if_neg e2] at hk
           exact h3 j k b b' p p' hj hk hjk hw hp hp'
     ·cases h
    ·cases h
   ·cases h
  ·cases h
theorem mkS_n {n nxt : Nat} : ∀ {l : List It} {x : XD l}, (mkS n nxt l x).n = n ∧ (mkS n nxt l x).nxt = nxt ∧ (mkS n nxt l x).ok = true
 | [], _ => ⟨rfl, rfl, rfl⟩
 | .sl _ _ :: _, _ | .ow _ _ _ :: _, _ | .bl _ _ :: _, _ | .rb _ _ :: _, _ | .pt _ _ :: _, _ | .ob _ _ :: _, _ | .ro _ _ :: _, _ | .nl _ :: _, _ | .fv _ _ _ _ :: _, _ => ⟨rfl, rfl, rfl⟩
theorem extS_ok (hr : Rel base φ st a w) {kp nxt : Nat} {L : List It} (hok : okS kp nxt L = true) (hpl : L.all plainIt = true) {x : XD L} {u : List Nat} (h : extS L st = some (x, true, u)) :
 ∃ ψ, Phi.leK kp φ ψ ∧ Rel base ψ (mkS st.n nxt L x) a w := by
 unfold okS at hok
 rw [Bool.and_eq_true, Bool.and_eq_true, Bool.and_eq_true, Bool.and_eq_true] at hok
 obtain ⟨hnd, hlt, hkp, hpt, hkn⟩ := hok
 rw [List.all_eq_true] at hlt hkp hpt hpl
 have hkp' : ∀ c ∈ owS L, kp ≤ c := fun c hc => Nat.le_of_ble_eq_true (hkp c hc)
 have hpt' : ∀ i ∈ ptS L, i < kp ∨ i ∈ blS L := fun i hi => by
  have := hpt i hi
  simp only [Bool.or_eq_true, List.contains_eq_mem, decide_eq_true_eq] at this
  exact this.imp (fun h => Nat.le_of_ble_eq_true h) id
 have hlt' : ∀ i ∈ nmS L, i < nxt := fun i hi => Nat.le_of_ble_eq_true (hlt i hi)
 have hkn' : kp ≤ nxt := Nat.le_of_ble_eq_true hkn
 obtain ⟨h1, h2, h3⟩ := extS_suffix hr (nxt := nxt) hnd hkp' hpt' (l := L) (fun _ h => h) hnd hpl h
 have hdom : ∀ i p, nwPhi φ st a w kp L i = some p → i < nxt ∧ p.blk < w.heap.size := by
  intro i p hp
  have hp : (if i ∈ owS L then ownAd φ st a w L i else if i < kp ∨ i ∈ blS L then φ i else none) = some p := hp
  by_cases ho : i ∈ owS L
  ·rw [if_pos ho] at hp
   exact ⟨hlt' i (owS_sub ho), ownAd_lt (fun i ph h => (hr.mem.fresh i ph h).2) hp⟩
  ·rw [if_neg ho] at hp
   by_cases hb : i < kp ∨ i ∈ blS L
   ·rw [if_pos hb] at hp
    refine ⟨?_, (hr.mem.fresh i p hp).2⟩
    rcases hb with hb | hb
    ·omega
    ·exact hlt' i (blS_sub hb)
   ·rw [if_neg hb] at hp; cases hp
 refine ⟨nwPhi φ st a w kp L, ⟨fun i p hi hp => ?_, fun _ _ h => h, fun _ _ h => .inl h, rfl⟩, h1, ?_, ⟨fun i b hi => ?_, fun i j b b' p p' hi hj hij hw hp hp' => h3 i j b b' p p' hi hj hij hw hp hp', fun i p hp => ?_, hr.mem.lo, hr.mem.base, hr.mem.imm⟩, hr.defers⟩
 ·show (if i ∈ owS L then _ else if i < kp ∨ i ∈ blS L then φ i else none) = some p
  rw [if_neg (fun ho => by have := hkp' i ho; omega), if_pos (.inl hi)]
  exact hp
 ·rw [mkS_n.1]; exact hr.n
 ·rcases (h2 i b hi).2 with h | ⟨ph, k1, k2, _⟩
  ·exact .inl h
  ·exact .inr ⟨ph, k1, k2⟩
 ·rw [mkS_n.2.1]; exact hdom i p hp
end
inductive Runs {α β : Type} (f : α → Option (α ⊕ β)) : Nat → α → β → Prop where
 | stop {x : α} {y : β} : f x = some (.inr y) → Runs f 1 x y
 | next {n : Nat} {x x' : α} {y : β} : f x = some (.inl x') → Runs f n x' y → Runs f (n + 1) x y
theorem Runs.det {α β : Type} {f : α → Option (α ⊕ β)} : ∀ {n m : Nat} {x : α} {y z : β}, Runs f n x y → Runs f m x z → y = z
 | _, _, _, _, _, .stop h, .stop k => by rw [h] at k; cases k; rfl
 | _, _, _, _, _, .stop h, .next k _ => by rw [h] at k; cases k
 | _, _, _, _, _, .next h _, .stop k => by rw [h] at k; cases k
 | _, _, _, _, _, .next h h', .next k k' => by rw [h] at k; cases k; exact Runs.det h' k'
open Classical in
noncomputable def wh {α β : Type} (f : α → Option (α ⊕ β)) (x : α) : Option β := if h : ∃ y m, Runs f m x y then some (Classical.choose h) else none
theorem wh_runs {α β : Type} {f : α → Option (α ⊕ β)} {x : α} {y : β} (h : wh f x = some y) : ∃ m, Runs f m x y := by
 unfold wh at h
 split at h
 ·rename_i hh
  cases h
  exact Classical.choose_spec hh
 ·cases h
theorem wh_of {α β : Type} {f : α → Option (α ⊕ β)} {x : α} {y : β} {m : Nat} (h : Runs f m x y) : wh f x = some y := by
 unfold wh
 have hh : ∃ y m, Runs f m x y := ⟨y, m, h⟩
 rw [dif_pos hh]
 obtain ⟨m', h'⟩ := Classical.choose_spec hh
 rw [h'.det h]
theorem wh_stop {α β : Type} {f : α → Option (α ⊕ β)} {x : α} {y : β} (h : f x = some (.inr y)) : wh f x = some y := wh_of (.stop h)
theorem wh_next {α β : Type} {f : α → Option (α ⊕ β)} {x x' : α} (h : f x = some (.inl x')) : wh f x = wh f x' := by
 cases hw : wh f x' with
 | some y =>
  obtain ⟨m, hm⟩ := wh_runs hw
  exact wh_of (.next h hm)
 | none =>
  cases hx : wh f x with
  | none => rfl
  | some y =>
   obtain ⟨m, hm⟩ := wh_runs hx
   cases hm with
   | stop k => rw [h] at k; cases k
   | next k k' => rw [h] at k; cases k; rw [wh_of k'] at hw; cases hw
abbrev Ways := List (X × List It)
@[reducible] def YD : Ways → Type
 | [] => Unit
 | [(_, l)] => XD l
 | (_, l) :: r => XD l ⊕ YD r
def XD.dflt : (l : List It) → XD l
 | [] => ()
 | .sl _ t :: r => (GX.dflt t, XD.dflt r)
 | .ow _ _ _ :: r => ([], XD.dflt r)
 | .bl _ t :: r => (GX.dflt t, XD.dflt r)
 | .rb _ t :: r => (GX.dflt t, XD.dflt r)
 | .pt _ _ :: r => ((), XD.dflt r)
 | .ob _ D :: r => (D.dflt, XD.dflt r)
 | .ro _ D :: r => (D.dflt, XD.dflt r)
 | .nl _ :: r => ((), XD.dflt r)
 | .fv _ _ _ _ :: r => ((), XD.dflt r)
def isL {α β : Type} : α ⊕ β → Bool
 | .inl _ => true
 | .inr _ => false
def getL {α β : Type} (d : α) : α ⊕ β → α
 | .inl x => x
 | .inr _ => d
def getR {α β : Type} (d : β) : α ⊕ β → β
 | .inl _ => d
 | .inr y => y
def YD.dflt : (l : Ways) → YD l
 | [] => ()
 | [(_, l)] => XD.dflt l
 | (_, l) :: _ :: _ => .inl (XD.dflt l)
def setOk (s : St) (ok : Bool) : St := ⟨s.tm, s.n, s.mem, s.nxt, ok⟩
def altsY (n nxt : Nat) (ok : Bool) : (l : Ways) → YD l → List (Bool × X × St)
 | [], _ => []
 | [(e, l)], y => [(true, e, setOk (mkS n nxt l y) ok)]
 | (e, l) :: r :: q, y => (isL y, e, setOk (mkS n nxt l (getL (XD.dflt l) y)) ok) :: altsY n nxt ok (r :: q) (getR (YD.dflt (r :: q)) y)
def sameX : X → X → Bool
 | .normal, .normal => true
 | .exit i, .exit j => Nat.beq i j
 | .ret, .ret => true
 | .goto i, .goto j => Nat.beq i j
 | .pan t n, .pan t' n' => Nat.beq t t' && decide (n = n')
 | _, _ => false
theorem sameX_eq {x y : X} (h : sameX x y = true) : x = y := by
 cases x <;> cases y <;> simp [sameX] at h <;> first | rfl | rw [h] | rw [h.1, h.2]
def leafY (e : X) (s : St) : (l : Ways) → Option (YD l × Bool)
 | [] => none
 | [(e', l)] => bif sameX e e' then (match extS l s with | some (x, c, _) => some (x, c) | none => none) else none
 | (e', l) :: r :: q => bif sameX e e' then (match extS l s with | some (x, c, _) => some (.inl x, c) | none => none) else (match leafY e s (r :: q) with | some (y, c) => some (.inr y, c) | none => none)
def leafR (n : Nat) (hd : List It) (ys : Ways) (e : X) (s : St) : Option (XD hd ⊕ YD ys) :=
 match e with
 | .normal => match extS hd s with
  | some (x, c, _) => bif c && (s.ok && Nat.beq s.n n) then some (.inl x) else none
  | none => none
 | e => match leafY e s ys with
  | some (y, c) => bif c && (s.ok && Nat.beq s.n n) then some (.inr y) else none
  | none => none
theorem leafR_spec {n : Nat} {hd : List It} {ys : Ways} {e : X} {s : St} {r : XD hd ⊕ YD ys} (h : leafR n hd ys e s = some r) :
 s.ok = true ∧ s.n = n ∧ ((e = .normal ∧ ∃ x u, extS hd s = some (x, true, u) ∧ r = .inl x) ∨ (e ≠ .normal ∧ ∃ y, leafY e s ys = some (y, true) ∧ r = .inr y)) := by
 unfold leafR at h
 split at h
 ·split at h
  ·rename_i y c u hx
   cases hc : c && (s.ok && Nat.beq s.n n) <;> rw [hc] at h
   ·cases h
   ·rw [Bool.and_eq_true, Bool.and_eq_true] at hc
    cases h
    exact ⟨hc.2.1, Nat.eq_of_beq_eq_true hc.2.2, .inl ⟨rfl, y, u, by rw [hx, hc.1], rfl⟩⟩
  ·cases h
 ·rename_i hne
  split at h
  ·rename_i y c hx
   cases hc : c && (s.ok && Nat.beq s.n n) <;> rw [hc] at h
   ·cases h
   ·rw [Bool.and_eq_true, Bool.and_eq_true] at hc
    cases h
    exact ⟨hc.2.1, Nat.eq_of_beq_eq_true hc.2.2, .inr ⟨hne, y, by rw [hx, hc.1], rfl⟩⟩
  ·cases h
def outB (id : Nat) : X → X
 | .exit j => bif Nat.beq j id then .normal else .exit j
 | x => x
def okY (kp nxt : Nat) (ys : Ways) : Bool := ys.all fun p => okS kp nxt p.2 && (p.2.all plainIt && !(sameX p.1 .normal))
theorem leafY_ok {base : Nat} {φ : Phi} {a : Act} {w : World} {s : St} {kp n nxt : Nat} {e : X} (hr : Rel base φ s a w) (hn : s.n = n) : ∀ {ys : Ways} {y : YD ys}, okY kp nxt ys = true → leafY e s ys = some (y, true) →
 ∃ st', (∀ id, pickA ((altsY n nxt true ys y).map fun p => (p.1, outB id p.2.1, p.2.2)) = some (outB id e, st')) ∧ ∃ ψ, Phi.leK kp φ ψ ∧ Rel base ψ st' a w
 | [], y, _, h => by cases h
 | [(e', l)], y, hy, h => by
  simp only [leafY] at h
  cases hs : sameX e e' <;> rw [hs] at h
  ·cases h
  ·simp only [cond_true] at h
   have := sameX_eq hs
   subst this
   split at h
   ·rename_i x c u hx
    simp only [Option.some.injEq, Prod.mk.injEq] at h
    obtain ⟨rfl, rfl⟩ := h
    simp only [okY, List.all_cons, Bool.and_eq_true] at hy
    obtain ⟨ψ, h1, h2⟩ := extS_ok hr hy.1.1 hy.1.2.1 hx
    rw [hn] at h2
    exact ⟨setOk (mkS n nxt l x) true, fun id => rfl, ψ, h1, ⟨h2.tm, h2.n, h2.mem, h2.defers⟩⟩
   ·cases h
 | (e', l) :: r :: q, y, hy, h => by
  have hy0 := hy
  simp only [okY, List.all_cons, Bool.and_eq_true] at hy
  simp only [leafY] at h
  cases hs : sameX e e' <;> rw [hs] at h
  ·simp only [cond_false] at h
   split at h
   ·rename_i y' c hx
    simp only [Option.some.injEq, Prod.mk.injEq] at h
    obtain ⟨rfl, rfl⟩ := h
    obtain ⟨st', h1, h2⟩ := leafY_ok (ys := r :: q) hr hn (by unfold okY; rw [List.all_cons, Bool.and_eq_true, Bool.and_eq_true, Bool.and_eq_true]; exact hy.2) hx
    exact ⟨st', fun id => by simp only [altsY, List.map_cons, isL, pickA, getR]; exact h1 id, h2⟩
   ·cases h
  ·simp only [cond_true] at h
   have := sameX_eq hs
   subst this
   split at h
   ·rename_i x c u hx
    simp only [Option.some.injEq, Prod.mk.injEq] at h
    obtain ⟨rfl, rfl⟩ := h
    obtain ⟨ψ, h1, h2⟩ := extS_ok hr hy.1.1 hy.1.2.1 hx
    rw [hn] at h2
    exact ⟨setOk (mkS n nxt l x) true, fun id => rfl, ψ, h1, ⟨h2.tm, h2.n, h2.mem, h2.defers⟩⟩
   ·cases h
theorem loop_ok {P : Program} {C : Cx} (hC : CxOK P C) {kp n nxt : Nat} {body : Code} (hL : LOK P C kp body) {hd : List It} {ys : Ways} (hok : okS kp nxt hd = true) (hpl : hd.all plainIt = true) (hys : okY kp nxt ys = true)
 {f : XD hd → Option (XD hd ⊕ YD ys)} (hround : ∀ x r, f x = some r → codeT C body (mkS n nxt hd x) (leafR n hd ys) = some r)
 {base : Nat} : ∀ (m : Nat) (x : XD hd) (y : YD ys), Runs f m x y → ∀ {φ : Phi} {a : Act} {w : World}, Rel base φ (mkS n nxt hd x) a w →
  Code.rounds P body (fun e a' w' => ∃ x' st', (∀ id, pickA ((altsY n nxt true ys y).map fun p => (p.1, outB id p.2.1, p.2.2)) = some (outB id x', st')) ∧ EX x' e ∧ ∃ ψ, Phi.leK kp φ ψ ∧ Rel base ψ st' a' w' ∧ Below base w w') m a w := by
 have hcode : ∀ {r : XD hd ⊕ YD ys} {x : XD hd} {φ : Phi} {a : Act} {w : World} {Q}, f x = some r → Rel base φ (mkS n nxt hd x) a w → Goes P kp base φ w r (leafR n hd ys) Q → body.wp P Q a w :=
  fun hf hr hg => codeT_ok hC hL (fun x s h => (leafR_spec h).1) (hround _ _ hf) hr hg
 intro m
 induction m with
 | zero => intro x y h; cases h
 | succ m ih =>
  intro x y h φ a w hr
  rw [rounds_succ]
  cases h with
  | stop hf =>
   refine hcode hf hr ?_
   intro e e' s ψ a' w' he h1 h2 h3 h4
   obtain ⟨_, hsn, hh⟩ := leafR_spec h4
   rcases hh with ⟨_, x', u, _, hx⟩ | ⟨hne, y', hy, hx⟩
   ·cases hx
   ·cases hx
    obtain ⟨st', k1, χ, k2, k3⟩ := leafY_ok h2 hsn hys hy
    rcases EX_of he with ⟨rfl, rfl⟩ | ⟨j, rfl, rfl⟩ | ⟨rfl, rfl⟩ | ⟨j, rfl, rfl⟩ | ⟨_, _, rfl, rfl⟩
    ·exact absurd rfl hne
    ·exact ⟨_, st', k1, rfl, χ, Phi.leK_trans h1 k2, k3, h3⟩
    ·exact ⟨_, st', k1, trivial, χ, Phi.leK_trans h1 k2, k3, h3⟩
    ·exact ⟨_, st', k1, rfl, χ, Phi.leK_trans h1 k2, k3, h3⟩
    ·exact ⟨_, st', k1, rfl, χ, Phi.leK_trans h1 k2, k3, h3⟩
  | next hf hn =>
   refine hcode hf hr ?_
   intro e e' s ψ a' w' he h1 h2 h3 h4
   obtain ⟨_, hsn, hh⟩ := leafR_spec h4
   rcases hh with ⟨rfl, x', u, hx, hxx⟩ | ⟨hne, y', hy, hx⟩
   ·cases hxx
    have hen : e' = .normal := by cases e' <;> simp [EX] at he; rfl
    subst hen
    obtain ⟨χ, k2, k3⟩ := extS_ok h2 hok hpl hx
    rw [hsn] at k3
    show Code.rounds P body _ m a' w'
    refine rounds_mono ?_ (ih _ _ hn k3)
    rintro e a2 w2 ⟨x2, st2, q1, q2, ψ2, q3, q4, q5⟩
    exact ⟨x2, st2, q1, q2, ψ2, Phi.leK_trans h1 (Phi.leK_trans k2 q3), q4, h3.trans q5⟩
   ·cases hx
def orc (n nxt id : Nat) (hd : List It) (ys : Ways) (lv : XD hd → YD ys) (lk : XD hd → Bool) : St → List (Bool × X × St) := fun st =>
 match extS hd st with
 | some (x, c, _) => (altsY n nxt (lk x && (c && (st.ok && Nat.beq st.n n))) ys (lv x)).map fun p => (p.1, outB id p.2.1, p.2.2)
 | none => []
theorem pick_ok {n nxt id : Nat} {ok : Bool} {e : X} {st : St} : ∀ {ys : Ways} {y : YD ys}, pickA ((altsY n nxt ok ys y).map fun p => (p.1, outB id p.2.1, p.2.2)) = some (e, st) → st.ok = ok ∧ pickA ((altsY n nxt true ys y).map fun p => (p.1, outB id p.2.1, p.2.2)) = some (e, setOk st true)
 | [], _, h => by cases h
 | [(e', l)], y, h => by
  simp only [altsY, List.map_cons, pickA, Option.some.injEq, Prod.mk.injEq] at h ⊢
  obtain ⟨rfl, rfl⟩ := h
  exact ⟨rfl, rfl, rfl⟩
 | (e', l) :: r :: q, y, h => by
  simp only [altsY, List.map_cons] at h ⊢
  cases hb : isL y <;> rw [hb] at h
  ·simp only [pickA] at h ⊢
   exact pick_ok (ys := r :: q) h
  ·simp only [pickA, Option.some.injEq, Prod.mk.injEq] at h ⊢
   obtain ⟨rfl, rfl⟩ := h
   exact ⟨rfl, rfl, rfl⟩
theorem orc_ok {P : Program} {C : Cx} (hC : CxOK P C) {kp n nxt id : Nat} {body : Code} (hL : LOK P C kp body) {hd : List It} {ys : Ways} (hok : okS kp nxt hd = true) (hpl : hd.all plainIt = true) (hys : okY kp nxt ys = true)
 {f : XD hd → Option (XD hd ⊕ YD ys)} (hround : ∀ x r, f x = some r → codeT C body (mkS n nxt hd x) (leafR n hd ys) = some r) {lv : XD hd → YD ys} {lk : XD hd → Bool} (hl : ∀ x, lk x = true → ∃ m, Runs f m x (lv x))
 {st st' : St} {x : X} (h : pickA (orc n nxt id hd ys lv lk st) = some (x, st')) : CodeOK P kp (.block id (.loop body)) st x st' := by
 unfold orc at h
 split at h
 ·rename_i v c u hx
  obtain ⟨h1, h2⟩ := pick_ok h
  refine ⟨fun hk => ?_, fun hk base φ a w hr => ?_⟩
  ·rw [h1, Bool.and_eq_true, Bool.and_eq_true, Bool.and_eq_true] at hk
   exact hk.2.2.1
  ·rw [h1, Bool.and_eq_true, Bool.and_eq_true, Bool.and_eq_true] at hk
   obtain ⟨hlk, hc, hso, hsn⟩ := hk
   subst hc
   have hsn := Nat.eq_of_beq_eq_true hsn
   obtain ⟨χ, k1, k2⟩ := extS_ok hr hok hpl hx
   rw [hsn] at k2
   obtain ⟨m, hm⟩ := hl v hlk
   refine wp_block (wp_loop_rounds m (rounds_mono ?_ (loop_ok hC hL hok hpl hys hround m v _ hm k2)))
   rintro e a' w' ⟨x', s2, q1, q2, ψ, q3, q4, q5⟩
   have := q1 id
   rw [h2] at this
   simp only [Option.some.injEq, Prod.mk.injEq] at this
   obtain ⟨rfl, hs2⟩ := this
   have hres : ∃ ψ, Phi.leK kp φ ψ ∧ Rel base ψ st' a' w' ∧ Below base w w' := by
    refine ⟨ψ, Phi.leK_trans k1 q3, ?_, q5⟩
    rw [← hs2] at q4
    exact ⟨q4.tm, q4.n, q4.mem, q4.defers⟩
   rcases EX_of q2 with ⟨rfl, rfl⟩ | ⟨j, rfl, rfl⟩ | ⟨rfl, rfl⟩ | ⟨j, rfl, rfl⟩ | ⟨_, _, rfl, rfl⟩
   ·exact ⟨trivial, hres⟩
   ·simp only [outB, Exit.inBlock]
    by_cases e : j = id
    ·subst e
     rw [if_pos rfl, show Nat.beq j j = true from Nat.beq_refl j]
     exact ⟨trivial, hres⟩
    ·rw [if_neg (fun h => e h), show Nat.beq j id = false from by rw [Bool.eq_false_iff]; intro h; exact e (Nat.eq_of_beq_eq_true h)]
     exact ⟨rfl, hres⟩
   ·exact ⟨trivial, hres⟩
   ·exact ⟨rfl, hres⟩
   ·exact ⟨rfl, hres⟩
 ·cases h
def leafJ (n : Nat) (ys : Ways) (e : X) (s : St) : Option (YD ys) :=
 match leafY e s ys with
 | some (y, c) => bif c && (s.ok && Nat.beq s.n n) then some y else none
 | none => none
def okJ (kp nxt : Nat) (ys : Ways) : Bool := ys.all fun p => okS kp nxt p.2 && p.2.all plainIt
theorem leafY_okJ {base : Nat} {φ : Phi} {a : Act} {w : World} {s : St} {kp n nxt : Nat} {e : X} (hr : Rel base φ s a w) (hn : s.n = n) : ∀ {ys : Ways} {y : YD ys}, okJ kp nxt ys = true → leafY e s ys = some (y, true) →
 ∃ st', pickA (altsY n nxt true ys y) = some (e, st') ∧ ∃ ψ, Phi.leK kp φ ψ ∧ Rel base ψ st' a w
 | [], y, _, h => by cases h
 | [(e', l)], y, hy, h => by
  simp only [leafY] at h
  cases hs : sameX e e' <;> rw [hs] at h
  ·cases h
  ·simp only [cond_true] at h
   have := sameX_eq hs
   subst this
   split at h
   ·rename_i x c u hx
    simp only [Option.some.injEq, Prod.mk.injEq] at h
    obtain ⟨rfl, rfl⟩ := h
    simp only [okJ, List.all_cons, Bool.and_eq_true] at hy
    obtain ⟨ψ, h1, h2⟩ := extS_ok hr hy.1.1 hy.1.2 hx
    rw [hn] at h2
    exact ⟨setOk (mkS n nxt l x) true, rfl, ψ, h1, ⟨h2.tm, h2.n, h2.mem, h2.defers⟩⟩
   ·cases h
 | (e', l) :: r :: q, y, hy, h => by
  have hy0 := hy
  simp only [okJ, List.all_cons, Bool.and_eq_true] at hy
  simp only [leafY] at h
  cases hs : sameX e e' <;> rw [hs] at h
  ·simp only [cond_false] at h
   split at h
   ·rename_i y' c hx
    simp only [Option.some.injEq, Prod.mk.injEq] at h
    obtain ⟨rfl, rfl⟩ := h
    obtain ⟨st', h1, h2⟩ := leafY_okJ (ys := r :: q) hr hn (by unfold okJ; rw [List.all_cons, Bool.and_eq_true, Bool.and_eq_true]; exact hy.2) hx
    exact ⟨st', by simp only [altsY, isL, pickA, getR]; exact h1, h2⟩
   ·cases h
  ·simp only [cond_true] at h
   have := sameX_eq hs
   subst this
   split at h
   ·rename_i x c u hx
    simp only [Option.some.injEq, Prod.mk.injEq] at h
    obtain ⟨rfl, rfl⟩ := h
    obtain ⟨ψ, h1, h2⟩ := extS_ok hr hy.1.1 hy.1.2 hx
    rw [hn] at h2
    exact ⟨setOk (mkS n nxt l x) true, rfl, ψ, h1, ⟨h2.tm, h2.n, h2.mem, h2.defers⟩⟩
   ·cases h
def orj (n nxt : Nat) (hd : List It) (ys : Ways) (lv : XD hd → YD ys) (lk : XD hd → Bool) : St → List (Bool × X × St) := fun st =>
 match extS hd st with
 | some (x, c, _) => altsY n nxt (lk x && (c && (st.ok && Nat.beq st.n n))) ys (lv x)
 | none => []
theorem pick_okJ {n nxt : Nat} {ok : Bool} {e : X} {st : St} : ∀ {ys : Ways} {y : YD ys}, pickA (altsY n nxt ok ys y) = some (e, st) → st.ok = ok ∧ pickA (altsY n nxt true ys y) = some (e, setOk st true)
 | [], _, h => by cases h
 | [(e', l)], y, h => by
  simp only [altsY, pickA, Option.some.injEq, Prod.mk.injEq] at h ⊢
  obtain ⟨rfl, rfl⟩ := h
  exact ⟨rfl, rfl, rfl⟩
 | (e', l) :: r :: q, y, h => by
  simp only [altsY] at h ⊢
  cases hb : isL y <;> rw [hb] at h
  ·simp only [pickA] at h ⊢
   exact pick_okJ (ys := r :: q) h
  ·simp only [pickA, Option.some.injEq, Prod.mk.injEq] at h ⊢
   obtain ⟨rfl, rfl⟩ := h
   exact ⟨rfl, rfl, rfl⟩
theorem orj_ok {P : Program} {C : Cx} (hC : CxOK P C) {kp n nxt : Nat} {b : Code} (hL : LOK P C kp b) {hd : List It} {ys : Ways} (hok : okS kp nxt hd = true) (hpl : hd.all plainIt = true) (hys : okJ kp nxt ys = true)
 {f : XD hd → Option (YD ys)} (hrun : ∀ x, codeT C b (mkS n nxt hd x) (leafJ n ys) = f x)
 {st st' : St} {x : X} (h : pickA (orj n nxt hd ys (fun x => (f x).getD (YD.dflt ys)) (fun x => (f x).isSome) st) = some (x, st')) : CodeOK P kp b st x st' := by
 unfold orj at h
 split at h
 ·rename_i v c u hx
  obtain ⟨h1, h2⟩ := pick_okJ h
  refine ⟨fun hk => ?_, fun hk base φ a w hr => ?_⟩
  ·rw [h1, Bool.and_eq_true, Bool.and_eq_true, Bool.and_eq_true] at hk
   exact hk.2.2.1
  ·rw [h1, Bool.and_eq_true, Bool.and_eq_true, Bool.and_eq_true] at hk
   obtain ⟨hlk, hc, hso, hsn⟩ := hk
   subst hc
   have hsn := Nat.eq_of_beq_eq_true hsn
   obtain ⟨χ, k1, k2⟩ := extS_ok hr hok hpl hx
   rw [hsn] at k2
   have hlk : (f v).isSome = true := hlk
   have h2 : pickA (altsY n nxt true ys ((f v).getD (YD.dflt ys))) = some (x, setOk st' true) := h2
   cases hf : f v with
   | none => rw [hf] at hlk; cases hlk
   | some y =>
    rw [hf] at h2
    simp only [Option.getD_some] at h2
    refine codeT_ok hC hL (k := leafJ n ys) (r := y) (fun x s hs => ?_) ((hrun v).trans hf) k2 ?_
    ·unfold leafJ at hs
     split at hs
     ·rename_i y' c hy'
      cases hcc : c && (s.ok && Nat.beq s.n n) <;> rw [hcc] at hs
      ·cases hs
      ·rw [Bool.and_eq_true, Bool.and_eq_true] at hcc
       exact hcc.2.1
     ·cases hs
    ·intro e e' s ψ a' w' he g1 g2 g3 g4
     unfold leafJ at g4
     split at g4
     ·rename_i y' c hy'
      cases hcc : c && (s.ok && Nat.beq s.n n) <;> rw [hcc] at g4
      ·cases g4
      ·simp only [cond_true, Option.some.injEq] at g4
       subst g4
       rw [Bool.and_eq_true, Bool.and_eq_true] at hcc
       rw [hcc.1] at hy'
       obtain ⟨st2, q1, χ2, q2, q3⟩ := leafY_okJ g2 (Nat.eq_of_beq_eq_true hcc.2.2) hys hy'
       rw [q1] at h2
       simp only [Option.some.injEq, Prod.mk.injEq] at h2
       obtain ⟨rfl, hs2⟩ := h2
       refine ⟨he, χ2, Phi.leK_trans k1 (Phi.leK_trans g1 q2), ?_, g3⟩
       rw [hs2] at q3
       exact ⟨q3.tm, q3.n, q3.mem, q3.defers⟩
     ·cases g4
 ·cases h
def lOf : List (Nat × (St → List (Bool × X × St))) → Nat → Option (St → List (Bool × X × St))
 | [], _ => none
 | (k, g) :: r, i => bif Nat.beq k i then some g else lOf r i
def findB (id : Nat) : List (Nat × Code) → Option Code
 | [] => none
 | (k, b) :: r => bif Nat.beq k id then some b else findB id r
theorem findB_of {id : Nat} {b : Code} : ∀ {l : List (Nat × Code)}, noDup (l.map (·.1)) = true → (id, b) ∈ l → findB id l = some b
 | (k, c) :: r, hd, h => by
  obtain ⟨h1, h2⟩ := noDup_cons hd
  rcases List.mem_cons.1 h with h | h
  ·cases h; simp [findB]
  ·have hne : k ≠ id := by
    intro e; subst e
    exact h1 (List.mem_map.2 ⟨_, h, rfl⟩)
   simp only [findB]
   rw [show Nat.beq k id = false from by rw [Bool.eq_false_iff]; intro h; exact hne (Nat.eq_of_beq_eq_true h)]
   exact findB_of h2 h
theorem LOK.of {P : Program} {C : Cx} {kp : Nat} {c : Code} (hd : noDup ((blocksOf c).map (·.1)) = true) {l : List (Nat × (St → List (Bool × X × St)))} (hCL : C.L = lOf l)
 (h : ∀ p ∈ l, ∀ b, findB p.1 (blocksOf c) = some b → ∀ st x st', pickA (p.2 st) = some (x, st') → CodeOK P kp (unitC p.1 b) st x st') : LOK P C kp c := by
 intro id b hb f hf st x st' hp
 rw [hCL] at hf
 have hfb := findB_of hd hb
 clear hCL
 induction l with
 | nil => cases hf
 | cons p l ih =>
  simp only [lOf] at hf
  cases he : Nat.beq p.1 id <;> rw [he] at hf
  ·exact ih (fun q hq => h q (by simp [hq])) hf
  ·have := Nat.eq_of_beq_eq_true he
   simp only [cond_true, Option.some.injEq] at hf
   subst this; subst hf
   exact h p (by simp) b hfb st x st' hp
end
theorem fnT_loops {P : Program} {C : Cx} (hC : CxOK P C) {fn : Func} {f : Nat} (hf : P.funcs[f]? = some fn) {t : Ty} {args : List V} {r : t.den} (hL : ∀ c, fn.body = some c → LOK P C 0 c) (h : fnT C fn t args = some r) : PureOK P f args ⟨t, r⟩ :=
 fnT_ok hC hf hL h
end Go.GX

namespace Go.GX
set_option linter.unusedSimpArgs false
set_option linter.unusedVariables false
set_option linter.unusedSectionVars false
def tt : Nat → Bool → Bool
 | 0, b => b
 | n + 1, b => tt n b && true
@[simp] theorem tt_eq (n : Nat) (b : Bool) : tt n b = b := by
 induction n with
 | zero => rfl
 | succ n ih => rw [tt, ih, Bool.and_true]
@[reducible] def AD : List Ty → Type
 | [] => Unit
 | t :: r => t.den × AD r
def asTs : (ts : List Ty) → List V → Option (AD ts)
 | [], [] => some ()
 | t :: ts, v :: l => match asT t (coeV t v), asTs ts l with | some x, some y => some (x, y) | _, _ => none
 | _, _ => none
def mkA : (ts : List Ty) → AD ts → List V
 | [], _ => []
 | t :: ts, x => ⟨t, x.1⟩ :: mkA ts x.2
def sm (ts : List Ty) (T : Ty) (v : AD ts → T.den) (k : AD ts → Bool) : Sm := fun args mem nxt =>
 match asTs ts args with
 | some x => bif valT T then some (⟨T, v x⟩, mem, nxt, k x) else none
 | none => none
theorem asTs_AR {φ : Phi} : ∀ {ts : List Ty} {args : List V} {x : AD ts}, asTs ts args = some x → ∀ {xs : List Value}, ARL φ args xs → ARL φ (mkA ts x) xs
 | [], [], x, _, xs, h => h
 | t :: ts, v :: l, x, hx, xs, h => by
  simp only [asTs] at hx
  split at hx
  ·rename_i a b ha hb
   cases hx
   have ha := asT_eq ha
   match xs, h with
   | [], h => exact absurd h.1 (by simp)
   | y :: ys, h =>
    have h0 : VR φ v y := by
     obtain ⟨z, hz, hr⟩ := h.2 0 v rfl
     simp at hz; subst hz; exact hr
    have hl : ARL φ l ys := ⟨by simpa using h.1, fun i u hi => by simpa using h.2 (i + 1) u (by simpa using hi)⟩
    refine ARL.cons ?_ (asTs_AR hb hl)
    have := coeV_ok (t := t) h0
    rw [ha] at this
    exact this
  ·cases hx
 | [], _ :: _, x, hx, _, _ => by cases hx
 | _ :: _, [], x, hx, _, _ => by cases hx
theorem AR_iff {φ : Phi} {args : List V} {xs : Array Value} : AR φ args xs ↔ ARL φ args xs.toList :=
 ⟨fun h => ⟨by simpa using h.1, fun i v hi => by obtain ⟨x, hx, hr⟩ := h.2 i v hi; exact ⟨x, by simpa using hx, hr⟩⟩,
  fun h => ⟨by simpa using h.1, fun i v hi => by obtain ⟨x, hx, hr⟩ := h.2 i v hi; exact ⟨x, by simpa using hx, hr⟩⟩⟩
theorem SmOK.sm {P : Program} {f : Nat} {ts : List Ty} {T : Ty} {v : AD ts → T.den} {k : AD ts → Bool} (h : ∀ x, k x = true → PureOK P f (mkA ts x) ⟨T, v x⟩) : SmOK P f (GX.sm ts T v k) := by
 intro args mem nxt u mem' nxt' hg base φ w xs hm hA
 unfold GX.sm at hg
 split at hg
 ·rename_i x hx
  cases hval : valT T <;> rw [hval] at hg
  ·cases hg
  simp only [cond_true, Option.some.injEq, Prod.mk.injEq] at hg
  obtain ⟨rfl, rfl, rfl, hk⟩ := hg
  refine (h x hk φ w xs hm.imm (AR_iff.2 (asTs_AR hx (AR_iff.1 hA)))).mono ?_
  rintro e w' ⟨ψ, m, n, y, rfl, h0, h3, h1, h2⟩
  obtain ⟨g1, g2⟩ := hm.back (φ0 := φ.bare w.heap.size) rfl rfl h0 h3 h2
  exact ⟨_, y, rfl, g1, g2, h2.mono hm.base, valV_ok (φ := ψ) (ψ := φ.with ψ.imm) (fun _ _ h => h) (by unfold valV; rw [hval]; rfl) h1⟩
 ·cases hg
@[reducible] def CxL (Θ : Tab) (K : Kn) (L : Nat → Option (St → List (Bool × X × St))) : Cx := ⟨true, Θ, K, 100, L, fun _ => none⟩
@[reducible] def CxP (Θ : Tab) (K : Kn) (L : Nat → Option (St → List (Bool × X × St))) (Q : Nat → Option PSm) : Cx := ⟨true, Θ, K, 100, L, Q⟩
theorem PureOK.ofS {P : Program} {C : Cx} (hC : CxOK P C) {fn : Func} {f : Nat} (hf : P.funcs[f]? = some fn) {ts : List Ty} {T : Ty} {S : AD ts → Option T.den} (hL : ∀ c, fn.body = some c → LOK P C 0 c)
 (h : ∀ x, fnT C fn T (mkA ts x) = S x) : ∀ x, (S x).isSome = true → PureOK P f (mkA ts x) ⟨T, (S x).getD (dflt T)⟩ := by
 intro x hk
 cases hs : S x with
 | none => rw [hs] at hk; cases hk
 | some y => exact fnT_loops hC hf hL ((h x).trans hs)
theorem PureOK.of1 {P : Program} {C : Cx} (hC : CxOK P C) {fn : Func} {f : Nat} (hf : P.funcs[f]? = some fn) {T : Ty} {args : List V} {s : Option T.den} (hL : ∀ c, fn.body = some c → LOK P C 0 c)
 (h : fnT C fn T args = s) : s.isSome = true → PureOK P f args ⟨T, s.getD (dflt T)⟩ := by
 intro hk
 cases hs : s with
 | none => rw [hs] at hk; cases hk
 | some y => exact fnT_loops hC hf hL (h.trans hs)
def bodyF (fn : Func) : Code := fn.body.getD .skip
def loopB (id : Nat) (c : Code) : Code := match findB id (blocksOf c) with | some (.loop b) => b | _ => .skip
noncomputable def whV {hd : List It} {ys : Ways} (f : XD hd → Option (XD hd ⊕ YD ys)) : XD hd → YD ys := fun x => (wh f x).getD (YD.dflt ys)
noncomputable def whK {hd : List It} {ys : Ways} (f : XD hd → Option (XD hd ⊕ YD ys)) : XD hd → Bool := fun x => (wh f x).isSome
theorem wh_run {hd : List It} {ys : Ways} {f : XD hd → Option (XD hd ⊕ YD ys)} : ∀ x, whK f x = true → ∃ m, Runs f m x (whV f x) := by
 intro x h
 unfold whK at h
 cases hs : wh f x with
 | none => rw [hs] at h; cases h
 | some y =>
  obtain ⟨m, hm⟩ := wh_runs hs
  exact ⟨m, by unfold whV; rw [hs]; exact hm⟩
section
variable [DefL]
structure Lone (P : Program) (C : Cx) (id : Nat) (c : Code) (g : St → List (Bool × X × St)) (kp : Nat := 0) : Prop where
 ok : ∀ st x st', pickA (g st) = some (x, st') → CodeOK P kp (unitC id c) st x st'
theorem Lone.of {P : Program} {C : Cx} (hC : CxOK P C) {kp n nxt id : Nat} {body : Code} (hL : LOK P C kp body) {hd : List It} {ys : Ways} {f : XD hd → Option (XD hd ⊕ YD ys)}
 (hok : (okS kp nxt hd && (hd.all plainIt && okY kp nxt ys)) = true) (hround : ∀ x, codeT C body (mkS n nxt hd x) (leafR n hd ys) = f x) (hid : Nat.blt id 1000000 = true := by kernel_rfl) : Lone P C id (.loop body) (orc n nxt id hd ys (whV f) (whK f)) kp := by
 rw [Bool.and_eq_true, Bool.and_eq_true] at hok
 exact ⟨fun st x st' h => by
  have := orc_ok hC hL hok.1 hok.2.1 hok.2.2 (fun x r hr => (hround x).trans hr) wh_run h
  unfold unitC
  rw [hid]
  exact this⟩
noncomputable def jnV {hd : List It} {ys : Ways} (f : XD hd → Option (YD ys)) : XD hd → YD ys := fun x => (f x).getD (YD.dflt ys)
noncomputable def jnK {hd : List It} {ys : Ways} (f : XD hd → Option (YD ys)) : XD hd → Bool := fun x => (f x).isSome
theorem Lone.join {P : Program} {C : Cx} (hC : CxOK P C) {kp n nxt id : Nat} {b : Code} (hid : Nat.blt id 1000000 = false) (hL : LOK P C kp b) {hd : List It} {ys : Ways} {f : XD hd → Option (YD ys)}
 (hok : (okS kp nxt hd && (hd.all plainIt && okJ kp nxt ys)) = true) (hrun : ∀ x, codeT C b (mkS n nxt hd x) (leafJ n ys) = f x) : Lone P C id b (orj n nxt hd ys (jnV f) (jnK f)) kp := by
 rw [Bool.and_eq_true, Bool.and_eq_true] at hok
 exact ⟨fun st x st' h => by
  have := orj_ok hC hL hok.1 hok.2.1 hok.2.2 hrun h
  unfold unitC
  rw [hid]
  exact this⟩
def Lall (P : Program) (C : Cx) (bs : List (Nat × Code)) (l : List (Nat × (St → List (Bool × X × St)))) (kp : Nat := 0) : Prop := match l with
 | [] => True
 | p :: r => (match findB p.1 bs with | some c => Lone P C p.1 c p.2 kp | none => True) ∧ Lall P C bs r kp
theorem Lall.LOK {P : Program} {C : Cx} {kp : Nat} {c : Code} {l : List (Nat × (St → List (Bool × X × St)))} (hCL : C.L = lOf l) (hd : noDup ((blocksOf c).map (·.1)) = true) (h : Lall P C (blocksOf c) l kp) : LOK P C kp c := by
 refine LOK.of hd hCL ?_
 clear hCL
 induction l with
 | nil => intro p hp; cases hp
 | cons q l ih =>
  intro p hp b hb st x st' hx
  rcases List.mem_cons.1 hp with rfl | hp
  ·have := h.1
   rw [hb] at this
   exact this.ok st x st' hx
  ·exact ih h.2 p hp b hb st x st' hx
theorem Lall.cons {P : Program} {C : Cx} {kp : Nat} {bs : List (Nat × Code)} {id : Nat} {g : St → List (Bool × X × St)} {r : List (Nat × (St → List (Bool × X × St)))} {c : Code} (hb : findB id bs = some c) (h : Lone P C id c g kp) (hr : Lall P C bs r kp) : Lall P C bs ((id, g) :: r) kp := by
 refine ⟨?_, hr⟩
 show match findB id bs with | some c => Lone P C id c g kp | none => True
 rw [hb]; exact h
theorem Lall.skip {P : Program} {C : Cx} {kp : Nat} {bs : List (Nat × Code)} {id : Nat} {g : St → List (Bool × X × St)} {r : List (Nat × (St → List (Bool × X × St)))} (hb : findB id bs = none) (hr : Lall P C bs r kp) : Lall P C bs ((id, g) :: r) kp := by
 refine ⟨?_, hr⟩
 show match findB id bs with | some c => Lone P C id c g kp | none => True
 rw [hb]; trivial
theorem LOK.void {P : Program} {C : Cx} {kp : Nat} {c : Code} (h : ∀ id, C.L id = Option.none) : LOK P C kp c := by
 intro id b hb f hf
 rw [h] at hf; cases hf
theorem LOK.fn {P : Program} {C : Cx} {kp : Nat} {fn : Func} (h : LOK P C kp (bodyF fn)) : ∀ c, fn.body = some c → LOK P C kp c := by
 intro c hc
 unfold bodyF at h; rw [hc] at h; exact h
end
end Go.GX

namespace Go.GX
set_option linter.unusedSimpArgs false
set_option linter.unusedVariables false
set_option linter.unusedSectionVars false
open Go.RowKit (Below)
end Go.GX

namespace Go.GX
set_option linter.unusedSimpArgs false
set_option linter.unusedVariables false
set_option linter.unusedSectionVars false
open Go.RowKit (Below)
def Dk.mkN (k : Nat) : (D : Dk) → D.den → D.ty.den
 | .v _, x => x
 | .own c _, x => some ⟨c + k, [], 0, x.length, none⟩
 | .mp c _ _, _ => some (c + k)
 | .pr a b, x => (a.mkN k x.1, b.mkN k x.2)
def Dk.blksN (k : Nat) : (D : Dk) → D.den → Mem
 | .v _, _ => []
 | .own c e, x => [(c + k, ⟨e, x.length, x, true⟩)]
 | .mp c K E, x => [(c + k, ⟨MT K E, 0, x, true⟩)]
 | .pr a b, x => a.blksN k x.1 ++ b.blksN k x.2
def Dk.bare : Dk → Bool
 | .v t => plainT t
 | .own _ e => plainT e && !isTup e
 | .mp _ K E => plainT K && plainT E
 | .pr a b => a.bare && b.bare
def delL (mem : Mem) : List Nat → Mem
 | [] => mem
 | i :: r => Mem.del (delL mem r) i
theorem get_delL {mem : Mem} : ∀ {u : List Nat} {i : Nat}, Mem.get (delL mem u) i = if i ∈ u then none else Mem.get mem i
 | [], i => by simp [delL]
 | j :: r, i => by
  simp only [delL, Mem.get_del, get_delL (u := r)]
  by_cases e : i = j
  ·subst e; simp
  ·rw [if_neg e]; simp [e]
def obMem (D : Dk) (x : D.den) : Mem := (0, ⟨D.ty, 1, [D.mk x], true⟩) :: D.blks x
inductive Sh where
 | hd
 | fa (g : Nat)
def Sh.args : Sh → PA → List V → List V
 | .hd, p, l => ⟨.ptr, some p⟩ :: l
 | .fa g, p, l => l ++ [⟨.func, FV.fn g [ptrPk p] []⟩]
def lastFn (g : Nat) : List V → Option (PA × List V)
 | [] => none
 | [⟨.func, FV.fn g' [(.ptr, [.ptr (some p)])] []⟩] => bif Nat.beq g' g then some (p, []) else none
 | v :: r => match lastFn g r with | some (p, l) => some (p, v :: l) | none => none
def Sh.split : Sh → List V → Option (PA × List V)
 | .hd, ⟨.ptr, some p⟩ :: rest => some (p, rest)
 | .hd, _ => none
 | .fa g, l => lastFn g l
theorem Sh.len (sh : Sh) (p : PA) (l : List V) : (sh.args p l).length = l.length + 1 := by
 cases sh <;> simp [Sh.args]
theorem Sh.AR {sh : Sh} {φ ψ : Phi} {p q : PA} (hq : addr ψ q = addr φ p) {l m : List V} {xs : Array Value} (hl : ∀ ys : List Value, ARL φ l ys → ARL ψ m ys) (h : AR φ (sh.args p l) xs) : AR ψ (sh.args q m) xs := by
 rw [AR_iff] at h ⊢
 cases sh with
 | hd =>
  cases hxs : xs.toList with
  | nil => rw [hxs] at h; exact absurd h.1 (by simp [Sh.args])
  | cons y ys =>
   rw [hxs] at h
   have h0 : VR φ ⟨.ptr, some p⟩ y := by
    obtain ⟨z, hz, hr⟩ := h.2 0 _ rfl
    simp at hz; subst hz; exact hr
   refine ARL.cons ?_ (hl ys ⟨by simpa [Sh.args] using h.1, fun i u hi => by simpa using h.2 (i + 1) u (by simpa [Sh.args] using hi)⟩)
   obtain ⟨ad, had, hav⟩ := VR_ptr.1 h0
   exact VR_ptr.2 ⟨ad, hq.trans had, hav⟩
 | fa g =>
  have hlen : xs.toList.length = l.length + 1 := by simpa [Sh.args] using h.1
  have hne : xs.toList ≠ [] := fun e => by rw [e] at hlen; simp at hlen
  have hsp : xs.toList = xs.toList.dropLast ++ [xs.toList.getLast hne] := (List.dropLast_concat_getLast hne).symm
  rw [hsp] at h ⊢
  have hdl : xs.toList.dropLast.length = l.length := by rw [List.length_dropLast, hlen]; rfl
  have hA := hl xs.toList.dropLast ⟨hdl, fun i u hi => by
   have hlt := (List.getElem?_eq_some_iff.1 hi).1
   obtain ⟨z, hz, hr⟩ := h.2 i u (by simp only [Sh.args]; rw [List.getElem?_append_left hlt]; exact hi)
   rw [List.getElem?_append_left (by omega)] at hz
   exact ⟨z, hz, hr⟩⟩
  refine ⟨by simp only [Sh.args, List.length_append]; rw [hA.1]; rfl, fun i u hi => ?_⟩
  simp only [Sh.args] at hi
  by_cases hlt : i < m.length
  ·rw [List.getElem?_append_left hlt] at hi
   obtain ⟨z, hz, hr⟩ := hA.2 i u hi
   exact ⟨z, by rw [List.getElem?_append_left (by rw [hA.1]; exact hlt)]; exact hz, hr⟩
  ·rw [List.getElem?_append_right (by omega)] at hi
   have hi0 : i - m.length = 0 := by
    have := (List.getElem?_eq_some_iff.1 hi).1
    simp at this; omega
   rw [hi0] at hi
   simp at hi
   subst hi
   refine ⟨xs.toList.getLast hne, by rw [List.getElem?_append_right (by rw [hA.1]; omega), hA.1, hi0]; rfl, ?_⟩
   obtain ⟨z, hz, hr⟩ := h.2 l.length _ (by simp only [Sh.args]; rw [List.getElem?_append_right (Nat.le_refl _)]; simp; rfl)
   rw [List.getElem?_append_right (by omega), hdl] at hz
   simp at hz; subst hz
   obtain ⟨xa, xb, hv, g1, g2⟩ := VR_func.1 hr
   refine VR_func.2 ⟨xa, xb, by simpa using hv, ⟨g1.1, fun i c hc => ?_⟩, ⟨g2.1, fun i c hc => by simp at hc⟩⟩
   obtain ⟨v, hvi, hcr⟩ := g1.2 i (ptrPk p) (by
    cases i with
    | zero => rfl
    | succ i => simp at hc)
   have hce : c = ptrPk q := by
    cases i with
    | zero => simpa using hc.symm
    | succ i => simp at hc
   subst hce
   refine ⟨v, hvi, ?_⟩
   unfold VC0 ptrPk at hcr ⊢
   rw [if_neg (by simp [GX.isAgg])] at hcr ⊢
   obtain ⟨c, hc', hcr⟩ := hcr
   cases hc'
   obtain ⟨ad, had, hvv⟩ := hcr
   exact ⟨_, rfl, ad, hq.trans had, hvv⟩
def ObjOK (P : Program) (f : Nat) (D : Dk) (rp : List Nat) (n1 : Nat) (args : List V) (x : D.den) (v : V) (x' : D.den) (sh : Sh := .hd) : Prop :=
 ∀ base φ w xs, MemRel base φ (obMem D x) n1 w → AR φ (sh.args ⟨0, rp⟩ args) xs →
  Calls P f xs w fun e w' => ∃ ψ z, e = .returned z ∧ Phi.leK 1 φ ψ ∧ MemRel base ψ (obMem D x') n1 w' ∧ Below base w w' ∧ VR ψ v z
theorem own_src {mem : Mem} {e : Ty} {q : Option SL} {y : List e.den} {u : List Nat} (h : ownRd mem e q = some (y, true, u)) : ∀ i ∈ u, ∃ b, Mem.get mem i = some b ∧ b.wr = true := by
 cases q with
 | none =>
  simp only [ownRd, Option.some.injEq, Prod.mk.injEq] at h
  obtain ⟨_, _, rfl⟩ := h
  intro i hi; cases hi
 | some q =>
  simp only [ownRd] at h
  split at h
  ·rename_i b _ hb
   unfold ownB at h
   split at h
   ·simp only [Option.some.injEq, Prod.mk.injEq] at h
    obtain ⟨_, hok, rfl⟩ := h
    intro i hi
    simp at hi; subst hi
    exact ⟨b, (Mem.getC_spec hb).1, (and_split (and_split hok).2).1⟩
   ·cases h
  ·cases h
theorem mp_src {mem : Mem} {K E : Ty} {q : Option Nat} {y : List (MT K E).den} {u : List Nat} (h : mpRd mem K E q = some (y, true, u)) : ∀ i ∈ u, ∃ b, Mem.get mem i = some b ∧ b.wr = true := by
 cases q with
 | none => cases h
 | some j =>
  simp only [mpRd] at h
  split at h
  ·rename_i b hb
   split at h
   ·simp only [Option.some.injEq, Prod.mk.injEq] at h
    obtain ⟨_, hok, rfl⟩ := h
    intro i hi
    simp at hi; subst hi
    exact ⟨b, hb, (and_split hok).1⟩
   ·cases h
  ·cases h
theorem rd_src {mem : Mem} : ∀ {D : Dk} {x0 : D.ty.den} {y : D.den} {u : List Nat}, D.rd mem x0 = some (y, true, u) → ∀ i ∈ u, ∃ b, Mem.get mem i = some b ∧ b.wr = true
 | .v _, x0, y, u, h => by
  simp only [Dk.rd, Option.some.injEq, Prod.mk.injEq] at h
  obtain ⟨_, _, rfl⟩ := h
  intro i hi; cases hi
 | .own _ e, x0, y, u, h => own_src h
 | .mp _ K E, x0, y, u, h => mp_src h
 | .pr a b, x0, y, u, h => by
  simp only [Dk.rd] at h
  split at h
  ·rename_i y1 c1 u1 y2 c2 u2 ha hb
   cases hi : anyIn u1 u2 <;> rw [hi] at h
   ·simp only [cond_false, Option.some.injEq, Prod.mk.injEq] at h
    obtain ⟨_, hok, rfl⟩ := h
    obtain ⟨rfl, rfl⟩ := and_split hok
    intro i hi
    rcases List.mem_append.1 hi with hi | hi
    ·exact rd_src ha i hi
    ·exact rd_src hb i hi
   ·cases h
  ·cases h
theorem get_blksN {k : Nat} : ∀ {D : Dk} {y : D.den} {i : Nat} {b : Blk}, Mem.get (D.blksN k y) i = some b → ∃ c, c ∈ D.nms ∧ i = c + k ∧ Mem.get (D.blks y) c = some b
 | .v _, y, i, b, h => by simp [Dk.blksN, Mem.get] at h
 | .own c e, y, i, b, h => by
  simp only [Dk.blksN, Mem.get_cons] at h
  by_cases e : i = c + k
  ·rw [if_pos e] at h
   exact ⟨c, by simp [Dk.nms], e, by simp only [Dk.blks, Mem.get_cons, if_true]; exact h⟩
  ·rw [if_neg e] at h; cases h
 | .mp c K E, y, i, b, h => by
  simp only [Dk.blksN, Mem.get_cons] at h
  by_cases e : i = c + k
  ·rw [if_pos e] at h
   exact ⟨c, by simp [Dk.nms], e, by simp only [Dk.blks, Mem.get_cons, if_true]; exact h⟩
  ·rw [if_neg e] at h; cases h
 | .pr a b, y, i, b', h => by
  simp only [Dk.blksN, Mem.get_append] at h
  split at h
  ·rename_i x hx
   cases h
   obtain ⟨c, h1, h2, h3⟩ := get_blksN hx
   exact ⟨c, by simp [Dk.nms, h1], h2, by simp only [Dk.blks, Mem.get_append, h3]⟩
  ·rename_i hx
   obtain ⟨c, h1, h2, h3⟩ := get_blksN h
   refine ⟨c, by simp [Dk.nms, h1], h2, ?_⟩
   simp only [Dk.blks, Mem.get_append]
   cases hg : Mem.get (a.blks y.1) c with
   | none => exact h3
   | some z =>
    exfalso
    have : ∀ {D : Dk} {y : D.den} {c : Nat} {z : Blk}, Mem.get (D.blks y) c = some z → ∃ z', Mem.get (D.blksN k y) (c + k) = some z' := by
     intro D
     induction D with
     | v t => intro y c z h; simp [Dk.blks, Mem.get] at h
     | own c0 e =>
      intro y c z h
      simp only [Dk.blks, Mem.get_cons] at h
      by_cases e : c = c0
      ·exact ⟨_, by simp only [Dk.blksN, Mem.get_cons]; rw [if_pos (by rw [e])]⟩
      ·rw [if_neg e] at h; cases h
     | mp c0 K E =>
      intro y c z h
      simp only [Dk.blks, Mem.get_cons] at h
      by_cases e : c = c0
      ·exact ⟨_, by simp only [Dk.blksN, Mem.get_cons]; rw [if_pos (by rw [e])]⟩
      ·rw [if_neg e] at h; cases h
     | pr a b iha ihb =>
      intro y c z h
      simp only [Dk.blks, Mem.get_append] at h
      simp only [Dk.blksN, Mem.get_append]
      cases hg : Mem.get (a.blks y.1) c with
      | some z1 =>
       obtain ⟨z', hz'⟩ := iha hg
       rw [hz']; exact ⟨_, rfl⟩
      | none =>
       rw [hg] at h
       obtain ⟨z', hz'⟩ := ihb h
       cases Mem.get (a.blksN k y.1) (c + k) with
       | some w => exact ⟨_, rfl⟩
       | none => exact ⟨z', hz'⟩
    obtain ⟨z', hz'⟩ := this hg
    rw [← h2, hx] at hz'; cases hz'
theorem CR_bare {φ ψ : Phi} {t : Ty} (ht : plainT t = true) {x : t.den} {c : Cell} {i : Nat} (hc : (flat t x)[i]? = some c) {v : Value} (hr : CR φ c v) : CR ψ c v :=
 CR_any (plain_cells ht c (List.mem_of_getElem? hc)) hr
theorem V1_bare {φ ψ : Phi} {t : Ty} (ht : plainT t = true) {x : t.den} {v : Value} (hr : V1 φ t x v) : V1 ψ t x v := by
 unfold V1 at hr ⊢
 split
 ·rename_i ha
  rw [if_pos ha] at hr
  obtain ⟨l, e, h1, h2⟩ := hr
  exact ⟨l, e, h1, fun i c hi => by obtain ⟨v, hv, hx⟩ := h2 i c hi; exact ⟨v, hv, CR_bare ht hi hx⟩⟩
 ·rename_i ha
  rw [if_neg ha] at hr
  obtain ⟨c, e, h1⟩ := hr
  exact ⟨c, e, CR_bare ht (i := 0) (by rw [e]; rfl) h1⟩
theorem mkN_cells {χ ψ : Phi} {k : Nat} : ∀ {D : Dk} {y : D.den}, D.bare = true → (∀ c ∈ D.nms, ψ (c + k) = χ c) → ∀ (j : Nat) d, (flat D.ty (D.mkN k y))[j]? = some d → ∃ d0, (flat D.ty (D.mk y))[j]? = some d0 ∧ ∀ v, CR χ d0 v → CR ψ d v
 | .v t, y, hb, hn, j, d, h => ⟨d, h, fun v hv => CR_bare (t := t) hb h hv⟩
 | .own c e, y, hb, hn, j, d, h => by
  cases j with
  | zero =>
   simp only [Dk.mkN, flat, List.getElem?_cons_zero, Option.some.injEq] at h
   subst h
   refine ⟨_, rfl, fun v hv => ?_⟩
   unfold CR at hv ⊢
   have hv : SR χ ⟨c, [], 0, y.length, none⟩ v := hv
   show SR ψ ⟨c + k, [], 0, y.length, none⟩ v
   have hc := hn c (by simp [Dk.nms])
   rcases hv with hv | ⟨a, cc, e1, e2, e3, e4, e5⟩
   ·exact .inl hv
   ·refine .inr ⟨a, cc, e1, e2, e3, fun h1 h2 _ => ?_, fun h1 _ => ?_⟩
    ·obtain ⟨ph, g1, g2⟩ := e4 h1 h2 (VD.zero rfl)
     exact ⟨ph, hc.trans g1, g2⟩
    ·have := e5 h1 (VD.zero rfl)
     unfold addr at this ⊢
     simp only at this ⊢
     rw [hc]; exact this
  | succ j => simp [Dk.mkN, flat] at h
 | .mp c K E, y, hb, hn, j, d, h => by
  cases j with
  | zero =>
   simp only [Dk.mkN, flat, List.getElem?_cons_zero, Option.some.injEq] at h
   subst h
   refine ⟨_, rfl, fun v hv => ?_⟩
   unfold CR at hv ⊢
   obtain ⟨ph, g1, g2⟩ := hv
   exact ⟨ph, (hn c (by simp [Dk.nms])).trans g1, g2⟩
  | succ j => simp [Dk.mkN, flat] at h
 | .pr a b, y, hb, hn, j, d, h => by
  obtain ⟨hba, hbb⟩ := and_split hb
  simp only [Dk.mkN, flat] at h
  rcases Nat.lt_or_ge j (size a.ty) with hlt | hge
  ·rw [List.getElem?_append_left (by rw [length_flat]; exact hlt)] at h
   obtain ⟨d0, g1, g2⟩ := mkN_cells hba (fun c hc => hn c (by simp [Dk.nms, hc])) j d h
   exact ⟨d0, by simp only [Dk.mk, flat]; rw [List.getElem?_append_left (by rw [length_flat]; exact hlt)]; exact g1, g2⟩
  ·rw [List.getElem?_append_right (by rw [length_flat]; exact hge), length_flat] at h
   obtain ⟨d0, g1, g2⟩ := mkN_cells hbb (fun c hc => hn c (by simp [Dk.nms, hc])) _ d h
   exact ⟨d0, by simp only [Dk.mk, flat]; rw [List.getElem?_append_right (by rw [length_flat]; exact hge), length_flat]; exact g1, g2⟩
theorem blks_ren {base : Nat} {χ ψ : Phi} {w : World} : ∀ {D : Dk} {y : D.den} {c : Nat} {b : Blk} {ph : Phys}, D.bare = true → Mem.get (D.blks y) c = some b → BlkRel base χ ph b w → ψ.imm ph.blk = none → BlkRel base ψ ph b w
 | .v t, y, c, b, ph, hb, h, hr, hi => by simp [Dk.blks, Mem.get] at h
 | .own c0 e, y, c, b, ph, hb, h, hr, hi => by
  simp only [Dk.blks, Mem.get_cons] at h
  by_cases e0 : c = c0
  ·rw [if_pos e0] at h
   cases h
   obtain ⟨hpe, hnt⟩ := and_split hb
   have hnt : isTup e = false := by simpa using hnt
   obtain ⟨cs, el, fr, g1, g2, g3⟩ := hr.cells hnt
   exact ⟨hr.t, fun hw => ⟨(hr.own hw).1, hi⟩, MpRel.plain hnt _, fun _ => ⟨cs, el, fr, g1, fun k d hk => by
    obtain ⟨v, hv, hx⟩ := g2 k d hk
    exact ⟨v, hv, CR_bare (t := .arr y.length e) hpe hk hx⟩, fun hw => by
    obtain ⟨k1, k2, k3, k4⟩ := g3 hw
    exact ⟨k1, k2, hi, k4⟩⟩⟩
  ·rw [if_neg e0] at h; cases h
 | .mp c0 K E, y, c, b, ph, hb, h, hr, hi => by
  simp only [Dk.blks, Mem.get_cons] at h
  by_cases e0 : c = c0
  ·rw [if_pos e0] at h
   cases h
   obtain ⟨hK, hE⟩ := and_split hb
   refine ⟨hr.t, fun hw => ⟨(hr.own hw).1, hi⟩, ?_, fun ht => by cases ht⟩
   obtain ⟨es, clock, h1, h2, h3, h4⟩ := hr.mp
   exact ⟨es, clock, h1, h2, fun i x hx => (by
    obtain ⟨e, he, k1, k2⟩ := h3 i x hx
    exact ⟨e, he, V1_bare hK k1, V1_bare hE k2⟩), h4⟩
  ·rw [if_neg e0] at h; cases h
 | .pr a b, y, c, b', ph, hb, h, hr, hi => by
  obtain ⟨hba, hbb⟩ := and_split hb
  simp only [Dk.blks, Mem.get_append] at h
  split at h
  ·rename_i x hx
   cases h
   exact blks_ren hba hx hr hi
  ·exact blks_ren hbb h hr hi
end Go.GX

namespace Go.GX
set_option linter.unusedSimpArgs false
set_option linter.unusedVariables false
set_option linter.unusedSectionVars false
open Go.RowKit (Below)
theorem mkA_val : ∀ {ts : List Ty} {z : AD ts} {i : Nat} {v : V}, ts.all valT = true → (mkA ts z)[i]? = some v → valT v.t = true
 | [], z, i, v, h, hi => by simp [mkA] at hi
 | t :: ts, z, 0, v, h, hi => by
  simp only [mkA, List.getElem?_cons_zero, Option.some.injEq] at hi
  subst hi
  rw [List.all_cons] at h
  exact (and_split h).1
 | t :: ts, z, i + 1, v, h, hi => mkA_val (ts := ts) (z := z.2) (by rw [List.all_cons] at h; exact (and_split h).2) (by simpa [mkA] using hi)
theorem names_get {k : Nat} : ∀ {D : Dk} {y : D.den} {c : Nat}, c ∈ D.nms → (∃ b, Mem.get (D.blksN k y) (c + k) = some b) ∧ ∃ b, Mem.get (D.blks y) c = some b
 | .v _, y, c, h => by simp [Dk.nms] at h
 | .own c0 e, y, c, h => by
  simp only [Dk.nms, List.mem_singleton] at h
  subst h
  exact ⟨⟨_, by simp only [Dk.blksN, Mem.get_cons, if_true]; rfl⟩, ⟨_, by simp only [Dk.blks, Mem.get_cons, if_true]; rfl⟩⟩
 | .mp c0 K E, y, c, h => by
  simp only [Dk.nms, List.mem_singleton] at h
  subst h
  exact ⟨⟨_, by simp only [Dk.blksN, Mem.get_cons, if_true]; rfl⟩, ⟨_, by simp only [Dk.blks, Mem.get_cons, if_true]; rfl⟩⟩
 | .pr a b, y, c, h => by
  simp only [Dk.nms, List.mem_append] at h
  simp only [Dk.blksN, Dk.blks, Mem.get_append]
  rcases h with h | h
  ·obtain ⟨⟨b1, h1⟩, b2, h2⟩ := names_get (k := k) (D := a) (y := y.1) h
   exact ⟨⟨b1, by rw [h1]⟩, b2, by rw [h2]⟩
  ·obtain ⟨⟨b1, h1⟩, b2, h2⟩ := names_get (k := k) (D := b) (y := y.2) h
   refine ⟨?_, ?_⟩
   ·cases Mem.get (a.blksN k y.1) (c + k) with
    | some z => exact ⟨z, rfl⟩
    | none => exact ⟨b1, h1⟩
   ·cases Mem.get (a.blks y.1) c with
    | some z => exact ⟨z, rfl⟩
    | none => exact ⟨b2, h2⟩
end Go.GX

namespace Go.GX
set_option linter.unusedSimpArgs false
set_option linter.unusedVariables false
set_option linter.unusedSectionVars false
open Go.RowKit (Below)
def fnO (C : Cx) (fn : Func) (D : Dk) (rp : List Nat) (n1 : Nat) (T : Ty) (args : List V) (x : D.den) (sh : Sh := .hd) : Option (T.den × D.den) :=
 match fn.body with
 | none => none
 | some c => bif Nat.ble (args.length + 1) fn.ntmps then
  codeT C c ⟨putArgs (sh.args ⟨0, rp⟩ args) 0 .lf, fn.ntmps, obMem D x, n1, true⟩ fun e s => match e with
   | .exit _ => none
   | .goto _ => none
   | .pan _ _ => none
   | _ => match resY C.Θ fn s with
    | some (v, s', c) => bif c then (match asT T v, extS [.ob 0 D] s' with
     | some y, some (x', c2, _) => bif c2 then some (y, x'.1) else none
     | _, _ => none) else none
    | none => none
  else none
theorem fnO_ok {P : Program} {C : Cx} (hC : CxOK P C) {fn : Func} {f : Nat} (hf : P.funcs[f]? = some fn) {D : Dk} {rp : List Nat} {n1 : Nat} {T : Ty} {args : List V} {x x' : D.den} {y : T.den} {sh : Sh} (hL : ∀ c, fn.body = some c → LOK P C 1 c)
 (hoS : okS 1 n1 [.ob 0 D] = true) (hpl : D.plain = true) (hT : plainT T = true) (h : fnO C fn D rp n1 T args x sh = some (y, x')) : ObjOK P f D rp n1 args x ⟨T, y⟩ x' sh := by
 intro base φ w xs hm hA
 unfold fnO at h
 split at h
 ·cases h
 ·rename_i c hc
  cases hb : Nat.ble (args.length + 1) fn.ntmps <;> rw [hb] at h
  ·cases h
  ·simp only [cond_true] at h
   have hle := Nat.le_of_ble_eq_true hb
   refine calls_of_wp hf hc (codeT_ok hC (hL c hc) (base := base) (φ := φ) (fun e s hs => ?_) h ⟨fun s u c' hs => ?_, by simp [hA.1, Sh.len]; omega, hm, rfl⟩ ?_)
   ·split at hs
    ·cases hs
    ·cases hs
    ·cases hs
    ·split at hs
     ·rename_i v s' c hres
      cases hk : c <;> rw [hk] at hs hres
      ·cases hs
      ·unfold resY at hres
       split at hres
       ·simp only [Option.some.injEq, Prod.mk.injEq] at hres
        exact pubs_mono (and_split hres.2.2).2
       ·cases hres
     ·cases hs
   ·rcases putArgs_get hs with ⟨hc', _, hg⟩ | hg
    ·subst hc'
     simp only [Nat.sub_zero] at hg
     obtain ⟨x, hx, hr⟩ := hA.2 s u hg
     refine ⟨fun _ => ?_, fun e => by cases e⟩
     have hsz : s < xs.size := (Array.getElem?_eq_some_iff.1 hx).1
     rw [Array.getD_eq_getD_getElem?, Array.getElem?_append_left hsz, hx]
     exact hr
    ·simp [Tr.get] at hg
   ·intro e0 e s ψ a' w' he h1 hr' hb' h4
    have post : a'.defers = [] ∧ ∃ z, (results fn a'.tmps).run P w' = .ok z w' ∧ (∃ ψ z', Ending.returned z = .returned z' ∧ Phi.leK 1 φ ψ ∧ MemRel base ψ (obMem D x') n1 w' ∧ Below base w w' ∧ VR ψ ⟨T, y⟩ z') := by
     have h4 : (match resY C.Θ fn s with
      | some (v, s', c) => bif c then (match asT T v, extS [.ob 0 D] s' with
       | some y, some (x', c2, _) => bif c2 then some (y, x'.1) else none
       | _, _ => none) else none
      | none => none) = some (y, x') := by
      rcases EX_of he with ⟨rfl, rfl⟩ | ⟨j, rfl, rfl⟩ | ⟨rfl, rfl⟩ | ⟨j, rfl, rfl⟩ | ⟨_, _, rfl, rfl⟩
      ·exact h4
      ·cases h4
      ·exact h4
      ·cases h4
      ·cases h4
     split at h4
     ·rename_i v s' cc hres
      cases hk : cc <;> rw [hk] at h4 hres
      ·cases h4
      ·simp only [cond_true] at h4
       split at h4
       ·rename_i y1 x1 c2 us hv hx
        cases hc2 : c2 <;> rw [hc2] at h4 hx
        ·cases h4
        ·simp only [cond_true, Option.some.injEq, Prod.mk.injEq] at h4
         obtain ⟨rfl, rfl⟩ := h4
         have hv := asT_eq hv
         subst hv
         obtain ⟨χ, hχ, hr2, _, z, hrun, hz⟩ := resY_ok hC.Θ hr' hres
         obtain ⟨ψ2, g1, g2⟩ := extS_ok (kp := 1) (nxt := n1) hr2 hoS (by simp [plainIt, hpl]) hx
         refine ⟨hr'.defers, z, hrun, ψ2, z, rfl, Phi.leK_trans h1 (Phi.leK_trans hχ.toK g1), ?_, hb', plainV_ok (φ := χ) (ψ := ψ2) (by unfold plainV; rw [hT]; rfl) hz⟩
         have hmm := g2.mem
         simp only [mkS, List.append_nil] at hmm
         exact hmm
       ·cases h4
     ·cases h4
    rcases EX_of he with ⟨rfl, rfl⟩ | ⟨j, rfl, rfl⟩ | ⟨rfl, rfl⟩ | ⟨j, rfl, rfl⟩ | ⟨_, _, rfl, rfl⟩
    ·exact post
    ·cases h4
    ·exact post
    ·cases h4
    ·cases h4
theorem ObjOK.ofS {P : Program} {C : Cx} (hC : CxOK P C) {fn : Func} {f : Nat} (hf : P.funcs[f]? = some fn) {D : Dk} {rp : List Nat} {n1 : Nat} {ts : List Ty} {T : Ty} {S : D.den → AD ts → Option (T.den × D.den)} {sh : Sh} (hL : ∀ c, fn.body = some c → LOK P C 1 c)
 (hoS : (okS 1 n1 [.ob 0 D] && (D.plain && plainT T)) = true) (h : ∀ x z, fnO C fn D rp n1 T (mkA ts z) x sh = S x z) :
 ∀ x z, (S x z).isSome = true → ObjOK P f D rp n1 (mkA ts z) x ⟨T, ((S x z).getD (dflt T, D.dflt)).1⟩ ((S x z).getD (dflt T, D.dflt)).2 sh := by
 intro x z hk
 obtain ⟨h1, h2⟩ := and_split hoS
 obtain ⟨h2, h3⟩ := and_split h2
 cases hs : S x z with
 | none => rw [hs] at hk; cases hk
 | some y => exact fnO_ok hC hf hL h1 h2 h3 ((h x z).trans hs)
end Go.GX
