import Derived.Test.YtflbecfhnpdogaaGc
import Derived.Recover
/-! An executor for translated code over abstract states, and its soundness. -/
namespace Go.GX
set_option linter.unusedSimpArgs false
set_option linter.unusedVariables false
set_option linter.unusedSectionVars false
open Go.RowKit (Below)

/-! ## Methods of objects: what they answer, and what becomes of the object -/
def Dk.mkN (k : Nat) : (D : Dk) → D.den → D.ty.den
  | .v _, x => x
  | .own c _, x => some ⟨c + k, [], 0, x.length, none⟩
  | .mp c _ _, _ => some (c + k)
  | .pr a b, x => (a.mkN k x.1, b.mkN k x.2)
def Dk.blksN (k : Nat) : (D : Dk) → D.den → Mem
  | .v _, _ => []
  | .own c e, x => [(c + k, ⟨e, x.length, x, true⟩)]
  | .mp c K E, x => [(c + k, ⟨MT K E, 0, x, true⟩)]
  | .pr a b, x => a.blksN k x.1 ++ b.blksN k x.2
/-- kinds that name no memory at all -/
def Dk.bare : Dk → Bool
  | .v t => plainT t
  | .own _ e => plainT e && !isTup e
  | .mp _ K E => plainT K && plainT E
  | .pr a b => a.bare && b.bare
def delL (mem : Mem) : List Nat → Mem
  | [] => mem
  | i :: r => Mem.del (delL mem r) i
theorem get_delL {mem : Mem} : ∀ {u : List Nat} {i : Nat}, Mem.get (delL mem u) i = if i ∈ u then none else Mem.get mem i
  | [], i => by simp [delL]
  | j :: r, i => by
    simp only [delL, Mem.get_del, get_delL (u := r)]
    by_cases e : i = j
    · subst e; simp
    · rw [if_neg e]; simp [e]
/-- the canonical state of an object: block 0, its own blocks by their names -/
def obMem (D : Dk) (x : D.den) : Mem := (0, ⟨D.ty, 1, [D.mk x], true⟩) :: D.blks x
/-- how the object comes in: as the first argument, or bound in a function value that is the last one -/
inductive Sh where
  | hd
  | fa (g : Nat)
def Sh.args : Sh → PA → List V → List V
  | .hd, p, l => ⟨.ptr, some p⟩ :: l
  | .fa g, p, l => l ++ [⟨.func, FV.fn g [ptrPk p] []⟩]
def lastFn (g : Nat) : List V → Option (PA × List V)
  | [] => none
  | [⟨.func, FV.fn g' [(.ptr, [.ptr (some p)])] []⟩] => bif Nat.beq g' g then some (p, []) else none
  | v :: r => match lastFn g r with | some (p, l) => some (p, v :: l) | none => none
def Sh.split : Sh → List V → Option (PA × List V)
  | .hd, ⟨.ptr, some p⟩ :: rest => some (p, rest)
  | .hd, _ => none
  | .fa g, l => lastFn g l
theorem lastFn_eq {g : Nat} : ∀ {l : List V} {p : PA} {r : List V}, lastFn g l = some (p, r) → l = r ++ [⟨.func, FV.fn g [ptrPk p] []⟩] := by
  intro l
  induction l with
  | nil => intro p r h; cases h
  | cons v l ih =>
    intro p r h
    unfold lastFn at h
    split at h
    · cases h
    · rename_i g' q heq
      cases hb : Nat.beq g' g <;> rw [hb] at h
      · cases h
      · have hg := Nat.eq_of_beq_eq_true hb
        subst hg
        cases heq; cases h; rfl
    · rename_i v' r' _ heq
      cases heq
      split at h
      · rename_i p' l' hl
        cases h
        rw [ih hl]; rfl
      · cases h
theorem Sh.split_eq {sh : Sh} {l : List V} {p : PA} {r : List V} (h : sh.split l = some (p, r)) : l = sh.args p r := by
  unfold Sh.split at h
  split at h
  · cases h; rfl
  · cases h
  · exact lastFn_eq h
theorem Sh.len (sh : Sh) (p : PA) (l : List V) : (sh.args p l).length = l.length + 1 := by
  cases sh <;> simp [Sh.args]
/-- the same arguments by other names -/
theorem Sh.AR {sh : Sh} {φ ψ : Phi} {p q : PA} (hq : addr ψ q = addr φ p) {l m : List V} {xs : Array Value} (hl : ∀ ys : List Value, ARL φ l ys → ARL ψ m ys) (h : AR φ (sh.args p l) xs) : AR ψ (sh.args q m) xs := by
  rw [AR_iff] at h ⊢
  cases sh with
  | hd =>
    cases hxs : xs.toList with
    | nil => rw [hxs] at h; exact absurd h.1 (by simp [Sh.args])
    | cons y ys =>
      rw [hxs] at h
      have h0 : VR φ ⟨.ptr, some p⟩ y := by
        obtain ⟨z, hz, hr⟩ := h.2 0 _ rfl
        simp at hz; subst hz; exact hr
      refine ARL.cons ?_ (hl ys ⟨by simpa [Sh.args] using h.1, fun i u hi => by simpa using h.2 (i + 1) u (by simpa [Sh.args] using hi)⟩)
      obtain ⟨ad, had, hav⟩ := VR_ptr.1 h0
      exact VR_ptr.2 ⟨ad, hq.trans had, hav⟩
  | fa g =>
    have hlen : xs.toList.length = l.length + 1 := by simpa [Sh.args] using h.1
    have hne : xs.toList ≠ [] := fun e => by rw [e] at hlen; simp at hlen
    have hsp : xs.toList = xs.toList.dropLast ++ [xs.toList.getLast hne] := (List.dropLast_concat_getLast hne).symm
    rw [hsp] at h ⊢
    have hdl : xs.toList.dropLast.length = l.length := by rw [List.length_dropLast, hlen]; rfl
    have hA := hl xs.toList.dropLast ⟨hdl, fun i u hi => by
      have hlt := (List.getElem?_eq_some_iff.1 hi).1
      obtain ⟨z, hz, hr⟩ := h.2 i u (by simp only [Sh.args]; rw [List.getElem?_append_left hlt]; exact hi)
      rw [List.getElem?_append_left (by omega)] at hz
      exact ⟨z, hz, hr⟩⟩
    refine ⟨by simp only [Sh.args, List.length_append]; rw [hA.1]; rfl, fun i u hi => ?_⟩
    simp only [Sh.args] at hi
    by_cases hlt : i < m.length
    · rw [List.getElem?_append_left hlt] at hi
      obtain ⟨z, hz, hr⟩ := hA.2 i u hi
      exact ⟨z, by rw [List.getElem?_append_left (by rw [hA.1]; exact hlt)]; exact hz, hr⟩
    · rw [List.getElem?_append_right (by omega)] at hi
      have hi0 : i - m.length = 0 := by
        have := (List.getElem?_eq_some_iff.1 hi).1
        simp at this; omega
      rw [hi0] at hi
      simp at hi
      subst hi
      refine ⟨xs.toList.getLast hne, by rw [List.getElem?_append_right (by rw [hA.1]; omega), hA.1, hi0]; rfl, ?_⟩
      obtain ⟨z, hz, hr⟩ := h.2 l.length _ (by simp only [Sh.args]; rw [List.getElem?_append_right (Nat.le_refl _)]; simp; rfl)
      rw [List.getElem?_append_right (by omega), hdl] at hz
      simp at hz; subst hz
      obtain ⟨xa, xb, hv, g1, g2⟩ := VR_func.1 hr
      refine VR_func.2 ⟨xa, xb, by simpa using hv, ⟨g1.1, fun i c hc => ?_⟩, ⟨g2.1, fun i c hc => by simp at hc⟩⟩
      obtain ⟨v, hvi, hcr⟩ := g1.2 i (ptrPk p) (by
        cases i with
        | zero => rfl
        | succ i => simp at hc)
      have hce : c = ptrPk q := by
        cases i with
        | zero => simpa using hc.symm
        | succ i => simp at hc
      subst hce
      refine ⟨v, hvi, ?_⟩
      unfold VC0 ptrPk at hcr ⊢
      rw [if_neg (by simp [GX.isAgg])] at hcr ⊢
      obtain ⟨c, hc', hcr⟩ := hcr
      cases hc'
      obtain ⟨ad, had, hvv⟩ := hcr
      exact ⟨_, rfl, ad, hq.trans had, hvv⟩
def smO (D : Dk) (rp : List Nat) (n1 : Nat) (ts : List Ty) (T : Ty) (v : D.den → AD ts → T.den) (d : D.den → AD ts → D.den) (k : D.den → AD ts → Bool) (sh : Sh := .hd) : Sm := fun args mem nxt =>
  match sh.split args with
  | some (p, rest) => bif decide (p.path = rp) then (match Mem.getC mem p.id with
    | some b => match obRd mem p.id D b, asTs ts rest with
      | some (x, c, u), some z => bif plainT T && Nat.ble 1 nxt then some (⟨T, v x z⟩, ((p.id, ⟨D.ty, 1, [D.mkN (nxt - 1) (d x z)], true⟩) :: D.blksN (nxt - 1) (d x z)) ++ delL mem u, nxt - 1 + n1, k x z && c) else none
      | _, _ => none
    | none => none) else none
  | none => none
/-- what is owed by a method -/
def ObjOK (P : Program) (f : Nat) (D : Dk) (rp : List Nat) (n1 : Nat) (args : List V) (x : D.den) (v : V) (x' : D.den) (sh : Sh := .hd) : Prop :=
  ∀ base φ w xs, MemRel base φ (obMem D x) n1 w → AR φ (sh.args ⟨0, rp⟩ args) xs →
    Calls P f xs w fun e w' => ∃ ψ z, e = .returned z ∧ Phi.leK 1 φ ψ ∧ MemRel base ψ (obMem D x') n1 w' ∧ Below base w w' ∧ VR ψ v z
theorem obRd_own {mem : Mem} {i : Nat} {D : Dk} {b : Blk} {x : D.den} {u : List Nat} (hb : Mem.get mem i = some b) (h : obRd mem i D b = some (x, true, u)) : b.t = D.ty ∧ i ∈ u ∧ b.wr = true := by
  replace h := obRd_0 h
  unfold obRd0 at h
  split at h
  · rename_i ht
    split at h
    · rename_i x' c v hrd
      cases hc : v.contains i <;> rw [hc] at h
      · simp only [cond_false, Option.some.injEq, Prod.mk.injEq] at h
        obtain ⟨_, hok, rfl⟩ := h
        exact ⟨ht, by simp, (and_split hok).1⟩
      · cases h
    · cases h
  · cases h
theorem own_src {mem : Mem} {e : Ty} {q : Option SL} {y : List e.den} {u : List Nat} (h : ownRd mem e q = some (y, true, u)) : ∀ i ∈ u, ∃ b, Mem.get mem i = some b ∧ b.wr = true := by
  cases q with
  | none =>
    simp only [ownRd, Option.some.injEq, Prod.mk.injEq] at h
    obtain ⟨_, _, rfl⟩ := h
    intro i hi; cases hi
  | some q =>
    simp only [ownRd] at h
    split at h
    · rename_i b _ hb
      unfold ownB at h
      split at h
      · simp only [Option.some.injEq, Prod.mk.injEq] at h
        obtain ⟨_, hok, rfl⟩ := h
        intro i hi
        simp at hi; subst hi
        exact ⟨b, (Mem.getC_spec hb).1, (and_split hok).1⟩
      · cases h
    · cases h
theorem mp_src {mem : Mem} {K E : Ty} {q : Option Nat} {y : List (MT K E).den} {u : List Nat} (h : mpRd mem K E q = some (y, true, u)) : ∀ i ∈ u, ∃ b, Mem.get mem i = some b ∧ b.wr = true := by
  cases q with
  | none => cases h
  | some j =>
    simp only [mpRd] at h
    split at h
    · rename_i b hb
      split at h
      · simp only [Option.some.injEq, Prod.mk.injEq] at h
        obtain ⟨_, hok, rfl⟩ := h
        intro i hi
        simp at hi; subst hi
        exact ⟨b, hb, (and_split hok).1⟩
      · cases h
    · cases h
theorem rd_src {mem : Mem} : ∀ {D : Dk} {x0 : D.ty.den} {y : D.den} {u : List Nat}, D.rd mem x0 = some (y, true, u) → ∀ i ∈ u, ∃ b, Mem.get mem i = some b ∧ b.wr = true
  | .v _, x0, y, u, h => by
    simp only [Dk.rd, Option.some.injEq, Prod.mk.injEq] at h
    obtain ⟨_, _, rfl⟩ := h
    intro i hi; cases hi
  | .own _ e, x0, y, u, h => own_src h
  | .mp _ K E, x0, y, u, h => mp_src h
  | .pr a b, x0, y, u, h => by
    simp only [Dk.rd] at h
    split at h
    · rename_i y1 c1 u1 y2 c2 u2 ha hb
      cases hi : anyIn u1 u2 <;> rw [hi] at h
      · simp only [cond_false, Option.some.injEq, Prod.mk.injEq] at h
        obtain ⟨_, hok, rfl⟩ := h
        obtain ⟨rfl, rfl⟩ := and_split hok
        intro i hi
        rcases List.mem_append.1 hi with hi | hi
        · exact rd_src ha i hi
        · exact rd_src hb i hi
      · cases h
    · cases h
theorem obRd_src {mem : Mem} {i : Nat} {D : Dk} {b : Blk} {x : D.den} {u : List Nat} (hb : Mem.get mem i = some b) (h : obRd mem i D b = some (x, true, u)) : ∀ j ∈ u, ∃ b, Mem.get mem j = some b ∧ b.wr = true := by
  have h0 := obRd_own hb h
  replace h := obRd_0 h
  unfold obRd0 at h
  split at h
  · split at h
    · rename_i x' c v hrd
      cases hc : v.contains i <;> rw [hc] at h
      · simp only [cond_false, Option.some.injEq, Prod.mk.injEq] at h
        obtain ⟨_, hok, rfl⟩ := h
        obtain ⟨_, hok⟩ := and_split hok
        obtain ⟨_, rfl⟩ := and_split hok
        intro j hj
        rcases List.mem_cons.1 hj with rfl | hj
        · exact ⟨b, hb, h0.2.2⟩
        · exact rd_src hrd j hj
      · cases h
    · cases h
  · cases h
/-- names moved -/
theorem get_blksN {k : Nat} : ∀ {D : Dk} {y : D.den} {i : Nat} {b : Blk}, Mem.get (D.blksN k y) i = some b → ∃ c, c ∈ D.nms ∧ i = c + k ∧ Mem.get (D.blks y) c = some b
  | .v _, y, i, b, h => by simp [Dk.blksN, Mem.get] at h
  | .own c e, y, i, b, h => by
    simp only [Dk.blksN, Mem.get_cons] at h
    by_cases e : i = c + k
    · rw [if_pos e] at h
      exact ⟨c, by simp [Dk.nms], e, by simp only [Dk.blks, Mem.get_cons, if_true]; exact h⟩
    · rw [if_neg e] at h; cases h
  | .mp c K E, y, i, b, h => by
    simp only [Dk.blksN, Mem.get_cons] at h
    by_cases e : i = c + k
    · rw [if_pos e] at h
      exact ⟨c, by simp [Dk.nms], e, by simp only [Dk.blks, Mem.get_cons, if_true]; exact h⟩
    · rw [if_neg e] at h; cases h
  | .pr a b, y, i, b', h => by
    simp only [Dk.blksN, Mem.get_append] at h
    split at h
    · rename_i x hx
      cases h
      obtain ⟨c, h1, h2, h3⟩ := get_blksN hx
      exact ⟨c, by simp [Dk.nms, h1], h2, by simp only [Dk.blks, Mem.get_append, h3]⟩
    · rename_i hx
      obtain ⟨c, h1, h2, h3⟩ := get_blksN h
      refine ⟨c, by simp [Dk.nms, h1], h2, ?_⟩
      simp only [Dk.blks, Mem.get_append]
      cases hg : Mem.get (a.blks y.1) c with
      | none => exact h3
      | some z =>
        exfalso
        have : ∀ {D : Dk} {y : D.den} {c : Nat} {z : Blk}, Mem.get (D.blks y) c = some z → ∃ z', Mem.get (D.blksN k y) (c + k) = some z' := by
          intro D
          induction D with
          | v t => intro y c z h; simp [Dk.blks, Mem.get] at h
          | own c0 e =>
            intro y c z h
            simp only [Dk.blks, Mem.get_cons] at h
            by_cases e : c = c0
            · exact ⟨_, by simp only [Dk.blksN, Mem.get_cons]; rw [if_pos (by rw [e])]⟩
            · rw [if_neg e] at h; cases h
          | mp c0 K E =>
            intro y c z h
            simp only [Dk.blks, Mem.get_cons] at h
            by_cases e : c = c0
            · exact ⟨_, by simp only [Dk.blksN, Mem.get_cons]; rw [if_pos (by rw [e])]⟩
            · rw [if_neg e] at h; cases h
          | pr a b iha ihb =>
            intro y c z h
            simp only [Dk.blks, Mem.get_append] at h
            simp only [Dk.blksN, Mem.get_append]
            cases hg : Mem.get (a.blks y.1) c with
            | some z1 =>
              obtain ⟨z', hz'⟩ := iha hg
              rw [hz']; exact ⟨_, rfl⟩
            | none =>
              rw [hg] at h
              obtain ⟨z', hz'⟩ := ihb h
              cases Mem.get (a.blksN k y.1) (c + k) with
              | some w => exact ⟨_, rfl⟩
              | none => exact ⟨z', hz'⟩
        obtain ⟨z', hz'⟩ := this hg
        rw [← h2, hx] at hz'; cases hz'
theorem CR_bare {φ ψ : Phi} {t : Ty} (ht : plainT t = true) {x : t.den} {c : Cell} {i : Nat} (hc : (flat t x)[i]? = some c) {v : Value} (hr : CR φ c v) : CR ψ c v :=
  CR_any (plain_cells ht c (List.mem_of_getElem? hc)) hr
theorem V1_bare {φ ψ : Phi} {t : Ty} (ht : plainT t = true) {x : t.den} {v : Value} (hr : V1 φ t x v) : V1 ψ t x v := by
  unfold V1 at hr ⊢
  split
  · rename_i ha
    rw [if_pos ha] at hr
    obtain ⟨l, e, h1, h2⟩ := hr
    exact ⟨l, e, h1, fun i c hi => by obtain ⟨v, hv, hx⟩ := h2 i c hi; exact ⟨v, hv, CR_bare ht hi hx⟩⟩
  · rename_i ha
    rw [if_neg ha] at hr
    obtain ⟨c, e, h1⟩ := hr
    exact ⟨c, e, CR_bare ht (i := 0) (by rw [e]; rfl) h1⟩
theorem mkN_cells {χ ψ : Phi} {k : Nat} : ∀ {D : Dk} {y : D.den}, D.bare = true → (∀ c ∈ D.nms, ψ (c + k) = χ c) → ∀ (j : Nat) d, (flat D.ty (D.mkN k y))[j]? = some d → ∃ d0, (flat D.ty (D.mk y))[j]? = some d0 ∧ ∀ v, CR χ d0 v → CR ψ d v
  | .v t, y, hb, hn, j, d, h => ⟨d, h, fun v hv => CR_bare (t := t) hb h hv⟩
  | .own c e, y, hb, hn, j, d, h => by
    cases j with
    | zero =>
      simp only [Dk.mkN, flat, List.getElem?_cons_zero, Option.some.injEq] at h
      subst h
      refine ⟨_, rfl, fun v hv => ?_⟩
      unfold CR at hv ⊢
      have hv : SR χ ⟨c, [], 0, y.length, none⟩ v := hv
      show SR ψ ⟨c + k, [], 0, y.length, none⟩ v
      have hc := hn c (by simp [Dk.nms])
      rcases hv with hv | ⟨a, cc, e1, e2, e3, e4, e5⟩
      · exact .inl hv
      · refine .inr ⟨a, cc, e1, e2, e3, fun h1 h2 => ?_, fun h1 => ?_⟩
        · obtain ⟨ph, g1, g2⟩ := e4 h1 h2
          exact ⟨ph, hc.trans g1, g2⟩
        · have := e5 h1
          unfold addr at this ⊢
          simp only at this ⊢
          rw [hc]; exact this
    | succ j => simp [Dk.mkN, flat] at h
  | .mp c K E, y, hb, hn, j, d, h => by
    cases j with
    | zero =>
      simp only [Dk.mkN, flat, List.getElem?_cons_zero, Option.some.injEq] at h
      subst h
      refine ⟨_, rfl, fun v hv => ?_⟩
      unfold CR at hv ⊢
      obtain ⟨ph, g1, g2⟩ := hv
      exact ⟨ph, (hn c (by simp [Dk.nms])).trans g1, g2⟩
    | succ j => simp [Dk.mkN, flat] at h
  | .pr a b, y, hb, hn, j, d, h => by
    obtain ⟨hba, hbb⟩ := and_split hb
    simp only [Dk.mkN, flat] at h
    rcases Nat.lt_or_ge j (size a.ty) with hlt | hge
    · rw [List.getElem?_append_left (by rw [length_flat]; exact hlt)] at h
      obtain ⟨d0, g1, g2⟩ := mkN_cells hba (fun c hc => hn c (by simp [Dk.nms, hc])) j d h
      exact ⟨d0, by simp only [Dk.mk, flat]; rw [List.getElem?_append_left (by rw [length_flat]; exact hlt)]; exact g1, g2⟩
    · rw [List.getElem?_append_right (by rw [length_flat]; exact hge), length_flat] at h
      obtain ⟨d0, g1, g2⟩ := mkN_cells hbb (fun c hc => hn c (by simp [Dk.nms, hc])) _ d h
      exact ⟨d0, by simp only [Dk.mk, flat]; rw [List.getElem?_append_right (by rw [length_flat]; exact hge), length_flat]; exact g1, g2⟩
/-- an own block under another name -/
theorem blks_ren {base : Nat} {χ ψ : Phi} {w : World} : ∀ {D : Dk} {y : D.den} {c : Nat} {b : Blk} {ph : Phys}, D.bare = true → Mem.get (D.blks y) c = some b → BlkRel base χ ph b w → ψ.imm ph.blk = none → BlkRel base ψ ph b w
  | .v t, y, c, b, ph, hb, h, hr, hi => by simp [Dk.blks, Mem.get] at h
  | .own c0 e, y, c, b, ph, hb, h, hr, hi => by
    simp only [Dk.blks, Mem.get_cons] at h
    by_cases e0 : c = c0
    · rw [if_pos e0] at h
      cases h
      obtain ⟨hpe, hnt⟩ := and_split hb
      have hnt : isTup e = false := by simpa using hnt
      obtain ⟨cs, el, fr, g1, g2, g3⟩ := hr.cells hnt
      exact ⟨hr.t, fun hw => ⟨(hr.own hw).1, hi⟩, MpRel.plain hnt _, fun _ => ⟨cs, el, fr, g1, fun k d hk => by
        obtain ⟨v, hv, hx⟩ := g2 k d hk
        exact ⟨v, hv, CR_bare (t := .arr y.length e) hpe hk hx⟩, fun hw => by
        obtain ⟨k1, k2, k3, k4⟩ := g3 hw
        exact ⟨k1, k2, hi, k4⟩⟩⟩
    · rw [if_neg e0] at h; cases h
  | .mp c0 K E, y, c, b, ph, hb, h, hr, hi => by
    simp only [Dk.blks, Mem.get_cons] at h
    by_cases e0 : c = c0
    · rw [if_pos e0] at h
      cases h
      obtain ⟨hK, hE⟩ := and_split hb
      refine ⟨hr.t, fun hw => ⟨(hr.own hw).1, hi⟩, ?_, fun ht => by cases ht⟩
      obtain ⟨es, clock, h1, h2, h3, h4⟩ := hr.mp
      exact ⟨es, clock, h1, h2, fun i x hx => (by
        obtain ⟨e, he, k1, k2⟩ := h3 i x hx
        exact ⟨e, he, V1_bare hK k1, V1_bare hE k2⟩), h4⟩
    · rw [if_neg e0] at h; cases h
  | .pr a b, y, c, b', ph, hb, h, hr, hi => by
    obtain ⟨hba, hbb⟩ := and_split hb
    simp only [Dk.blks, Mem.get_append] at h
    split at h
    · rename_i x hx
      cases h
      exact blks_ren hba hx hr hi
    · exact blks_ren hbb h hr hi
end Go.GX

namespace Go.GX
set_option linter.unusedSimpArgs false
set_option linter.unusedVariables false
set_option linter.unusedSectionVars false
open Go.RowKit (Below)

theorem mkA_val : ∀ {ts : List Ty} {z : AD ts} {i : Nat} {v : V}, ts.all valT = true → (mkA ts z)[i]? = some v → valT v.t = true
  | [], z, i, v, h, hi => by simp [mkA] at hi
  | t :: ts, z, 0, v, h, hi => by
    simp only [mkA, List.getElem?_cons_zero, Option.some.injEq] at hi
    subst hi
    rw [List.all_cons] at h
    exact (and_split h).1
  | t :: ts, z, i + 1, v, h, hi => mkA_val (ts := ts) (z := z.2) (by rw [List.all_cons] at h; exact (and_split h).2) (by simpa [mkA] using hi)
theorem blks_wr : ∀ {D : Dk} {y : D.den} {c : Nat} {b : Blk}, Mem.get (D.blks y) c = some b → b.wr = true
  | .v _, y, c, b, h => by simp [Dk.blks, Mem.get] at h
  | .own c0 e, y, c, b, h => by
    simp only [Dk.blks, Mem.get_cons] at h
    by_cases e : c = c0
    · rw [if_pos e] at h; cases h; rfl
    · rw [if_neg e] at h; cases h
  | .mp c0 K E, y, c, b, h => by
    simp only [Dk.blks, Mem.get_cons] at h
    by_cases e : c = c0
    · rw [if_pos e] at h; cases h; rfl
    · rw [if_neg e] at h; cases h
  | .pr a b, y, c, b', h => by
    simp only [Dk.blks, Mem.get_append] at h
    split at h
    · rename_i x hx; cases h; exact blks_wr hx
    · exact blks_wr h
theorem names_get {k : Nat} : ∀ {D : Dk} {y : D.den} {c : Nat}, c ∈ D.nms → (∃ b, Mem.get (D.blksN k y) (c + k) = some b) ∧ ∃ b, Mem.get (D.blks y) c = some b
  | .v _, y, c, h => by simp [Dk.nms] at h
  | .own c0 e, y, c, h => by
    simp only [Dk.nms, List.mem_singleton] at h
    subst h
    exact ⟨⟨_, by simp only [Dk.blksN, Mem.get_cons, if_true]; rfl⟩, ⟨_, by simp only [Dk.blks, Mem.get_cons, if_true]; rfl⟩⟩
  | .mp c0 K E, y, c, h => by
    simp only [Dk.nms, List.mem_singleton] at h
    subst h
    exact ⟨⟨_, by simp only [Dk.blksN, Mem.get_cons, if_true]; rfl⟩, ⟨_, by simp only [Dk.blks, Mem.get_cons, if_true]; rfl⟩⟩
  | .pr a b, y, c, h => by
    simp only [Dk.nms, List.mem_append] at h
    simp only [Dk.blksN, Dk.blks, Mem.get_append]
    rcases h with h | h
    · obtain ⟨⟨b1, h1⟩, b2, h2⟩ := names_get (k := k) (D := a) (y := y.1) h
      exact ⟨⟨b1, by rw [h1]⟩, b2, by rw [h2]⟩
    · obtain ⟨⟨b1, h1⟩, b2, h2⟩ := names_get (k := k) (D := b) (y := y.2) h
      refine ⟨?_, ?_⟩
      · cases Mem.get (a.blksN k y.1) (c + k) with
        | some z => exact ⟨z, rfl⟩
        | none => exact ⟨b1, h1⟩
      · cases Mem.get (a.blks y.1) c with
        | some z => exact ⟨z, rfl⟩
        | none => exact ⟨b2, h2⟩
theorem SmOK.smO {P : Program} {f : Nat} {D : Dk} {rp : List Nat} {n1 : Nat} {ts : List Ty} {T : Ty} {v : D.den → AD ts → T.den} {d : D.den → AD ts → D.den} {k : D.den → AD ts → Bool} {sh : Sh}
    (hbare : D.bare = true) (hplain : D.plain = true) (hnd : noDup D.nms = true) (hlt : ∀ c ∈ D.nms, 1 ≤ c ∧ c < n1) (hn1 : 1 ≤ n1) (hts : ts.all valT = true)
    (h : ∀ x z, k x z = true → ObjOK P f D rp n1 (mkA ts z) x ⟨T, v x z⟩ (d x z) sh) : SmOK P f (GX.smO D rp n1 ts T v d k sh) := by
  classical
  intro args mem nxt u mem' nxt' hg base φ w xs hm hA
  unfold GX.smO at hg
  split at hg
  · rename_i p rest hsh
    have hsh := Sh.split_eq hsh
    subst hsh
    cases hpath : decide (p.path = rp) <;> rw [hpath] at hg
    · cases hg
    have hpath := of_decide_eq_true hpath
    simp only [cond_true] at hg
    split at hg
    · rename_i b hb
      split at hg
      · rename_i x c us z hob has
        cases hpt : plainT T && Nat.ble 1 nxt <;> rw [hpt] at hg
        · cases hg
        obtain ⟨hT, hn0⟩ := and_split hpt
        have hn0 : 1 ≤ nxt := Nat.le_of_ble_eq_true hn0
        simp only [cond_true, Option.some.injEq, Prod.mk.injEq] at hg
        obtain ⟨rfl, rfl, rfl, hkc⟩ := hg
        obtain ⟨hk, rfl⟩ := and_split hkc
        obtain ⟨hb0, hbnt⟩ := Mem.getC_spec hb
        obtain ⟨hbt, hius, _⟩ := obRd_own hb0 hob
        have hsrc := obRd_src hb0 hob
        rw [hbt] at hbnt
        -- the callee's names
        let ψ0 : Phi := ⟨fun j => if j = 0 then φ p.id else if j ∈ D.nms then obPh φ mem w p.id D j else none, φ.imm, φ.lo⟩
        have h00 : ψ0 0 = φ p.id := rfl
        have h0n : ∀ c ∈ D.nms, ψ0 c = obPh φ mem w p.id D c := fun c hc => by
          show (if c = 0 then _ else if c ∈ D.nms then _ else none) = _
          rw [if_neg (by have := hlt c hc; omega), if_pos hc]
        have A := ob_sound (ψ := ψ0) hm rfl hb hob hplain hnd (i' := 0) h00 h0n
        have hobget : ∀ j ph, ψ0 j = some ph → ∃ b', Mem.get (obMem D x) j = some b' := by
          intro j ph hj
          have hj : (if j = 0 then φ p.id else if j ∈ D.nms then obPh φ mem w p.id D j else none) = some ph := hj
          by_cases e : j = 0
          · exact ⟨_, by simp only [obMem, Mem.get_cons]; rw [if_pos e]⟩
          · rw [if_neg e] at hj
            by_cases e2 : j ∈ D.nms
            · obtain ⟨_, b', hb'⟩ := names_get (k := 0) (y := x) e2
              exact ⟨b', by simp only [obMem, Mem.get_cons]; rw [if_neg e]; exact hb'⟩
            · rw [if_neg e2] at hj; cases hj
        obtain ⟨phi, hphi⟩ : ∃ ph, φ p.id = some ph := by
          rcases A.at_ 0 _ (by simp only [Mem.get_cons, if_true]; rfl) with ⟨_, h1⟩ | ⟨ph, h1, _⟩
          · simp at h1
          · exact ⟨ph, h1⟩
        have hilt : p.id < nxt := (hm.fresh p.id phi hphi).1
        let isOb : Nat → Prop := fun k => ∃ j ph, ψ0 j = some ph ∧ ph.blk = k
        let imm1 : Nat → Option Obj := fun k => if isOb k then φ.imm k else w.heap[k]?
        have him : ∀ k o, φ.imm k = some o → imm1 k = some o := fun k o hk => by
          show (if isOb k then φ.imm k else w.heap[k]?) = some o
          by_cases e : isOb k
          · rw [if_pos e]; exact hk
          · rw [if_neg e]; exact hm.imm k o hk
        let φ1 : Phi := ⟨ψ0.ad, imm1, φ.lo⟩
        have hle01 : ψ0.sub φ1 := ⟨fun _ _ h => h, him⟩
        have hφ1 : ∀ j, φ1 j = ψ0 j := fun _ => rfl
        have M1 : MemRel base φ1 (obMem D x) n1 w := by
          refine ⟨fun j b' hj => ?_, fun i j b b' ph ph' hi hj hij _ hp hp' => A.apart i j b b' ph ph' hi hj hij hp hp', fun j ph hj => ?_, hm.lo, hm.base, fun k o hk => ?_⟩
          · rcases A.at_ j b' hj with h1 | ⟨ph, h1, hr, _⟩
            · exact .inl h1
            · refine .inr ⟨ph, h1, hr.t, fun hw => ⟨(hr.own hw).1, ?_⟩, hr.mp.same hle01 rfl, fun ht => ?_⟩
              · show (if isOb ph.blk then φ.imm ph.blk else w.heap[ph.blk]?) = none
                rw [if_pos ⟨j, ph, h1, rfl⟩]; exact (hr.own hw).2
              · obtain ⟨cs, el, fr, g1, g2, g3⟩ := hr.cells ht
                refine ⟨cs, el, fr, g1, fun k d hk => ?_, fun hw => ?_⟩
                · obtain ⟨v, hv, hx⟩ := g2 k d hk; exact ⟨v, hv, CR_mono hle01 hx⟩
                · obtain ⟨k1, k2, k3, k4⟩ := g3 hw
                  refine ⟨k1, k2, ?_, k4⟩
                  show (if isOb ph.blk then φ.imm ph.blk else w.heap[ph.blk]?) = none
                  rw [if_pos ⟨j, ph, h1, rfl⟩]; exact k3
          · have hj : (if j = 0 then φ p.id else if j ∈ D.nms then obPh φ mem w p.id D j else none) = some ph := hj
            by_cases e : j = 0
            · rw [if_pos e] at hj; exact ⟨by omega, (hm.fresh _ _ hj).2⟩
            · rw [if_neg e] at hj
              by_cases e2 : j ∈ D.nms
              · rw [if_pos e2] at hj; exact ⟨(hlt j e2).2, obPh_lt (fun i ph h => (hm.fresh i ph h).2) hj⟩
              · rw [if_neg e2] at hj; cases hj
          · have hk : (if isOb k then φ.imm k else w.heap[k]?) = some o := hk
            by_cases e : isOb k
            · rw [if_pos e] at hk; exact hm.imm k o hk
            · rw [if_neg e] at hk; exact hk
        -- its arguments
        have A1 : AR φ1 (sh.args ⟨0, rp⟩ (mkA ts z)) xs := by
          refine Sh.AR (p := p) ?_ (fun ys hl => ?_) hA
          · unfold addr
            rw [hpath]
            rfl
          · have hl := asTs_AR has hl
            refine ⟨hl.1, fun i u hi => ?_⟩
            obtain ⟨q, hq, hr⟩ := hl.2 i u hi
            exact ⟨q, hq, valV_ok (φ := φ) (ψ := φ1) him (by unfold valV; rw [mkA_val hts hi]; rfl) hr⟩
        refine (h x z hk base φ1 w xs M1 A1).mono ?_
        rintro e w' ⟨χ, zv, rfl, hle, hM, hbw, hV⟩
        -- back
        have hχ0 : χ 0 = some phi := hle.ad 0 phi (by omega) (by rw [hφ1, h00]; exact hphi)
        have hcn : ∀ k, χ.imm k = none → φ.imm k = none := fun k hk => by
          cases hi : φ.imm k with
          | none => rfl
          | some o => rw [hle.imm k o (him k o hi)] at hk; cases hk
        let K : Nat := nxt - 1
        let φ2 : Phi := ⟨fun j => if nxt ≤ j then (if j - K ∈ D.nms then χ (j - K) else none) else φ j, φ.imm, φ.lo⟩
        have hφ2n : ∀ c ∈ D.nms, φ2 (c + K) = χ c := fun c hc => by
          show (if nxt ≤ c + K then (if c + K - K ∈ D.nms then χ (c + K - K) else none) else φ (c + K)) = χ c
          rw [if_pos (by have := (hlt c hc).1; show nxt ≤ c + (nxt - 1); omega), show c + K - K = c by omega, if_pos hc]
        have hφ2o : ∀ j, j < nxt → φ2 j = φ j := fun j hj => by
          show (if nxt ≤ j then _ else φ j) = φ j
          rw [if_neg (by omega)]
        have hle2 : φ.le φ2 := ⟨⟨fun i ph hp => by rw [hφ2o i (hm.fresh i ph hp).1]; exact hp, fun _ _ h => h⟩, fun _ _ h => .inl h, rfl⟩
        -- new blocks
        have hnew : ∀ j b', Mem.get ((p.id, (⟨D.ty, 1, [D.mkN K (d x z)], true⟩ : Blk)) :: D.blksN K (d x z)) j = some b' →
            b'.wr = true ∧ ∃ c b0, Mem.get (obMem D (d x z)) c = some b0 ∧ b0.wr = true ∧ φ2 j = χ c ∧ ((c = 0 ∧ j = p.id) ∨ (c ∈ D.nms ∧ j = c + K)) ∧
              ((φ2 j = none ∧ b'.n = 0) ∨ ∃ ph, φ2 j = some ph ∧ BlkRel base φ2 ph b' w') := by
          intro j b' hj
          simp only [Mem.get_cons] at hj
          by_cases e : j = p.id
          · rw [if_pos e] at hj
            cases hj
            have g0 : Mem.get (obMem D (d x z)) 0 = some ⟨D.ty, 1, [D.mk (d x z)], true⟩ := by simp only [obMem, Mem.get_cons, if_true]
            have hr := hM.blkAt g0 hχ0
            have hj2 : φ2 j = some phi := by rw [e, hφ2o _ hilt]; exact hphi
            refine ⟨rfl, 0, _, g0, rfl, by rw [hj2, hχ0], .inl ⟨rfl, e⟩, .inr ⟨phi, hj2, hr.t, fun hw => ⟨(hr.own rfl).1, hcn _ (hr.own rfl).2⟩, MpRel.plain hbnt _, fun ht => ?_⟩⟩
            obtain ⟨cs, el, fr, g1, g2, g3⟩ := hr.cells ht
            refine ⟨cs, el, fr, g1, fun k d' hk => ?_, fun hw => ?_⟩
            · have e1 : ∀ y : D.ty.den, flat (.arr 1 D.ty) [y] = flat D.ty y := fun y => by simp [flat, List.range_succ]
              have hk' : (flat D.ty (D.mkN K (d x z)))[k]? = some d' := by rw [← e1]; exact hk
              obtain ⟨d0, q1, q2⟩ := mkN_cells (χ := χ) (ψ := φ2) hbare hφ2n k d' hk'
              obtain ⟨v, hv, hx⟩ := g2 k d0 (by show (flat (.arr 1 D.ty) [D.mk (d x z)])[k]? = some d0; rw [e1]; exact q1)
              exact ⟨v, hv, q2 v hx⟩
            · obtain ⟨k1, k2, k3, k4⟩ := g3 rfl
              exact ⟨k1, k2, hcn _ k3, k4⟩
          · rw [if_neg e] at hj
            obtain ⟨c, h1, h2, h3⟩ := get_blksN hj
            have hc0 : c ≠ 0 := by have := (hlt c h1).1; omega
            have g0 : Mem.get (obMem D (d x z)) c = some b' := by simp only [obMem, Mem.get_cons]; rw [if_neg hc0]; exact h3
            have hj2 : φ2 j = χ c := by rw [h2]; exact hφ2n c h1
            refine ⟨blks_wr h3, c, b', g0, blks_wr h3, hj2, .inr ⟨h1, h2⟩, ?_⟩
            rcases hM.blk c b' g0 with ⟨q1, q2⟩ | ⟨ph, q1, q2⟩
            · exact .inl ⟨by rw [hj2]; exact q1, q2⟩
            · exact .inr ⟨ph, by rw [hj2]; exact q1, blks_ren hbare h3 q2 (hcn _ (q2.own (blks_wr h3)).2)⟩
        -- old blocks
        have hold : ∀ j b' ph, j ∉ us → Mem.get mem j = some b' → φ j = some ph → ∃ o, χ.imm ph.blk = some o ∧ w'.heap[ph.blk]? = w.heap[ph.blk]? := by
          intro j b' ph hj hg hp
          have hlt' := (hm.fresh j ph hp).2
          have hno : ¬ isOb ph.blk := by
            rintro ⟨j', ph', h1, h2⟩
            obtain ⟨b2, hb2⟩ := hobget j' ph' h1
            rcases A.at_ j' b2 hb2 with ⟨q, _⟩ | ⟨ph2, q1, _, i0, b0, ph0, q3, q4, q5, q6, q7⟩
            · rw [h1] at q; cases q
            · rw [h1] at q1; cases q1
              exact hm.apart i0 j b0 b' ph0 ph q4 hg (fun e => hj (e ▸ q3)) q5 q6 hp (q7.trans h2)
          have hh : w.heap[ph.blk]? = some w.heap[ph.blk] := Array.getElem?_eq_getElem hlt'
          have h1 : imm1 ph.blk = some w.heap[ph.blk] := by
            show (if isOb ph.blk then _ else w.heap[ph.blk]?) = _
            rw [if_neg hno]; exact hh
          have h2 := hle.imm _ _ h1
          exact ⟨_, h2, by rw [hM.imm _ _ h2, hh]⟩
        refine ⟨φ2, zv, rfl, hle2, ⟨fun j b' hj => ?_, fun i j b1 b2 ph1 ph2 hi hj hij hw hp1 hp2 => ?_, fun j ph hj => ?_, hm.lo, hM.base, fun k o hk => hM.imm k o (hle.imm k o (him k o hk))⟩, hbw, plainV_ok (φ := χ) (ψ := φ2) (by unfold plainV; rw [hT]; rfl) hV⟩
        · rw [Mem.get_append] at hj
          split at hj
          · rename_i y hy
            cases hj
            obtain ⟨_, _, _, _, _, _, _, h6⟩ := hnew j b' hy
            exact h6
          · rename_i hy
            rw [get_delL] at hj
            by_cases e : j ∈ us
            · rw [if_pos e] at hj; cases hj
            · rw [if_neg e] at hj
              rcases hm.blk j b' hj with ⟨q1, q2⟩ | ⟨ph, q1, q2⟩
              · refine .inl ⟨?_, q2⟩
                by_cases e2 : nxt ≤ j
                · show (if nxt ≤ j then (if j - K ∈ D.nms then χ (j - K) else none) else φ j) = none
                  rw [if_pos e2]
                  by_cases e3 : j - K ∈ D.nms
                  · exfalso
                    obtain ⟨⟨b3, hb3⟩, _⟩ := names_get (k := K) (y := d x z) e3
                    have e4 : j - K + K = j := by show j - (nxt - 1) + (nxt - 1) = j; omega
                    rw [e4] at hb3
                    simp only [Mem.get_cons] at hy
                    by_cases e5 : j = p.id
                    · rw [if_pos e5] at hy; cases hy
                    · rw [if_neg e5] at hy
                      have hb3 : Mem.get (D.blksN K (d x z)) j = some b3 := hb3
                      rw [hb3] at hy; cases hy
                  · rw [if_neg e3]
                · rw [hφ2o j (by omega)]; exact q1
              · obtain ⟨o, _, h2⟩ := hold j b' ph e hj q1
                exact .inr ⟨ph, by rw [hφ2o j (hm.fresh j ph q1).1]; exact q1, q2.same hle2 (fun _ h => h) h2⟩
        · rw [Mem.get_append] at hi hj
          have oldc : ∀ {j b' ph}, Mem.get ((p.id, (⟨D.ty, 1, [D.mkN K (d x z)], true⟩ : Blk)) :: D.blksN K (d x z)) j = none → Mem.get (delL mem us) j = some b' → φ2 j = some ph → j ∉ us ∧ Mem.get mem j = some b' ∧ φ j = some ph := by
            intro j b' ph hy hg hp
            rw [get_delL] at hg
            by_cases e : j ∈ us
            · rw [if_pos e] at hg; cases hg
            · rw [if_neg e] at hg
              refine ⟨e, hg, ?_⟩
              by_cases e2 : nxt ≤ j
              · exfalso
                have hp : (if nxt ≤ j then (if j - K ∈ D.nms then χ (j - K) else none) else φ j) = some ph := hp
                rw [if_pos e2] at hp
                by_cases e3 : j - K ∈ D.nms
                · obtain ⟨⟨b3, hb3⟩, _⟩ := names_get (k := K) (y := d x z) e3
                  have e4 : j - K + K = j := by show j - (nxt - 1) + (nxt - 1) = j; omega
                  rw [e4] at hb3
                  simp only [Mem.get_cons] at hy
                  by_cases e5 : j = p.id
                  · rw [if_pos e5] at hy; cases hy
                  · rw [if_neg e5] at hy
                    rw [hb3] at hy; cases hy
                · rw [if_neg e3] at hp; cases hp
              · rw [hφ2o j (by omega)] at hp; exact hp
          have nold : ∀ {ph c b0}, Mem.get (obMem D (d x z)) c = some b0 → b0.wr = true → χ c = some ph → ∀ {i ph'} {o : Obj}, χ.imm ph'.blk = some o → φ2 i = some ph' → ph.blk ≠ ph'.blk := by
            intro ph c b0 g0 hw hc i ph' o ho _ e
            have := (hM.blkAt g0 hc).own hw
            rw [e] at this
            rw [ho] at this; cases this.2
          cases g1 : Mem.get ((p.id, (⟨D.ty, 1, [D.mkN K (d x z)], true⟩ : Blk)) :: D.blksN K (d x z)) i with
          | some y1 =>
            obtain ⟨_, c1, e1, f1, f2, f3, f4, _⟩ := hnew i y1 g1
            have hc1 : χ c1 = some ph1 := by rw [← f3]; exact hp1
            cases g2 : Mem.get ((p.id, (⟨D.ty, 1, [D.mkN K (d x z)], true⟩ : Blk)) :: D.blksN K (d x z)) j with
            | some y2 =>
              obtain ⟨_, c2, e2, k1, k2, k3, k4, _⟩ := hnew j y2 g2
              have hc2 : χ c2 = some ph2 := by rw [← k3]; exact hp2
              refine hM.apart c1 c2 e1 e2 ph1 ph2 f1 k1 (fun e => hij ?_) f2 hc1 hc2
              rcases f4 with ⟨a1, a2⟩ | ⟨a1, a2⟩
              · rcases k4 with ⟨a3, a4⟩ | ⟨a3, a4⟩
                · rw [a2, a4]
                · exfalso; have := (hlt c2 a3).1; omega
              · rcases k4 with ⟨a3, a4⟩ | ⟨a3, a4⟩
                · exfalso; have := (hlt c1 a1).1; omega
                · rw [a2, a4, e]
            | none =>
              rw [g2] at hj
              obtain ⟨q1, q2, q3⟩ := oldc g2 hj hp2
              obtain ⟨o, ho, _⟩ := hold j b2 ph2 q1 q2 q3
              exact nold f1 f2 hc1 ho hp2
          | none =>
            rw [g1] at hi
            obtain ⟨q1, q2, q3⟩ := oldc g1 hi hp1
            cases g2 : Mem.get ((p.id, (⟨D.ty, 1, [D.mkN K (d x z)], true⟩ : Blk)) :: D.blksN K (d x z)) j with
            | some y2 =>
              obtain ⟨_, c2, e2, k1, k2, k3, k4, _⟩ := hnew j y2 g2
              have hc2 : χ c2 = some ph2 := by rw [← k3]; exact hp2
              obtain ⟨o, ho, _⟩ := hold i b1 ph1 q1 q2 q3
              exact (nold k1 k2 hc2 ho hp1).symm
            | none =>
              rw [g2] at hj
              obtain ⟨r1, r2, r3⟩ := oldc g2 hj hp2
              exact hm.apart i j b1 b2 ph1 ph2 q2 r2 hij hw q3 r3
        · by_cases e : nxt ≤ j
          · have hj : (if nxt ≤ j then (if j - K ∈ D.nms then χ (j - K) else none) else φ j) = some ph := hj
            rw [if_pos e] at hj
            by_cases e3 : j - K ∈ D.nms
            · rw [if_pos e3] at hj
              have h1 := hM.fresh _ _ hj
              refine ⟨?_, h1.2⟩
              have : j - (nxt - 1) < n1 := h1.1
              omega
            · rw [if_neg e3] at hj; cases hj
          · rw [hφ2o j (by omega)] at hj
            have h1 := hm.fresh j ph hj
            exact ⟨by omega, Nat.lt_of_lt_of_le h1.2 hbw.size⟩
      · cases hg
    · cases hg
  · cases hg
end Go.GX

namespace Go.GX
set_option linter.unusedSimpArgs false
set_option linter.unusedVariables false
set_option linter.unusedSectionVars false
open Go.RowKit (Below)

/-- a method's run on an object: what it answers, what the object is then -/
def fnO (C : Cx) (fn : Func) (D : Dk) (rp : List Nat) (n1 : Nat) (T : Ty) (args : List V) (x : D.den) (sh : Sh := .hd) : Option (T.den × D.den) :=
  match fn.body with
  | none => none
  | some c => bif Nat.ble (args.length + 1) fn.ntmps then
      codeT C c ⟨putArgs (sh.args ⟨0, rp⟩ args) 0 .lf, fn.ntmps, obMem D x, n1, true⟩ fun e s => match e with
        | .exit _ => none
        | .goto _ => none
        | .pan _ _ => none
        | _ => match resY C.Θ fn s with
          | some (v, s', c) => bif c then (match asT T v, extS [.ob 0 D] s' with
            | some y, some (x', c2, _) => bif c2 then some (y, x'.1) else none
            | _, _ => none) else none
          | none => none
    else none
theorem fnO_ok {P : Program} {C : Cx} (hC : CxOK P C) {fn : Func} {f : Nat} (hf : P.funcs[f]? = some fn) {D : Dk} {rp : List Nat} {n1 : Nat} {T : Ty} {args : List V} {x x' : D.den} {y : T.den} {sh : Sh} (hL : ∀ c, fn.body = some c → LOK P C 1 c)
    (hoS : okS 1 n1 [.ob 0 D] = true) (hpl : D.plain = true) (hT : plainT T = true) (h : fnO C fn D rp n1 T args x sh = some (y, x')) : ObjOK P f D rp n1 args x ⟨T, y⟩ x' sh := by
  intro base φ w xs hm hA
  unfold fnO at h
  split at h
  · cases h
  · rename_i c hc
    cases hb : Nat.ble (args.length + 1) fn.ntmps <;> rw [hb] at h
    · cases h
    · simp only [cond_true] at h
      have hle := Nat.le_of_ble_eq_true hb
      refine calls_of_wp hf hc (codeT_ok hC (hL c hc) (base := base) (φ := φ) (fun e s hs => ?_) h ⟨fun s u c' hs => ?_, by simp [hA.1, Sh.len]; omega, hm, rfl⟩ ?_)
      · split at hs
        · cases hs
        · cases hs
        · cases hs
        · split at hs
          · rename_i v s' c hres
            cases hk : c <;> rw [hk] at hs hres
            · cases hs
            · unfold resY at hres
              split at hres
              · simp only [Option.some.injEq, Prod.mk.injEq] at hres
                exact pubs_mono (and_split hres.2.2).2
              · cases hres
          · cases hs
      · rcases putArgs_get hs with ⟨hc', _, hg⟩ | hg
        · subst hc'
          simp only [Nat.sub_zero] at hg
          obtain ⟨x, hx, hr⟩ := hA.2 s u hg
          refine ⟨fun _ => ?_, fun e => by cases e⟩
          have hsz : s < xs.size := (Array.getElem?_eq_some_iff.1 hx).1
          rw [Array.getD_eq_getD_getElem?, Array.getElem?_append_left hsz, hx]
          exact hr
        · simp [Tr.get] at hg
      · intro e0 e s ψ a' w' he h1 hr' hb' h4
        have post : a'.defers = [] ∧ ∃ z, (results fn a'.tmps).run P w' = .ok z w' ∧ (∃ ψ z', Ending.returned z = .returned z' ∧ Phi.leK 1 φ ψ ∧ MemRel base ψ (obMem D x') n1 w' ∧ Below base w w' ∧ VR ψ ⟨T, y⟩ z') := by
          have h4 : (match resY C.Θ fn s with
              | some (v, s', c) => bif c then (match asT T v, extS [.ob 0 D] s' with
                | some y, some (x', c2, _) => bif c2 then some (y, x'.1) else none
                | _, _ => none) else none
              | none => none) = some (y, x') := by
            rcases EX_of he with ⟨rfl, rfl⟩ | ⟨j, rfl, rfl⟩ | ⟨rfl, rfl⟩ | ⟨j, rfl, rfl⟩ | ⟨_, _, rfl, rfl⟩
            · exact h4
            · cases h4
            · exact h4
            · cases h4
            · cases h4
          split at h4
          · rename_i v s' cc hres
            cases hk : cc <;> rw [hk] at h4 hres
            · cases h4
            · simp only [cond_true] at h4
              split at h4
              · rename_i y1 x1 c2 us hv hx
                cases hc2 : c2 <;> rw [hc2] at h4 hx
                · cases h4
                · simp only [cond_true, Option.some.injEq, Prod.mk.injEq] at h4
                  obtain ⟨rfl, rfl⟩ := h4
                  have hv := asT_eq hv
                  subst hv
                  obtain ⟨χ, hχ, hr2, _, z, hrun, hz⟩ := resY_ok hC.Θ hr' hres
                  obtain ⟨ψ2, g1, g2⟩ := extS_ok (kp := 1) (nxt := n1) hr2 hoS (by simp [plainIt, hpl]) hx
                  refine ⟨hr'.defers, z, hrun, ψ2, z, rfl, Phi.leK_trans h1 (Phi.leK_trans hχ.toK g1), ?_, hb', plainV_ok (φ := χ) (ψ := ψ2) (by unfold plainV; rw [hT]; rfl) hz⟩
                  have hmm := g2.mem
                  simp only [mkS, List.append_nil] at hmm
                  exact hmm
              · cases h4
          · cases h4
        rcases EX_of he with ⟨rfl, rfl⟩ | ⟨j, rfl, rfl⟩ | ⟨rfl, rfl⟩ | ⟨j, rfl, rfl⟩ | ⟨_, _, rfl, rfl⟩
        · exact post
        · cases h4
        · exact post
        · cases h4
        · cases h4
theorem ObjOK.ofS {P : Program} {C : Cx} (hC : CxOK P C) {fn : Func} {f : Nat} (hf : P.funcs[f]? = some fn) {D : Dk} {rp : List Nat} {n1 : Nat} {ts : List Ty} {T : Ty} {S : D.den → AD ts → Option (T.den × D.den)} {sh : Sh} (hL : ∀ c, fn.body = some c → LOK P C 1 c)
    (hoS : (okS 1 n1 [.ob 0 D] && (D.plain && plainT T)) = true) (h : ∀ x z, fnO C fn D rp n1 T (mkA ts z) x sh = S x z) :
    ∀ x z, (S x z).isSome = true → ObjOK P f D rp n1 (mkA ts z) x ⟨T, ((S x z).getD (dflt T, D.dflt)).1⟩ ((S x z).getD (dflt T, D.dflt)).2 sh := by
  intro x z hk
  obtain ⟨h1, h2⟩ := and_split hoS
  obtain ⟨h2, h3⟩ := and_split h2
  cases hs : S x z with
  | none => rw [hs] at hk; cases hk
  | some y => exact fnO_ok hC hf hL h1 h2 h3 ((h x z).trans hs)

theorem TR_bare {φ ψ : Phi} : ∀ {t : Ty} {x : t.den} {l : List Value}, plainT t = true → TR φ t x l → TR ψ t x l
  | .tnil, _, _, _, hc => hc
  | .tup a b, x, l, ht, ⟨v, r, e, h1, h2⟩ => by
    obtain ⟨ha, hb⟩ := and_split ht
    exact ⟨v, r, e, V1_bare ha h1, TR_bare hb h2⟩
/-! ## New objects -/
def smN (D : Dk) (n1 : Nat) (ts : List Ty) (T : Ty) (v : AD ts → T.den) (d : AD ts → D.den) (k : AD ts → Bool) : Sm := fun args mem nxt =>
  match asTs ts args with
  | some z => bif plainT T then some (⟨.tup .ptr T, (some ⟨nxt, [0]⟩, v z)⟩, ((nxt, ⟨D.ty, 1, [D.mkN nxt (d z)], true⟩) :: D.blksN nxt (d z)) ++ mem, nxt + n1, k z) else none
  | none => none
def obMemI (i0 : Nat) (D : Dk) (x : D.den) : Mem := (i0, ⟨D.ty, 1, [D.mk x], true⟩) :: D.blks x
def NewOK (P : Program) (f : Nat) (i0 : Nat) (D : Dk) (n1 : Nat) (args : List V) (T : Ty) (y : T.den) (x : D.den) : Prop :=
  ∀ φ w xs, ImmOK φ w → AR φ args xs → Calls P f xs w fun e w' => ∃ ψ z, e = .returned z ∧ (∀ k o, φ.imm k = some o → ψ.imm k = some o) ∧ MemRel w.heap.size ψ (obMemI i0 D x) n1 w' ∧ Below w.heap.size w w' ∧ VR ψ ⟨.tup .ptr T, (some ⟨i0, [0]⟩, y)⟩ z
theorem SmOK.smN {P : Program} {f i0 : Nat} {D : Dk} {n1 : Nat} {ts : List Ty} {T : Ty} {v : AD ts → T.den} {d : AD ts → D.den} {k : AD ts → Bool}
    (hbare : D.bare = true) (hnt : isTup D.ty = false) (hlt : ∀ c ∈ D.nms, 1 ≤ c ∧ c ≠ i0 ∧ c < n1) (hn1 : i0 < n1)
    (h : ∀ z, k z = true → NewOK P f i0 D n1 (mkA ts z) T (v z) (d z)) : SmOK P f (GX.smN D n1 ts T v d k) := by
  intro args mem nxt u mem' nxt' hg base φ w xs hm hA
  unfold GX.smN at hg
  split at hg
  · rename_i z has
    cases hT : plainT T <;> rw [hT] at hg
    · cases hg
    simp only [cond_true, Option.some.injEq, Prod.mk.injEq] at hg
    obtain ⟨rfl, rfl, rfl, hk⟩ := hg
    refine (h z hk φ w xs hm.imm (AR_iff.2 (asTs_AR has (AR_iff.1 hA)))).mono ?_
    rintro e w' ⟨χ, zv, rfl, himm, hM, hbw, hV⟩
    have hcn : ∀ k, χ.imm k = none → φ.imm k = none := fun k hk => by
      cases hi : φ.imm k with
      | none => rfl
      | some o => rw [himm k o hi] at hk; cases hk
    have h0n : ∀ c ∈ D.nms, c ≠ i0 := fun c hc => (hlt c hc).2.1
    have h1n : ∀ c ∈ D.nms, 1 ≤ c := fun c hc => (hlt c hc).1
    let φ2 : Phi := ⟨fun j => if nxt ≤ j then (if j - nxt = 0 then χ i0 else if j - nxt ∈ D.nms then χ (j - nxt) else none) else φ j, φ.imm, φ.lo⟩
    have hφ2z : φ2 nxt = χ i0 := by
      show (if nxt ≤ nxt then (if nxt - nxt = 0 then χ i0 else if nxt - nxt ∈ D.nms then χ (nxt - nxt) else none) else φ nxt) = χ i0
      rw [if_pos (Nat.le_refl _), if_pos (by omega)]
    have hφ2n : ∀ c, c ∈ D.nms → φ2 (c + nxt) = χ c := fun c hc => by
      show (if nxt ≤ c + nxt then (if c + nxt - nxt = 0 then χ i0 else if c + nxt - nxt ∈ D.nms then χ (c + nxt - nxt) else none) else φ (c + nxt)) = χ c
      rw [if_pos (by omega), show c + nxt - nxt = c by omega, if_neg (by have := h1n c hc; omega), if_pos hc]
    have hfirst : ∀ j, nxt ≤ j → (j - nxt = 0 ∨ j - nxt ∈ D.nms) → ∃ b, Mem.get ((nxt, (⟨D.ty, 1, [D.mkN nxt (d z)], true⟩ : Blk)) :: D.blksN nxt (d z)) j = some b := by
      intro j hj h
      simp only [Mem.get_cons]
      by_cases e : j = nxt
      · rw [if_pos e]; exact ⟨_, rfl⟩
      · rw [if_neg e]
        rcases h with h | h
        · omega
        · obtain ⟨⟨b, hb⟩, _⟩ := names_get (k := nxt) (y := d z) h
          rw [show j - nxt + nxt = j by omega] at hb
          exact ⟨b, hb⟩
    have hout : ∀ j ph, Mem.get ((nxt, (⟨D.ty, 1, [D.mkN nxt (d z)], true⟩ : Blk)) :: D.blksN nxt (d z)) j = none → φ2 j = some ph → φ j = some ph := by
      intro j ph hg hp
      have hp : (if nxt ≤ j then (if j - nxt = 0 then χ i0 else if j - nxt ∈ D.nms then χ (j - nxt) else none) else φ j) = some ph := hp
      by_cases e : nxt ≤ j
      · rw [if_pos e] at hp
        by_cases e1 : j - nxt = 0
        · obtain ⟨b, hb⟩ := hfirst j e (.inl e1)
          rw [hg] at hb; cases hb
        · rw [if_neg e1] at hp
          by_cases e2 : j - nxt ∈ D.nms
          · obtain ⟨b, hb⟩ := hfirst j e (.inr e2)
            rw [hg] at hb; cases hb
          · rw [if_neg e2] at hp; cases hp
      · rw [if_neg e] at hp; exact hp
    have hφ2o : ∀ j, j < nxt → φ2 j = φ j := fun j hj => by
      show (if nxt ≤ j then _ else φ j) = φ j
      rw [if_neg (by omega)]
    have hle2 : φ.le φ2 := ⟨⟨fun i ph hp => by rw [hφ2o i (hm.fresh i ph hp).1]; exact hp, fun _ _ h => h⟩, fun _ _ h => .inl h, rfl⟩
    have hsame := Below.same hbw (Nat.le_refl _)
    have hnew : ∀ j b', Mem.get ((nxt, (⟨D.ty, 1, [D.mkN nxt (d z)], true⟩ : Blk)) :: D.blksN nxt (d z)) j = some b' →
        ∃ c b0, Mem.get (obMemI i0 D (d z)) c = some b0 ∧ b0.wr = true ∧ ((c = i0 ∧ j = nxt) ∨ (c ∈ D.nms ∧ j = c + nxt)) ∧ φ2 j = χ c ∧ ((φ2 j = none ∧ b'.n = 0) ∨ ∃ ph, φ2 j = some ph ∧ BlkRel base φ2 ph b' w') := by
      intro j b' hj
      simp only [Mem.get_cons] at hj
      have up : ∀ {ph b0}, BlkRel w.heap.size χ ph b0 w' → b0.wr = true → base ≤ ph.blk ∧ φ2.imm ph.blk = none := fun hr hw => ⟨Nat.le_trans hm.base (hr.own hw).1, hcn _ (hr.own hw).2⟩
      by_cases e : j = nxt
      · rw [if_pos e] at hj
        cases hj
        have g0 : Mem.get (obMemI i0 D (d z)) i0 = some ⟨D.ty, 1, [D.mk (d z)], true⟩ := by simp only [obMemI, Mem.get_cons, if_true]
        have hz : φ2 j = χ i0 := by rw [e]; exact hφ2z
        refine ⟨i0, _, g0, rfl, .inl ⟨rfl, e⟩, hz, ?_⟩
        rcases hM.blk i0 _ g0 with ⟨_, q2⟩ | ⟨ph, q1, hr⟩
        · simp at q2
        · have hj2 : φ2 j = some ph := hz.trans q1
          refine .inr ⟨ph, hj2, hr.t, fun hw => up hr rfl, MpRel.plain hnt _, fun ht => ?_⟩
          obtain ⟨cs, el, fr, g1, g2, g3⟩ := hr.cells ht
          refine ⟨cs, el, fr, g1, fun k d' hk => ?_, fun hw => ?_⟩
          · have e1 : ∀ y : D.ty.den, flat (.arr 1 D.ty) [y] = flat D.ty y := fun y => by simp [flat, List.range_succ]
            have hk' : (flat D.ty (D.mkN nxt (d z)))[k]? = some d' := by rw [← e1]; exact hk
            obtain ⟨d0, q1, q2⟩ := mkN_cells (χ := χ) (ψ := φ2) hbare (fun c hc => hφ2n c hc) k d' hk'
            obtain ⟨v, hv, hx⟩ := g2 k d0 (by show (flat (.arr 1 D.ty) [D.mk (d z)])[k]? = some d0; rw [e1]; exact q1)
            exact ⟨v, hv, q2 v hx⟩
          · obtain ⟨k1, k2, k3, k4⟩ := g3 rfl
            exact ⟨(up hr rfl).1, k2, hcn _ k3, k4⟩
      · rw [if_neg e] at hj
        obtain ⟨c, h1, h2, h3⟩ := get_blksN hj
        have g0 : Mem.get (obMemI i0 D (d z)) c = some b' := by simp only [obMemI, Mem.get_cons]; rw [if_neg (h0n c h1)]; exact h3
        have hj2 : φ2 j = χ c := by rw [h2]; exact hφ2n c h1
        refine ⟨c, b', g0, blks_wr h3, .inr ⟨h1, h2⟩, hj2, ?_⟩
        rcases hM.blk c b' g0 with ⟨q1, q2⟩ | ⟨ph, q1, q2⟩
        · exact .inl ⟨by rw [hj2]; exact q1, q2⟩
        · refine .inr ⟨ph, by rw [hj2]; exact q1, ?_⟩
          have hbr := blks_ren (ψ := φ2) hbare h3 q2 (up q2 (blks_wr h3)).2
          refine ⟨hbr.t, fun hw => up q2 (blks_wr h3), hbr.mp, fun ht => ?_⟩
          obtain ⟨cs, el, fr, g1, g2, g3⟩ := hbr.cells ht
          refine ⟨cs, el, fr, g1, g2, fun hw => ?_⟩
          obtain ⟨k1, k2, k3, k4⟩ := g3 hw
          exact ⟨(up q2 (blks_wr h3)).1, k2, k3, k4⟩
    have hbig : ∀ c b0 ph, Mem.get (obMemI i0 D (d z)) c = some b0 → b0.wr = true → χ c = some ph → w.heap.size ≤ ph.blk := fun c b0 ph hg hw hp => ((hM.blkAt hg hp).own hw).1
    refine ⟨φ2, zv, rfl, hle2, ⟨fun j b' hj => ?_, fun i j b1 b2 ph1 ph2 hi hj hij hw hp1 hp2 => ?_, fun j ph hj => ?_, hm.lo, Nat.le_trans hm.base hbw.size, fun k o hk => hM.imm k o (himm k o hk)⟩, hbw.mono hm.base, ?_⟩
    · rw [Mem.get_append] at hj
      split at hj
      · rename_i y hy
        cases hj
        obtain ⟨_, _, _, _, _, _, h6⟩ := hnew j b' hy
        exact h6
      · rename_i hy
        rcases hm.blk j b' hj with ⟨q1, q2⟩ | ⟨ph, q1, q2⟩
        · refine .inl ⟨?_, q2⟩
          cases hp : φ2 j with
          | none => rfl
          | some ph => rw [hout j ph hy hp] at q1; cases q1
        · exact .inr ⟨ph, by rw [hφ2o j (hm.fresh j ph q1).1]; exact q1, q2.same hle2 (fun _ h => h) (hsame.block _ (hm.fresh j ph q1).2)⟩
    · rw [Mem.get_append] at hi hj
      cases g1 : Mem.get ((nxt, (⟨D.ty, 1, [D.mkN nxt (d z)], true⟩ : Blk)) :: D.blksN nxt (d z)) i with
      | some y1 =>
        obtain ⟨c1, e1, f1, f2, f3, f4, _⟩ := hnew i y1 g1
        have hc1 : χ c1 = some ph1 := by rw [← f4]; exact hp1
        cases g2 : Mem.get ((nxt, (⟨D.ty, 1, [D.mkN nxt (d z)], true⟩ : Blk)) :: D.blksN nxt (d z)) j with
        | some y2 =>
          obtain ⟨c2, e2, k1, k2, k3, k4, _⟩ := hnew j y2 g2
          have hc2 : χ c2 = some ph2 := by rw [← k4]; exact hp2
          refine hM.apart c1 c2 e1 e2 ph1 ph2 f1 k1 (fun e => hij ?_) f2 hc1 hc2
          rcases f3 with ⟨a1, a2⟩ | ⟨a1, a2⟩
          · rcases k3 with ⟨a3, a4⟩ | ⟨a3, a4⟩
            · rw [a2, a4]
            · exact absurd (by rw [← e, a1]) (h0n c2 a3)
          · rcases k3 with ⟨a3, a4⟩ | ⟨a3, a4⟩
            · exact absurd (by rw [e, a3]) (h0n c1 a1)
            · rw [a2, a4, e]
        | none =>
          have := hbig c1 e1 ph1 f1 f2 hc1
          have := (hm.fresh j ph2 (hout j ph2 g2 hp2)).2
          omega
      | none =>
        have q1 := hout i ph1 g1 hp1
        cases g2 : Mem.get ((nxt, (⟨D.ty, 1, [D.mkN nxt (d z)], true⟩ : Blk)) :: D.blksN nxt (d z)) j with
        | some y2 =>
          obtain ⟨c2, e2, k1, k2, k3, k4, _⟩ := hnew j y2 g2
          have hc2 : χ c2 = some ph2 := by rw [← k4]; exact hp2
          have := hbig c2 e2 ph2 k1 k2 hc2
          have := (hm.fresh i ph1 q1).2
          omega
        | none =>
          rw [g1] at hi
          rw [g2] at hj
          exact hm.apart i j b1 b2 ph1 ph2 hi hj hij hw q1 (hout j ph2 g2 hp2)
    · by_cases e : nxt ≤ j
      · have hj : (if nxt ≤ j then (if j - nxt = 0 then χ i0 else if j - nxt ∈ D.nms then χ (j - nxt) else none) else φ j) = some ph := hj
        rw [if_pos e] at hj
        by_cases e1 : j - nxt = 0
        · rw [if_pos e1] at hj
          exact ⟨by omega, (hM.fresh _ _ hj).2⟩
        · rw [if_neg e1] at hj
          by_cases e2 : j - nxt ∈ D.nms
          · rw [if_pos e2] at hj
            have h1 := hM.fresh _ _ hj
            exact ⟨by omega, h1.2⟩
          · rw [if_neg e2] at hj; cases hj
      · rw [hφ2o j (by omega)] at hj
        have h1 := hm.fresh j ph hj
        exact ⟨by omega, Nat.lt_of_lt_of_le h1.2 hbw.size⟩
    · unfold VR at hV ⊢
      rw [if_pos (by rfl)] at hV ⊢
      obtain ⟨l, rfl, hl⟩ := hV
      obtain ⟨v0, r, e, h1, h2⟩ := hl
      refine ⟨l, rfl, v0, r, e, ?_, TR_bare hT h2⟩
      have h1 := VR_ptr.1 (VR_of_V1 (t := .ptr) rfl h1)
      refine V1_of_VR (t := .ptr) rfl (VR_ptr.2 ?_)
      obtain ⟨ad, had, hav⟩ := h1
      refine ⟨ad, ?_, hav⟩
      rw [← had]
      unfold addr
      simp only
      rw [hφ2z]
  · cases hg
end Go.GX

namespace Go.GX
set_option linter.unusedSimpArgs false
set_option linter.unusedVariables false
set_option linter.unusedSectionVars false
open Go.RowKit (Below)

def newV (i0 : Nat) (T : Ty) (v : V) : Option T.den := match asT (.tup .ptr T) v with
  | some x => match x.1 with
    | some p => bif decide (p = ⟨i0, [0]⟩) then some x.2 else none
    | none => none
  | none => none
def nilV (T : Ty) (v : V) : Option T.den := match asT (.tup .ptr T) v with
  | some x => match x.1 with
    | some _ => none
    | none => some x.2
  | none => none
theorem newV_eq {i0 : Nat} {T : Ty} {v : V} {y : T.den} (h : newV i0 T v = some y) : v = ⟨.tup .ptr T, (some ⟨i0, [0]⟩, y)⟩ := by
  unfold newV at h
  split at h
  · rename_i x hx
    split at h
    · rename_i p hp
      cases hd : decide (p = ⟨i0, [0]⟩) <;> rw [hd] at h
      · cases h
      · have := of_decide_eq_true hd
        subst this
        cases h
        rw [asT_eq hx]
        obtain ⟨a, b⟩ := x
        simp only at hp
        subst hp
        rfl
    · cases h
  · cases h
theorem nilV_eq {T : Ty} {v : V} {y : T.den} (h : nilV T v = some y) : v = ⟨.tup .ptr T, (none, y)⟩ := by
  unfold nilV at h
  split at h
  · rename_i x hx
    split at h
    · cases h
    · rename_i hp
      cases h
      rw [asT_eq hx]
      obtain ⟨a, b⟩ := x
      simp only at hp
      subst hp
      rfl
  · cases h
/-- a run of a function of values in memory of its own -/
def fnG {ρ : Type} (C : Cx) (fn : Func) (args : List V) (leaf : V → St → Option ρ) : Option ρ :=
  match fn.body with
  | none => none
  | some c => bif Nat.ble args.length fn.ntmps && args.all valV then
      codeT C c ⟨putArgs args 0 .lf, fn.ntmps, [], 0, true⟩ fun e s => match e with
        | .exit _ => none
        | .goto _ => none
        | .pan _ _ => none
        | _ => match resY C.Θ fn s with
          | some (v, s', c) => bif c then leaf v s' else none
          | none => none
    else none
theorem fnG_ok {ρ : Type} {P : Program} {C : Cx} (hC : CxOK P C) {fn : Func} {f : Nat} (hf : P.funcs[f]? = some fn) (hL : ∀ c, fn.body = some c → LOK P C 0 c) {args : List V} {leaf : V → St → Option ρ} {r : ρ} (h : fnG C fn args leaf = some r)
    {φ : Phi} {w : World} {xs : Array Value} (hI : ImmOK φ w) (hA : AR φ args xs) :
    Calls P f xs w fun e w' => ∃ χ s v z a, e = .returned z ∧ (φ.bare w.heap.size).le χ ∧ Rel w.heap.size χ s a w' ∧ leaf v s = some r ∧ VR χ v z ∧ Below w.heap.size w w' := by
  unfold fnG at h
  split at h
  · cases h
  · rename_i c hc
    cases hb : (Nat.ble args.length fn.ntmps && args.all valV) <;> rw [hb] at h
    · cases h
    · simp only [cond_true] at h
      obtain ⟨hb1, hpa⟩ := and_split hb
      have hle := Nat.le_of_ble_eq_true hb1
      let φ0 : Phi := φ.bare w.heap.size
      have hA0 : AR φ0 args xs := ⟨hA.1, fun i v hi => by
        obtain ⟨x, hx, hxr⟩ := hA.2 i v hi
        exact ⟨x, hx, valV_ok (φ := φ) (ψ := φ.bare w.heap.size) (fun _ _ h => h) (List.all_eq_true.1 hpa v (List.mem_of_getElem? hi)) hxr⟩⟩
      refine calls_of_wp hf hc (codeT_ok hC (hL c hc) (base := w.heap.size) (φ := φ0) (fun x s hs => ?_) h ⟨fun s u c' hs => ?_, by simp [hA.1]; omega, MemRel.nil w hI, rfl⟩ ?_)
      · split at hs
        · cases hs
        · cases hs
        · cases hs
        · split at hs
          · rename_i v s' c hres
            cases hk : c <;> rw [hk] at hs hres
            · cases hs
            · unfold resY at hres
              split at hres
              · simp only [Option.some.injEq, Prod.mk.injEq] at hres
                exact pubs_mono (and_split hres.2.2).2
              · cases hres
          · cases hs
      · rcases putArgs_get hs with ⟨hc', _, hg⟩ | hg
        · subst hc'
          simp only [Nat.sub_zero] at hg
          obtain ⟨x, hx, hr⟩ := hA0.2 s u hg
          refine ⟨fun _ => ?_, fun e => by cases e⟩
          have hsz : s < xs.size := (Array.getElem?_eq_some_iff.1 hx).1
          rw [Array.getD_eq_getD_getElem?, Array.getElem?_append_left hsz, hx]
          exact hr
        · simp [Tr.get] at hg
      · intro x e s ψ a' w' he h1 hr' hb' h4
        have post : a'.defers = [] ∧ ∃ z, (results fn a'.tmps).run P w' = .ok z w' ∧ (∃ χ s v z' a, Ending.returned z = .returned z' ∧ (φ.bare w.heap.size).le χ ∧ Rel w.heap.size χ s a w' ∧ leaf v s = some r ∧ VR χ v z' ∧ Below w.heap.size w w') := by
          have h4 : (match resY C.Θ fn s with | some (v, s', c) => bif c then leaf v s' else none | none => none) = some r := by
            rcases EX_of he with ⟨rfl, rfl⟩ | ⟨j, rfl, rfl⟩ | ⟨rfl, rfl⟩ | ⟨j, rfl, rfl⟩ | ⟨_, _, rfl, rfl⟩
            · exact h4
            · cases h4
            · exact h4
            · cases h4
            · cases h4
          split at h4
          · rename_i v s' cc hres
            cases hk : cc <;> rw [hk] at h4 hres
            · cases h4
            · simp only [cond_true] at h4
              obtain ⟨χ, hχ, hr2, _, z, hrun, hz⟩ := resY_ok hC.Θ hr' hres
              exact ⟨hr'.defers, z, hrun, χ, s', v, z, _, rfl, Phi.le_trans (h1.toLe (fun i p hp => by cases hp)) hχ, hr2, h4, hz, hb'⟩
          · cases h4
        rcases EX_of he with ⟨rfl, rfl⟩ | ⟨j, rfl, rfl⟩ | ⟨rfl, rfl⟩ | ⟨j, rfl, rfl⟩ | ⟨_, _, rfl, rfl⟩
        · exact post
        · cases h4
        · exact post
        · cases h4
        · cases h4
/-- what gives a new object -/
def leafN (i0 : Nat) (D : Dk) (T : Ty) (v : V) (s : St) : Option (T.den × D.den) := match newV i0 T v, extS [.ob i0 D] s with
  | some y, some (x', c2, _) => bif c2 then some (y, x'.1) else none
  | _, _ => none
def fnN (C : Cx) (fn : Func) (i0 : Nat) (D : Dk) (T : Ty) (args : List V) : Option (T.den × D.den) := fnG C fn args (leafN i0 D T)
theorem fnN_ok {P : Program} {C : Cx} (hC : CxOK P C) {fn : Func} {f : Nat} (hf : P.funcs[f]? = some fn) {i0 : Nat} {D : Dk} {n1 : Nat} {T : Ty} {args : List V} {x : D.den} {y : T.den} (hL : ∀ c, fn.body = some c → LOK P C 0 c)
    (hoS : okS (i0 + 1) n1 [.ob i0 D] = true) (hpl : D.plain = true) (hT : plainT T = true) (h : fnN C fn i0 D T args = some (y, x)) : NewOK P f i0 D n1 args T y x := by
  intro φ w xs hI hA
  refine (fnG_ok hC hf hL h hI hA).mono ?_
  rintro e w' ⟨χ, s, v, z, a, rfl, hle, hr, hl, hv, hb⟩
  unfold leafN at hl
  split at hl
  · rename_i y1 x1 c2 us hn hx
    cases hc2 : c2 <;> rw [hc2] at hl hx
    · cases hl
    · simp only [cond_true, Option.some.injEq, Prod.mk.injEq] at hl
      obtain ⟨rfl, rfl⟩ := hl
      have hn := newV_eq hn
      subst hn
      obtain ⟨ψ2, g1, g2⟩ := extS_ok (kp := i0 + 1) (nxt := n1) hr hoS (by simp [plainIt, hpl]) hx
      refine ⟨ψ2, z, rfl, fun k o hk => g1.imm k o (hle.imm k o hk), ?_, hb, ?_⟩
      · have hmm := g2.mem
        simp only [mkS, List.append_nil] at hmm
        exact hmm
      · unfold VR at hv ⊢
        rw [if_pos (by rfl)] at hv ⊢
        obtain ⟨l, rfl, v0, r, e, h1, h2⟩ := hv
        refine ⟨l, rfl, v0, r, e, ?_, TR_bare hT h2⟩
        obtain ⟨ad, had, hav⟩ := VR_ptr.1 (VR_of_V1 (t := .ptr) rfl h1)
        refine V1_of_VR (t := .ptr) rfl (VR_ptr.2 ⟨ad, ?_, hav⟩)
        rw [← had]
        unfold addr at had ⊢
        cases hp : χ i0 with
        | none => simp only [hp] at had; cases had
        | some ph => simp only [hp]; rw [g1.ad i0 ph (by omega) hp]
  · cases hl
theorem NewOK.ofS {P : Program} {C : Cx} (hC : CxOK P C) {fn : Func} {f : Nat} (hf : P.funcs[f]? = some fn) {i0 : Nat} {D : Dk} {n1 : Nat} {ts : List Ty} {T : Ty} {S : AD ts → Option (T.den × D.den)} (hL : ∀ c, fn.body = some c → LOK P C 0 c)
    (hoS : (okS (i0 + 1) n1 [.ob i0 D] && (D.plain && plainT T)) = true) (h : ∀ z, fnN C fn i0 D T (mkA ts z) = S z) :
    ∀ z, (S z).isSome = true → NewOK P f i0 D n1 (mkA ts z) T ((S z).getD (dflt T, D.dflt)).1 ((S z).getD (dflt T, D.dflt)).2 := by
  intro z hk
  obtain ⟨h1, h2⟩ := and_split hoS
  obtain ⟨h2, h3⟩ := and_split h2
  cases hs : S z with
  | none => rw [hs] at hk; cases hk
  | some y => exact fnN_ok hC hf hL h1 h2 h3 ((h z).trans hs)
/-- what gives nil -/
def fnNil (C : Cx) (fn : Func) (T : Ty) (args : List V) : Option T.den := fnG C fn args (fun v _ => nilV T v)
def smNil (ts : List Ty) (T : Ty) (v : AD ts → T.den) (k : AD ts → Bool) : Sm := fun args mem nxt =>
  match asTs ts args with
  | some z => bif plainT T then some (⟨.tup .ptr T, (none, v z)⟩, mem, nxt, k z) else none
  | none => none
theorem SmOK.smNil {P : Program} {C : Cx} (hC : CxOK P C) {fn : Func} {f : Nat} (hf : P.funcs[f]? = some fn) {ts : List Ty} {T : Ty} {S : AD ts → Option T.den} (hL : ∀ c, fn.body = some c → LOK P C 0 c) (h : ∀ z, fnNil C fn T (mkA ts z) = S z) :
    SmOK P f (GX.smNil ts T (fun z => (S z).getD (dflt T)) (fun z => (S z).isSome)) := by
  intro args mem nxt u mem' nxt' hg base φ w xs hm hA
  unfold GX.smNil at hg
  split at hg
  · rename_i z has
    cases hT : plainT T <;> rw [hT] at hg
    · cases hg
    simp only [cond_true, Option.some.injEq, Prod.mk.injEq] at hg
    obtain ⟨rfl, rfl, rfl, hk⟩ := hg
    cases hs : S z with
    | none => rw [hs] at hk; cases hk
    | some y =>
      refine (fnG_ok hC hf hL ((h z).trans hs) hm.imm (AR_iff.2 (asTs_AR has (AR_iff.1 hA)))).mono ?_
      rintro e w' ⟨χ, s, v, zv, a, rfl, hle, hr, hl, hv, hb⟩
      have hn := nilV_eq hl
      subst hn
      refine ⟨φ, zv, rfl, Phi.le_refl _, hm.same (Below.same hb (Nat.le_refl _)) (Nat.le_refl _), hb.mono hm.base, ?_⟩
      unfold VR at hv ⊢
      rw [if_pos (by rfl)] at hv ⊢
      obtain ⟨l, rfl, v0, r, e, h1, h2⟩ := hv
      refine ⟨l, rfl, v0, r, e, ?_, TR_bare hT h2⟩
      exact V1_of_VR (t := .ptr) rfl (VR_nilptr.2 (VR_nilptr.1 (VR_of_V1 (t := .ptr) rfl h1)))
  · cases hg
/-- what gives nil for nil -/
theorem SmOK.smNilN {P : Program} {C : Cx} (hC : CxOK P C) {fn : Func} {f : Nat} (hf : P.funcs[f]? = some fn) {ts : List Ty} {T : Ty} {S : AD ts → Option T.den} (hL : ∀ c, fn.body = some c → LOK P C 0 c) (h : ∀ z : AD ts, fnNil C fn T (⟨.ptr, none⟩ :: mkA ts z) = S z) :
    SmOK P f (GX.smNil (.ptr :: ts) T (fun z => (S z.2).getD (dflt T)) (fun z => z.1.isNone && (S z.2).isSome)) := by
  intro args mem nxt u mem' nxt' hg base φ w xs hm hA
  unfold GX.smNil at hg
  split at hg
  · rename_i z has
    cases hT : plainT T <;> rw [hT] at hg
    · cases hg
    simp only [cond_true, Option.some.injEq, Prod.mk.injEq] at hg
    obtain ⟨rfl, rfl, rfl, hk⟩ := hg
    obtain ⟨hk0, hk⟩ := and_split hk
    obtain ⟨z0, z⟩ := z
    cases z0 with
    | some p => cases hk0
    | none =>
    cases hs : S z with
    | none => rw [hs] at hk; cases hk
    | some y =>
      refine (fnG_ok hC hf hL ((h z).trans hs) hm.imm (AR_iff.2 (asTs_AR has (AR_iff.1 hA)))).mono ?_
      rintro e w' ⟨χ, s, v, zv, a, rfl, hle, hr, hl, hv, hb⟩
      have hn := nilV_eq hl
      subst hn
      refine ⟨φ, zv, rfl, Phi.le_refl _, hm.same (Below.same hb (Nat.le_refl _)) (Nat.le_refl _), hb.mono hm.base, ?_⟩
      unfold VR at hv ⊢
      rw [if_pos (by rfl)] at hv ⊢
      obtain ⟨l, rfl, v0, r, e, h1, h2⟩ := hv
      refine ⟨l, rfl, v0, r, e, ?_, ?_⟩
      · exact V1_of_VR (t := .ptr) rfl (VR_nilptr.2 (VR_nilptr.1 (VR_of_V1 (t := .ptr) rfl h1)))
      · simp only [hs, Option.getD_some]; exact TR_bare hT h2
  · cases hg
end Go.GX

namespace Go.GX
set_option linter.unusedSimpArgs false
set_option linter.unusedVariables false
set_option linter.unusedSectionVars false
open Go.RowKit (Below)

/-! ## Methods that only read -/
def ownBR (q : SL) (b : Blk) (e : Ty) : Option (List e.den × Bool) :=
  if h : b.t = e then some (h ▸ sec (GX.dflt b.t) b.row q.start q.len, decide (q.start + q.len ≤ b.n)) else none
def ownRdR (mem : Mem) (e : Ty) (q : Option SL) : Option (List e.den × Bool) :=
  match q with
  | none => some ([], true)
  | some q => match q.path, Mem.getC mem q.id with
    | [], some b => ownBR q b e
    | _, _ => none
def mpRdR (mem : Mem) (K E : Ty) (q : Option Nat) : Option (List (MT K E).den × Bool) :=
  match q with
  | none => none
  | some j => match Mem.get mem j with
    | some b => match asBlk (MT K E) b with
      | some row => some (row, true)
      | none => none
    | none => none
def Dk.rdR (mem : Mem) : (D : Dk) → D.ty.den → Option (D.den × Bool)
  | .v _, x => some (x, true)
  | .own _ e, q => ownRdR mem e q
  | .mp _ K E, q => mpRdR mem K E q
  | .pr a b, x => match a.rdR mem x.1, b.rdR mem x.2 with
    | some (y, c), some (z, d) => some ((y, z), c && d)
    | _, _ => none
def obRdR (mem : Mem) (D : Dk) (b : Blk) : Option (D.den × Bool) :=
  if h : b.t = D.ty then (match D.rdR mem (h ▸ b.row.getD 0 (GX.dflt b.t)) with
    | some (x, c) => some (x, Nat.beq b.n 1 && c)
    | none => none) else none
def Dk.blksR : (D : Dk) → D.den → Mem
  | .v _, _ => []
  | .own c e, x => [(c, ⟨e, x.length, x, false⟩)]
  | .mp c K E, x => [(c, ⟨MT K E, 0, x, false⟩)]
  | .pr a b, x => a.blksR x.1 ++ b.blksR x.2
def obMemR (D : Dk) (x : D.den) : Mem := (0, ⟨D.ty, 1, [D.mk x], false⟩) :: D.blksR x
def smR (D : Dk) (rp : List Nat) (ts : List Ty) (T : Ty) (v : D.den → AD ts → T.den) (k : D.den → AD ts → Bool) : Sm := fun args mem nxt =>
  match args with
  | ⟨.ptr, some p⟩ :: rest => bif decide (p.path = rp) then (match Mem.getC mem p.id with
    | some b => match obRdR mem D b, asTs ts rest with
      | some (x, c), some z => bif plainT T then some (⟨T, v x z⟩, mem, nxt, k x z && c) else none
      | _, _ => none
    | none => none) else none
  | _ => none
def BlkAtR (B : Nat) (ψ : Phi) (w : World) (i : Nat) (b : Blk) : Prop := (ψ i = none ∧ b.n = 0) ∨ ∃ ph, ψ i = some ph ∧ BlkRel B ψ ph b w
theorem own_soundR {base B : Nat} {φ ψ : Phi} {mem : Mem} {nxt : Nat} {w : World} (hm : MemRel base φ mem nxt w) (himm : ψ.imm = φ.imm) {e : Ty} (hT : valT e = true) {q : Option SL} {y : List e.den} (h : ownRdR mem e q = some (y, true)) {v : Value}
    (hv : CR φ (.c0 (.slice q)) v) {c : Nat} (hc : ψ c = qPhO φ q v e) :
    SR ψ ⟨c, [], 0, y.length, none⟩ v ∧ BlkAtR B ψ w c ⟨e, y.length, y, false⟩ := by
  unfold CR at hv
  cases q with
  | none =>
    simp only [ownRdR, Option.some.injEq, Prod.mk.injEq] at h
    obtain ⟨rfl, _⟩ := h
    have hv : v = .slice none 0 0 := hv
    exact ⟨.inl ⟨rfl, rfl, hv⟩, .inl ⟨hc, rfl⟩⟩
  | some q =>
    have hvv : SR φ q v := hv
    have hc : ψ c = qPh φ q v e := hc
    simp only [ownRdR] at h
    split at h
    · rename_i b hqp hb
      obtain ⟨hb, hbnt⟩ := Mem.getC_spec hb
      unfold ownBR at h
      split at h
      · rename_i hbt
        simp only [Option.some.injEq, Prod.mk.injEq] at h
        obtain ⟨rfl, hok⟩ := h
        have hle := of_decide_eq_true hok
        obtain ⟨bt, bn, brow, bwr⟩ := b
        simp only at hbt hle
        subst hbt
        have empty : qPh φ q v bt = none → q.len = 0 → SR ψ ⟨c, [], 0, (sec (GX.dflt bt) brow q.start q.len).length, none⟩ v → SR ψ ⟨c, [], 0, (sec (GX.dflt bt) brow q.start q.len).length, none⟩ v ∧ BlkAtR B ψ w c ⟨bt, (sec (GX.dflt bt) brow q.start q.len).length, sec (GX.dflt bt) brow q.start q.len, false⟩ :=
          fun h1 h2 h3 => ⟨h3, .inl ⟨hc.trans h1, by show (sec _ _ _ _).length = 0; rw [length_sec]; exact h2⟩⟩
        rcases hvv with ⟨hl0, _, hv⟩ | ⟨ad, cc, hv, hlc, hck, hcn, had⟩
        · exact empty (by unfold qPh; rw [hv]; cases φ q.id <;> rfl) hl0 (.inl ⟨by simp only [length_sec]; exact hl0, rfl, hv⟩)
        · rcases Nat.eq_zero_or_pos cc with h0 | hpos
          · have hl0 : q.len = 0 := by omega
            refine empty (by unfold qPh; rw [hv]; cases φ q.id <;> simp [h0]) hl0 (.inr ⟨ad, cc, ?_, ?_, fun k hk => (by cases hk), fun _ hc => (by omega), fun hc => (by omega)⟩)
            · simp only [length_sec]; exact hv
            · simp only [length_sec]; exact hlc
          · have ha := had hpos
            obtain ⟨ph, hph⟩ := addr_phys ha
            simp only at hph
            have hbr := hm.blkAt hb hph
            obtain ⟨cs, el, fr, g1, g2, g3⟩ := hbr.cells hbnt
            have hsome : ψ c = some ⟨ph.blk, ph.off + q.start * size bt, bt, cc⟩ := by
              rw [hc]; unfold qPh; rw [hph, hv]; simp only; rw [if_pos hpos]
            have hadd : ad = ⟨ph.blk, ph.off + q.start * size bt, none⟩ := by
              unfold addr at ha
              have h00 : offs bt [] = some 0 := by cases bt <;> rfl
              simp only [hph, hqp, List.nil_append, hbr.t] at ha
              simp only [offs, h00, Option.map_some, Nat.add_zero, Option.some.injEq] at ha
              exact ha.symm
            have hnb : BlkRel B ψ ⟨ph.blk, ph.off + q.start * size bt, bt, cc⟩ ⟨bt, (sec (GX.dflt bt) brow q.start q.len).length, sec (GX.dflt bt) brow q.start q.len, false⟩ w := by
              refine ⟨rfl, fun e => (by cases e), MpRel.plain hbnt _, fun _ => ⟨cs, el, fr, g1, fun k d hk => ?_, fun e => (by cases e)⟩⟩
              have hk0 : (flat (.arr q.len bt) (sec (GX.dflt bt) brow q.start q.len))[k]? = some d := by
                have hk' : (flat (.arr (sec (GX.dflt bt) brow q.start q.len).length bt) (sec (GX.dflt bt) brow q.start q.len))[k]? = some d := hk
                rwa [length_sec] at hk'
              have hlt := (List.getElem?_eq_some_iff.1 hk0).1
              rw [length_flat, size] at hlt
              have hposz : 0 < size bt := by
                rcases Nat.eq_zero_or_pos (size bt) with h0 | h0
                · rw [h0] at hlt; omega
                · exact h0
              have hq : k / size bt < q.len := Nat.div_lt_of_lt_mul (by rw [Nat.mul_comm]; exact hlt)
              have hrr : k % size bt < size bt := Nat.mod_lt _ hposz
              have hkk : k = k / size bt * size bt + k % size bt := by rw [Nat.mul_comm]; exact (Nat.div_add_mod k (size bt)).symm
              have hk1 := hk0
              rw [flat, hkk, get_flatMap_const _ (size bt) (fun i => length_flat bt _) _ _ _ hq hrr, getD_sec _ _ _ _ _ hq] at hk1
              obtain ⟨v', hv', hvr⟩ := g2 ((q.start + k / size bt) * size bt + k % size bt) d (by
                show (flat (.arr bn bt) brow)[_]? = some d
                rw [flat, get_flatMap_const _ (size bt) (fun i => length_flat bt _) _ _ _ (by omega) hrr]; exact hk1)
              refine ⟨v', ?_, CR_imm2 himm (t := bt) hT hk1 hvr⟩
              rw [← hv']
              congr 1
              show ph.off + q.start * size bt + k = _
              rw [Nat.add_mul]; omega
            refine ⟨.inr ⟨ad, cc, by simp only [length_sec]; exact hv, by simp only [length_sec]; exact hlc, fun k hk => (by cases hk), fun _ _ => ⟨_, hsome, rfl, by simp⟩, fun _ => ?_⟩, .inr ⟨_, hsome, hnb⟩⟩
            unfold addr
            simp only [hsome]
            have h00 : offs bt [] = some 0 := by cases bt <;> rfl
            simp [offs, h00, hadd]
      · cases h
    · cases h
theorem mp_soundR {base B : Nat} {φ ψ : Phi} {mem : Mem} {nxt : Nat} {w : World} (hm : MemRel base φ mem nxt w) (himm : ψ.imm = φ.imm) {K E : Ty} (hK : valT K = true) (hE : valT E = true) {q : Option Nat} {y : List (MT K E).den} (h : mpRdR mem K E q = some (y, true)) {v : Value}
    (hv : CR φ (.c0 (.map q)) v) {c : Nat} (hc : ψ c = mPhO φ q) :
    CR ψ (.c0 (.map (some c))) v ∧ BlkAtR B ψ w c ⟨MT K E, 0, y, false⟩ := by
  unfold CR at hv ⊢
  cases q with
  | none => cases h
  | some j =>
    simp only [mpRdR] at h
    split at h
    · rename_i b hb
      split at h
      · rename_i row hrow
        simp only [Option.some.injEq, Prod.mk.injEq] at h
        obtain ⟨rfl, _⟩ := h
        have hbe := asBlk_eq hrow
        obtain ⟨ph, hp, hvv⟩ := hv
        have hbr := hm.blkAt hb hp
        have hcs : ψ c = some ph := by rw [hc]; exact hp
        have hmp := hbr.mp
        have ht := hbr.t
        rw [hbe] at hmp ht
        refine ⟨⟨ph, hcs, hvv⟩, .inr ⟨ph, hcs, ⟨ht, fun hw => (by cases hw), ?_, fun ht => by cases ht⟩⟩⟩
        obtain ⟨es, clock, h1, h2, h3, h4⟩ := hmp
        exact ⟨es, clock, h1, h2, fun i x hx => (by
          obtain ⟨e, he, k1, k2⟩ := h3 i x hx
          exact ⟨e, he, V1_imm2 himm hK k1, V1_imm2 himm hE k2⟩), h4⟩
      · cases h
    · cases h
theorem Dk.soundR {base B : Nat} {φ ψ : Phi} {mem : Mem} {nxt : Nat} {w : World} (hm : MemRel base φ mem nxt w) (himm : ψ.imm = φ.imm) {val : Nat → Value} :
    ∀ {D : Dk} {x0 : D.ty.den} {y : D.den} {k0 : Nat}, D.rdR mem x0 = some (y, true) → D.plain = true → noDup D.nms = true →
      (∀ j c, (flat D.ty x0)[j]? = some c → CR φ c (val (k0 + j))) → (∀ c ∈ D.nms, ψ c = D.ph φ val x0 k0 c) →
      (∀ j c, (flat D.ty (D.mk y))[j]? = some c → CR ψ c (val (k0 + j))) ∧ (∀ i b, Mem.get (D.blksR y) i = some b → BlkAtR B ψ w i b ∧ b.wr = false)
  | .v t, x0, y, k0, h, hp, hd, hc, hn => by
    simp only [Dk.rdR, Option.some.injEq, Prod.mk.injEq] at h
    obtain ⟨rfl, _⟩ := h
    refine ⟨fun j c hj => CR_imm2 himm (t := t) hp hj (hc j c hj), fun i b hi => ?_⟩
    simp [Dk.blksR, Mem.get] at hi
  | .own c e, x0, y, k0, h, hp, hd, hc, hn => by
    have h0 := hc 0 (.c0 (.slice x0)) rfl
    obtain ⟨h1, h2⟩ := own_soundR (B := B) hm himm hp h h0 (c := c) (by
      rw [hn c (by simp [Dk.nms])]
      rfl)
    refine ⟨fun j d hj => ?_, fun i b hi => ?_⟩
    · cases j with
      | zero =>
        simp only [Dk.mk, flat, List.getElem?_cons_zero, Option.some.injEq] at hj
        subst hj
        unfold CR
        exact h1
      | succ j => simp [Dk.mk, flat] at hj
    · simp only [Dk.blksR, Mem.get_cons] at hi
      by_cases e : i = c
      · rw [if_pos e] at hi; cases hi; subst e; exact ⟨h2, rfl⟩
      · rw [if_neg e] at hi; cases hi
  | .mp c K E, x0, y, k0, h, hp, hd, hc, hn => by
    have h0 := hc 0 (.c0 (.map x0)) rfl
    obtain ⟨hK, hE⟩ := and_split hp
    obtain ⟨h1, h2⟩ := mp_soundR (B := B) hm himm hK hE h h0 (c := c) (by
      rw [hn c (by simp [Dk.nms])]
      rfl)
    refine ⟨fun j d hj => ?_, fun i b hi => ?_⟩
    · cases j with
      | zero =>
        simp only [Dk.mk, flat, List.getElem?_cons_zero, Option.some.injEq] at hj
        subst hj
        exact h1
      | succ j => simp [Dk.mk, flat] at hj
    · simp only [Dk.blksR, Mem.get_cons] at hi
      by_cases e : i = c
      · rw [if_pos e] at hi; cases hi; subst e; exact ⟨h2, rfl⟩
      · rw [if_neg e] at hi; cases hi
  | .pr a b, x0, y, k0, h, hp, hd, hc, hn => by
    simp only [Dk.rdR] at h
    split at h
    · rename_i y1 c1 y2 c2 ha hb
      simp only [Option.some.injEq, Prod.mk.injEq] at h
      obtain ⟨rfl, hok⟩ := h
      obtain ⟨rfl, rfl⟩ := and_split hok
      obtain ⟨hpa, hpb⟩ := and_split hp
      obtain ⟨hda, hdb, hdis⟩ := noDup_append hd
      obtain ⟨a1, a2⟩ := Dk.soundR (B := B) hm himm (D := a) (k0 := k0) ha hpa hda (fun j c hj => hc j c (by
        simp only [flat]
        rw [List.getElem?_append_left (List.getElem?_eq_some_iff.1 hj).1]; exact hj)) (fun c hcm => by
        rw [hn c (by simp [Dk.nms, hcm])]
        simp only [Dk.ph, if_pos hcm])
      obtain ⟨b1, b2⟩ := Dk.soundR (B := B) hm himm (D := b) (k0 := k0 + size a.ty) hb hpb hdb (fun j c hj => by
        have := hc (size a.ty + j) c (by
          simp only [flat]
          rw [List.getElem?_append_right (by rw [length_flat]; omega), length_flat]
          rw [show size a.ty + j - size a.ty = j by omega]; exact hj)
        rwa [← Nat.add_assoc] at this) (fun c hcm => by
        rw [hn c (by simp [Dk.nms, hcm])]
        simp only [Dk.ph]
        rw [if_neg (fun h => hdis c h hcm)])
      refine ⟨fun j c hj => ?_, fun i b' hi' => ?_⟩
      · simp only [Dk.mk, flat] at hj
        rcases Nat.lt_or_ge j (size a.ty) with hlt | hge
        · rw [List.getElem?_append_left (by rw [length_flat]; exact hlt)] at hj
          exact a1 j c hj
        · rw [List.getElem?_append_right (by rw [length_flat]; exact hge), length_flat] at hj
          have := b1 (j - size a.ty) c hj
          rwa [show k0 + size a.ty + (j - size a.ty) = k0 + j by omega] at this
      · simp only [Dk.blksR, Mem.get_append] at hi'
        split at hi'
        · rename_i x hx
          cases hi'
          exact a2 i b' hx
        · exact b2 i b' hi'
    · cases h
/-- what is owed by a method that only reads -/
def ObjRd (P : Program) (f : Nat) (D : Dk) (rp : List Nat) (n1 : Nat) (args : List V) (x : D.den) (v : V) : Prop :=
  ∀ φ w xs, MemRel w.heap.size φ (obMemR D x) n1 w → AR φ (⟨.ptr, some ⟨0, rp⟩⟩ :: args) xs →
    Calls P f xs w fun e w' => ∃ ψ z, e = .returned z ∧ Below w.heap.size w w' ∧ VR ψ v z
theorem SmOK.smR {P : Program} {f : Nat} {D : Dk} {rp : List Nat} {n1 : Nat} {ts : List Ty} {T : Ty} {v : D.den → AD ts → T.den} {k : D.den → AD ts → Bool}
    (hplain : D.plain = true) (hnd : noDup D.nms = true) (hlt : ∀ c ∈ D.nms, 1 ≤ c ∧ c < n1) (hn1 : 1 ≤ n1) (hts : ts.all valT = true)
    (h : ∀ x z, k x z = true → ObjRd P f D rp n1 (mkA ts z) x ⟨T, v x z⟩) : SmOK P f (GX.smR D rp ts T v k) := by
  intro args mem nxt u mem' nxt' hg base φ w xs hm hA
  unfold GX.smR at hg
  split at hg
  · rename_i p rest
    cases hpath : decide (p.path = rp) <;> rw [hpath] at hg
    · cases hg
    have hpath := of_decide_eq_true hpath
    simp only [cond_true] at hg
    split at hg
    · rename_i b hb
      split at hg
      · rename_i x c z hob has
        cases hT : plainT T <;> rw [hT] at hg
        · cases hg
        simp only [cond_true, Option.some.injEq, Prod.mk.injEq] at hg
        obtain ⟨rfl, rfl, rfl, hkc⟩ := hg
        obtain ⟨hk, rfl⟩ := and_split hkc
        have hb1 := hb
        obtain ⟨hb0, hbnt⟩ := Mem.getC_spec hb
        unfold obRdR at hob
        split at hob
        · rename_i ht
          split at hob
          · rename_i x' c' hrd
            simp only [Option.some.injEq, Prod.mk.injEq] at hob
            obtain ⟨rfl, hok⟩ := hob
            obtain ⟨hn, rfl⟩ := and_split hok
            obtain ⟨bt, bn, brow, bwr⟩ := b
            simp only at ht hn hbnt hrd
            have hn := Nat.eq_of_beq_eq_true hn
            subst hn
            subst ht
            rcases hm.blk p.id _ hb0 with ⟨_, h0⟩ | ⟨ph, hph, hbr⟩
            · simp at h0
            · obtain ⟨cs, el, fr, g1, g2, g3⟩ := hbr.cells hbnt
              let φ1 : Phi := ⟨fun j => if j = 0 then φ p.id else if j ∈ D.nms then obPh φ mem w p.id D j else none, φ.imm, w.heap.size⟩
              have h00 : φ1 0 = φ p.id := rfl
              have h0n : ∀ c ∈ D.nms, φ1 c = obPh φ mem w p.id D c := fun c hc => by
                show (if c = 0 then _ else if c ∈ D.nms then _ else none) = _
                rw [if_neg (by have := hlt c hc; omega), if_pos hc]
              have hval : ∀ k, cellAt w ph.blk k = (cs[k]?).getD undef := fun k => by unfold cellAt; rw [g1]
              have e1 : ∀ z : D.ty.den, flat (.arr 1 D.ty) [z] = flat D.ty z := fun z => by simp [flat, List.range_succ]
              have e2 : flat (.arr 1 D.ty) brow = flat D.ty (brow.getD 0 (GX.dflt D.ty)) := by simp [flat, List.range_succ]
              obtain ⟨s1, s2⟩ := Dk.soundR (B := w.heap.size) (ψ := φ1) hm rfl (val := fun k => cellAt w ph.blk (ph.off + k)) (k0 := 0) hrd hplain hnd (fun j d hj => by
                obtain ⟨v, hv, hx⟩ := g2 j d (by show (flat (.arr 1 D.ty) brow)[j]? = some d; rw [e2]; exact hj)
                show CR φ d (cellAt w ph.blk (ph.off + (0 + j)))
                rw [Nat.zero_add, hval, hv]; exact hx) (fun d hd => by
                rw [h0n d hd]
                unfold obPh
                rw [hph, hb1]
                simp)
              have hall : ∀ j b', Mem.get (obMemR D x') j = some b' → BlkAtR w.heap.size φ1 w j b' ∧ b'.wr = false := by
                intro j b' hj
                simp only [obMemR, Mem.get_cons] at hj
                by_cases e : j = 0
                · rw [if_pos e] at hj
                  cases hj
                  subst e
                  refine ⟨.inr ⟨ph, h00.trans hph, hbr.t, fun e => (by cases e), MpRel.plain hbnt _, fun _ => ⟨cs, el, fr, g1, fun k d hk => ?_, fun e => (by cases e)⟩⟩, rfl⟩
                  have hk' : (flat D.ty (D.mk x'))[k]? = some d := by rw [← e1]; exact hk
                  have hx := s1 k d hk'
                  have hx : CR φ1 d (cellAt w ph.blk (ph.off + (0 + k))) := hx
                  rw [Nat.zero_add, hval] at hx
                  have hlt := (List.getElem?_eq_some_iff.1 hk').1
                  obtain ⟨d0, hd0⟩ : ∃ d0, (flat D.ty (brow.getD 0 (GX.dflt D.ty)))[k]? = some d0 := by
                    refine ⟨_, List.getElem?_eq_getElem (by rw [length_flat]; rw [length_flat] at hlt; exact hlt)⟩
                  obtain ⟨v, hv, _⟩ := g2 k d0 (by show (flat (.arr 1 D.ty) brow)[k]? = some d0; rw [e2]; exact hd0)
                  rw [hv] at hx
                  exact ⟨v, hv, hx⟩
                · rw [if_neg e] at hj
                  exact s2 j b' hj
              have M1 : MemRel w.heap.size φ1 (obMemR D x') n1 w := by
                refine ⟨fun j b' hj => (hall j b' hj).1, fun i j b b' ph ph' hi hj hij hw => ?_, fun j ph hj => ?_, rfl, Nat.le_refl _, fun k o hk => hm.imm k o hk⟩
                · rw [(hall i b hi).2] at hw; cases hw
                · have hj : (if j = 0 then φ p.id else if j ∈ D.nms then obPh φ mem w p.id D j else none) = some ph := hj
                  by_cases e : j = 0
                  · rw [if_pos e] at hj; exact ⟨by omega, (hm.fresh _ _ hj).2⟩
                  · rw [if_neg e] at hj
                    by_cases e2 : j ∈ D.nms
                    · rw [if_pos e2] at hj; exact ⟨(hlt j e2).2, obPh_lt (fun i ph h => (hm.fresh i ph h).2) hj⟩
                    · rw [if_neg e2] at hj; cases hj
              have A1 : AR φ1 (⟨.ptr, some ⟨0, rp⟩⟩ :: mkA ts z) xs := by
                rw [AR_iff] at hA ⊢
                cases hxs : xs.toList with
                | nil => rw [hxs] at hA; exact absurd hA.1 (by simp)
                | cons y ys =>
                  rw [hxs] at hA
                  have h0 : VR φ ⟨.ptr, some p⟩ y := by
                    obtain ⟨q, hq, hr⟩ := hA.2 0 _ rfl
                    simp at hq; subst hq; exact hr
                  have hl : ARL φ rest ys := ⟨by simpa using hA.1, fun i u hi => by simpa using hA.2 (i + 1) u (by simpa using hi)⟩
                  have hl := asTs_AR has hl
                  refine ARL.cons ?_ ⟨hl.1, fun i u hi => ?_⟩
                  · obtain ⟨ad, had, hav⟩ := VR_ptr.1 h0
                    refine VR_ptr.2 ⟨ad, ?_, hav⟩
                    rw [← had]
                    unfold addr
                    rw [hpath]
                    rfl
                  · obtain ⟨q, hq, hr⟩ := hl.2 i u hi
                    exact ⟨q, hq, valV_ok (φ := φ) (ψ := φ1) (fun _ _ h => h) (by unfold valV; rw [mkA_val hts hi]; rfl) hr⟩
              refine (h x' z hk φ1 w xs M1 A1).mono ?_
              rintro e w' ⟨χ, zv, rfl, hbw, hV⟩
              exact ⟨φ, zv, rfl, Phi.le_refl _, hm.same (Below.same hbw (Nat.le_refl _)) (Nat.le_refl _), hbw.mono hm.base, plainV_ok (φ := χ) (ψ := φ) (by unfold plainV; rw [hT]; rfl) hV⟩
          · cases hob
        · cases hob
      · cases hg
    · cases hg
  · cases hg
def fnR (C : Cx) (fn : Func) (D : Dk) (rp : List Nat) (n1 : Nat) (T : Ty) (args : List V) (x : D.den) : Option T.den :=
  match fn.body with
  | none => none
  | some c => bif Nat.ble (args.length + 1) fn.ntmps then
      codeT C c ⟨putArgs (⟨.ptr, some ⟨0, rp⟩⟩ :: args) 0 .lf, fn.ntmps, obMemR D x, n1, true⟩ fun e s => match e with
        | .exit _ => none
        | .goto _ => none
        | .pan _ _ => none
        | _ => match resY C.Θ fn s with
          | some (v, s', c) => bif c then asT T v else none
          | none => none
    else none
theorem fnR_ok {P : Program} {C : Cx} (hC : CxOK P C) {fn : Func} {f : Nat} (hf : P.funcs[f]? = some fn) {D : Dk} {rp : List Nat} {n1 : Nat} {T : Ty} {args : List V} {x : D.den} {y : T.den} (hL : ∀ c, fn.body = some c → LOK P C 0 c)
    (h : fnR C fn D rp n1 T args x = some y) : ObjRd P f D rp n1 args x ⟨T, y⟩ := by
  intro φ w xs hm hA
  unfold fnR at h
  split at h
  · cases h
  · rename_i c hc
    cases hb : Nat.ble (args.length + 1) fn.ntmps <;> rw [hb] at h
    · cases h
    · simp only [cond_true] at h
      have hle := Nat.le_of_ble_eq_true hb
      refine calls_of_wp hf hc (codeT_ok hC (hL c hc) (base := w.heap.size) (φ := φ) (fun e s hs => ?_) h ⟨fun s u c' hs => ?_, by simp [hA.1]; omega, hm, rfl⟩ ?_)
      · split at hs
        · cases hs
        · cases hs
        · cases hs
        · split at hs
          · rename_i v s' c hres
            cases hk : c <;> rw [hk] at hs hres
            · cases hs
            · unfold resY at hres
              split at hres
              · simp only [Option.some.injEq, Prod.mk.injEq] at hres
                exact pubs_mono (and_split hres.2.2).2
              · cases hres
          · cases hs
      · rcases putArgs_get hs with ⟨hc', _, hg⟩ | hg
        · subst hc'
          simp only [Nat.sub_zero] at hg
          obtain ⟨x, hx, hr⟩ := hA.2 s u hg
          refine ⟨fun _ => ?_, fun e => by cases e⟩
          have hsz : s < xs.size := (Array.getElem?_eq_some_iff.1 hx).1
          rw [Array.getD_eq_getD_getElem?, Array.getElem?_append_left hsz, hx]
          exact hr
        · simp [Tr.get] at hg
      · intro e0 e s ψ a' w' he h1 hr' hb' h4
        have post : a'.defers = [] ∧ ∃ z, (results fn a'.tmps).run P w' = .ok z w' ∧ (∃ ψ z', Ending.returned z = .returned z' ∧ Below w.heap.size w w' ∧ VR ψ ⟨T, y⟩ z') := by
          have h4 : (match resY C.Θ fn s with | some (v, s', c) => bif c then asT T v else none | none => none) = some y := by
            rcases EX_of he with ⟨rfl, rfl⟩ | ⟨j, rfl, rfl⟩ | ⟨rfl, rfl⟩ | ⟨j, rfl, rfl⟩ | ⟨_, _, rfl, rfl⟩
            · exact h4
            · cases h4
            · exact h4
            · cases h4
            · cases h4
          split at h4
          · rename_i v s' cc hres
            cases hk : cc <;> rw [hk] at h4 hres
            · cases h4
            · simp only [cond_true] at h4
              have hv := asT_eq h4
              subst hv
              obtain ⟨χ, hχ, hr2, _, z, hrun, hz⟩ := resY_ok hC.Θ hr' hres
              exact ⟨hr'.defers, z, hrun, χ, z, rfl, hb', hz⟩
          · cases h4
        rcases EX_of he with ⟨rfl, rfl⟩ | ⟨j, rfl, rfl⟩ | ⟨rfl, rfl⟩ | ⟨j, rfl, rfl⟩ | ⟨_, _, rfl, rfl⟩
        · exact post
        · cases h4
        · exact post
        · cases h4
        · cases h4
theorem SmOK.ofR {P : Program} {C : Cx} (hC : CxOK P C) {fn : Func} {f : Nat} (hf : P.funcs[f]? = some fn) {D : Dk} {rp : List Nat} {n1 : Nat} {ts : List Ty} {T : Ty} {S : D.den → AD ts → Option T.den} (hL : ∀ c, fn.body = some c → LOK P C 0 c)
    (hplain : D.plain = true) (hnd : noDup D.nms = true) (hlt : ∀ c ∈ D.nms, 1 ≤ c ∧ c < n1) (hn1 : 1 ≤ n1) (hts : ts.all valT = true) (h : ∀ x z, fnR C fn D rp n1 T (mkA ts z) x = S x z) :
    SmOK P f (GX.smR D rp ts T (fun x z => (S x z).getD (dflt T)) (fun x z => (S x z).isSome)) := by
  refine SmOK.smR hplain hnd hlt hn1 hts (fun x z hk => ?_)
  cases hs : S x z with
  | none => rw [hs] at hk; cases hk
  | some y => exact fnR_ok hC hf hL ((h x z).trans hs)
end Go.GX

namespace Go.GX
set_option linter.unusedSimpArgs false
set_option linter.unusedVariables false
set_option linter.unusedSectionVars false
open Go.RowKit (Below)

/-! ## A slice's copy: whether it is nil is asked of a value that does not tell -/
/-- what a function's end answers -/
def endK (Θ : Tab) (fn : Func) (T : Ty) : X → St → Option T.den := fun e s => match e with
  | .exit _ => none
  | .goto _ => none
  | .pan _ _ => none
  | _ => match resY Θ fn s with
    | some (v, _, c) => bif c then asT T v else none
    | none => none
theorem run_eqlNil {P : Program} {T eT : Nat} {a : Act} {w : World} {x : Operand} {ad : Option Addr} {n c : Nat} {T' : Nat} {dst : Option Tmp} {type : TypeId} {pos : String} {after : Array Edge} {guard : Option (Nat × Bool)}
    (hT : P.underlying T = some (.slice eT)) (hx : a.eval x = .slice ad n c) :
    (execOp a.eval ⟨dst, .binOp .eql T x (.const (.slice none 0 0)) T', type, pos, after, guard⟩).run P w = .ok (.value (.bool ad.isNone)) w := by
  have hc : a.eval (.const (.slice none 0 0)) = .slice none 0 0 := rfl
  simp only [execOp, Sem.run_bind, hx, hc, run_eqGuard_other (P := P) (op := .eql) (t := T) (ox := x) (oy := .const (.slice none 0 0)) w (a := .slice ad n c) (by simp) (by simp), Result.andThen]
  rw [run_binOp_equal (e := true) rfl (by simp) (by simp) (by simp) (by simp) (run_equal_slicenil hT)]
  simp
/-- the parts of such a function's text -/
def clOp (b : Option Code) (k : Nat) : Oper := match b with
  | some (.seq (.region _ a _) (.seq (.seq (.region _ c _) _) _)) => ((a.toList ++ c.toList).drop k).headD ⟨none, .move (.tmp 0), 0, "", #[], none⟩
  | _ => ⟨none, .move (.tmp 0), 0, "", #[], none⟩
def clThn (b : Option Code) : Code := match b with
  | some (.seq _ (.seq (.seq _ (.cond _ t _)) _)) => t
  | _ => .skip
def clTail (b : Option Code) : Code := match b with
  | some (.seq _ (.seq _ t)) => t
  | _ => .skip
theorem clone_pure {P : Program} {C : Cx} (hC : CxOK P C) {fn : Func} {f : Nat} (hf : P.funcs[f]? = some fn) {te : Ty} {T T' eT i0 i1 : Nat} {o2 o3 o4 : Oper} {thn tail : Code}
    (hb : fn.body = some (.seq (.region i0 #[o2] false) (.seq (.seq (.region i1 #[o3, o4] false) (.cond (.tmp 4) thn .skip)) tail)))
    (h2 : o2.op = .assign (.const (.slice none 0 0)) ∧ o2.dst = some 2 ∧ o2.guard = none) (h3 : o3.op = .move (.tmp 0) ∧ o3.dst = some 3 ∧ o3.guard = none)
    (h4 : o4.op = .binOp .eql T (.tmp 3) (.const (.slice none 0 0)) T' ∧ o4.dst = some 4 ∧ o4.guard = none)
    (hT : P.underlying T = some (.slice eT)) (hn : fn.ntmps = 8) (hte : valT te = true) {l : List te.den}
    (hnil : l = [] → PureOK P f [⟨.slice, none⟩] ⟨.vsl te, l⟩) (hL : LOK P C 0 tail)
    (h : codeT C tail ⟨putArgs [⟨.vsl te, l⟩] 0 .lf, 8, [], 0, true⟩ (endK C.Θ fn (.vsl te)) = some l) : PureOK P f [⟨.vsl te, l⟩] ⟨.vsl te, l⟩ := by
  intro φ w xs hI hA
  obtain ⟨v, hxs, hv⟩ : ∃ v, xs = #[v] ∧ VR φ ⟨.vsl te, l⟩ v := by
    have h1 := hA.1
    obtain ⟨v, hv, hr⟩ := hA.2 0 _ rfl
    refine ⟨v, ?_, hr⟩
    apply Array.ext'
    have hl : xs.toList.length = 1 := by simpa using h1
    match hx : xs.toList, hl with
    | [u], _ =>
      have : xs.toList[0]? = some v := by simpa using hv
      rw [hx] at this
      simp at this
      rw [this]
  subst hxs
  have hv0 := hv
  have hv := VR_vsl.1 hv
  unfold CR at hv
  rcases hv with ⟨hl0, hvn⟩ | ⟨ad, cc, hvs, hlc, himm⟩
  · have hl : l = [] := List.length_eq_zero_iff.1 hl0
    refine hnil hl φ w #[v] hI ⟨rfl, fun i u hi => ?_⟩
    cases i with
    | zero => simp at hi; subst hi; exact ⟨v, rfl, VR_nilslice.2 hvn⟩
    | succ i => simp at hi
  · let φ0 : Phi := φ.bare w.heap.size
    have hvv : VR φ0 ⟨.vsl te, l⟩ v := valV_ok (φ := φ) (ψ := φ.bare w.heap.size) (fun _ _ h => h) (by unfold valV; simp [valT, hte]) hv0
    have fin : ∀ a1 : Act, a1.tmps.size = 8 → a1.defers = [] → a1.tmps.getD 0 undef = v → tail.wp P (bodyPost P fn fun e w' => ∃ ψ m n x, e = .returned x ∧ (φ.bare w.heap.size).le ψ ∧ MemRel w.heap.size ψ m n w' ∧ VR ψ ⟨.vsl te, l⟩ x ∧ Below w.heap.size w w') a1 w := by
      intro a1 hsz hdf h0
      refine codeT_ok hC hL (base := w.heap.size) (φ := φ0) (fun x s hs => ?_) h ⟨fun s u c' hs => ?_, hsz, MemRel.nil w hI, hdf⟩ ?_
      · unfold endK at hs
        split at hs
        · cases hs
        · cases hs
        · cases hs
        · split at hs
          · rename_i v s' c hres
            cases hk : c <;> rw [hk] at hs hres
            · cases hs
            · unfold resY at hres
              split at hres
              · simp only [Option.some.injEq, Prod.mk.injEq] at hres
                exact pubs_mono (and_split hres.2.2).2
              · cases hres
          · cases hs
      · rcases putArgs_get hs with ⟨hc', _, hg⟩ | hg
        · subst hc'
          cases s with
          | zero => simp at hg; subst hg; exact ⟨fun _ => by rw [h0]; exact hvv, fun e => by cases e⟩
          | succ s => simp at hg
        · simp [Tr.get] at hg
      · intro x e s ψ a' w' he h1 hr' hb' h4
        have post : a'.defers = [] ∧ ∃ z, (results fn a'.tmps).run P w' = .ok z w' ∧ (∃ ψ m n x, Ending.returned z = .returned x ∧ (φ.bare w.heap.size).le ψ ∧ MemRel w.heap.size ψ m n w' ∧ VR ψ ⟨.vsl te, l⟩ x ∧ Below w.heap.size w w') := by
          have h4 : (match resY C.Θ fn s with | some (v, _, c) => bif c then asT (.vsl te) v else none | none => none) = some l := by
            rcases EX_of he with ⟨rfl, rfl⟩ | ⟨j, rfl, rfl⟩ | ⟨rfl, rfl⟩ | ⟨j, rfl, rfl⟩ | ⟨_, _, rfl, rfl⟩
            · exact h4
            · cases h4
            · exact h4
            · cases h4
            · cases h4
          split at h4
          · rename_i v s' cc hres
            cases hk : cc <;> rw [hk] at h4 hres
            · cases h4
            · simp only [cond_true] at h4
              have hv := asT_eq h4
              subst hv
              obtain ⟨χ, hχ, hr2, _, z, hrun, hz⟩ := resY_ok hC.Θ hr' hres
              exact ⟨hr'.defers, z, hrun, χ, _, _, _, rfl, Phi.le_trans (h1.toLe (fun i p hp => by cases hp)) hχ, hr2.mem, hz, hb'⟩
          · cases h4
        rcases EX_of he with ⟨rfl, rfl⟩ | ⟨j, rfl, rfl⟩ | ⟨rfl, rfl⟩ | ⟨j, rfl, rfl⟩ | ⟨_, _, rfl, rfl⟩
        · exact post
        · cases h4
        · exact post
        · cases h4
        · cases h4
    refine calls_of_wp hf hb ?_
    refine wp_seq (wp_region_list ?_)
    have st2 : ∀ (o : Oper) (x : Operand) (y : Value) (a : Act) (w : World) (ops : Array Oper) (r : List Oper) (Q : Exit → Act → World → Prop), o.guard = none → (o.op = .assign x ∨ o.op = .move x) → wpList P ops Q r (a.put o.dst (a.eval x)) w → wpList P ops Q (o :: r) a w := by
      intro o x y a w ops r Q hg ho hr
      rw [wpList, if_pos (by simp [Region.wanted, hg])]
      rcases ho with ho | ho
      · exact .inl (by unfold Oper.wp execOp; rw [ho]; exact hr)
      · exact .inl (by unfold Oper.wp execOp; rw [ho]; exact hr)
    refine st2 o2 _ v _ _ _ _ _ h2.2.2 (.inl h2.1) ?_
    show (Code.seq _ tail).wp P _ _ _
    refine wp_seq ?_
    refine wp_seq (wp_region_list ?_)
    refine st2 o3 _ v _ _ _ _ _ h3.2.2 (.inr h3.1) ?_
    rw [wpList, if_pos (by simp [Region.wanted, h4.2.2])]
    refine .inl ?_
    obtain ⟨g1, g2, g3⟩ := h4
    obtain ⟨dst, op, type, pos, after, guard⟩ := o4
    simp only at g1 g2 g3
    subst g1; subst g2; subst g3
    rw [h2.2.1, h3.2.1, hn]
    unfold Oper.wp
    rw [run_eqlNil (ad := some ad) (n := l.length) (c := cc) hT (by rw [← hvs]; rfl)]
    show (Code.cond (.tmp 4) thn .skip).wp P _ _ _
    refine wp_cond_false rfl ?_
    refine wp_skip ?_
    exact fin _ (by simp [Act.put]) (by simp [Act.put]) (by simp [Act.put])
end Go.GX

namespace Go.GX
set_option linter.unusedSimpArgs false
set_option linter.unusedVariables false
set_option linter.unusedSectionVars false
open Go.RowKit (Below)

/-! ## Functions that may give up -/
theorem start_ok {φ : Phi} {w : World} {args : List V} {xs : Array Value} {n : Nat} (hI : ImmOK φ w) (hA : AR φ args xs) (hb : (Nat.ble args.length n && args.all valV) = true) :
    Rel w.heap.size (φ.bare w.heap.size) ⟨putArgs args 0 .lf, n, [], 0, true⟩ { tmps := xs ++ Array.replicate (n - xs.size) undef, defers := [] } w := by
  obtain ⟨hb1, hpa⟩ := and_split hb
  have hle := Nat.le_of_ble_eq_true hb1
  have hA0 : AR (φ.bare w.heap.size) args xs := ⟨hA.1, fun i v hi => by
    obtain ⟨x, hx, hxr⟩ := hA.2 i v hi
    exact ⟨x, hx, valV_ok (φ := φ) (ψ := φ.bare w.heap.size) (fun _ _ h => h) (List.all_eq_true.1 hpa v (List.mem_of_getElem? hi)) hxr⟩⟩
  refine ⟨fun s u c' hs => ?_, by simp [hA.1]; omega, MemRel.nil w hI, rfl⟩
  rcases putArgs_get hs with ⟨hc', _, hg⟩ | hg
  · subst hc'
    simp only [Nat.sub_zero] at hg
    obtain ⟨x, hx, hr⟩ := hA0.2 s u hg
    refine ⟨fun _ => ?_, fun e => by cases e⟩
    have hsz : s < xs.size := (Array.getElem?_eq_some_iff.1 hx).1
    rw [Array.getD_eq_getD_getElem?, Array.getElem?_append_left hsz, hx]
    exact hr
  · simp [Tr.get] at hg
theorem resY_okk {Θ : Tab} {fn : Func} {s : St} {v : V} {s' : St} (h : resY Θ fn s = some (v, s', true)) : s.ok = true := by
  unfold resY at h
  split at h
  · simp only [Option.some.injEq, Prod.mk.injEq] at h
    exact pubs_mono (and_split h.2.2).2
  · cases h
/-- what the end of one that may give up tells: the number, or the answer -/
def endP (Θ : Tab) (t : Nat) (fn : Func) (T : Ty) : X → St → Option (Int ⊕ T.den) := fun x s => match x with
  | .exit _ => none
  | .goto _ => none
  | .pan t' n => bif Nat.beq t' t && s.ok then some (.inl n) else none
  | _ => match resY Θ fn s with
    | some (v, _, c) => bif c then (asT T v).map .inr else none
    | none => none
def fnP (C : Cx) (t : Nat) (fn : Func) (T : Ty) (args : List V) : Option (Int ⊕ T.den) :=
  match fn.body with
  | none => none
  | some c => bif Nat.ble args.length fn.ntmps && args.all valV then codeT C c ⟨putArgs args 0 .lf, fn.ntmps, [], 0, true⟩ (endP C.Θ t fn T) else none
theorem endP_mono {Θ : Tab} {t : Nat} {fn : Func} {T : Ty} {r : Int ⊕ T.den} {x : X} {s : St} (hs : endP Θ t fn T x s = some r) : s.ok = true := by
  unfold endP at hs
  split at hs
  · cases hs
  · cases hs
  · rename_i t' n
    cases hb : (Nat.beq t' t && s.ok) <;> rw [hb] at hs
    · cases hs
    · exact (and_split hb).2
  · split at hs
    · rename_i v s' c hres
      cases hk : c <;> rw [hk] at hs hres
      · cases hs
      · exact resY_okk hres
    · cases hs
def OutP (P : Program) (f : Nat) (args : List V) (t : Nat) (T : Ty) : Int ⊕ T.den → Prop
  | .inl n => PanOK P f args t n
  | .inr y => PureOK P f args ⟨T, y⟩
def PostP (φ : Phi) (w : World) (t : Nat) (T : Ty) : Int ⊕ T.den → Ending → World → Prop
  | .inl n, e, w' => e = .panicked (chainOf t n) ∧ Below w.heap.size w w'
  | .inr y, e, w' => ∃ ψ m n x, e = .returned x ∧ (φ.bare w.heap.size).le ψ ∧ MemRel w.heap.size ψ m n w' ∧ VR ψ ⟨T, y⟩ x ∧ Below w.heap.size w w'
theorem fnP_ok {P : Program} {C : Cx} (hC : CxOK P C) {fn : Func} {f : Nat} (hf : P.funcs[f]? = some fn) (hL : ∀ c, fn.body = some c → LOK P C 0 c) {t : Nat} {T : Ty} {args : List V} {r : Int ⊕ T.den}
    (h : fnP C t fn T args = some r) : OutP P f args t T r := by
  unfold fnP at h
  split at h
  · cases h
  · rename_i c hc
    cases hb : (Nat.ble args.length fn.ntmps && args.all valV) <;> rw [hb] at h
    · cases h
    · simp only [cond_true] at h
      have key : ∀ φ w xs, ImmOK φ w → AR φ args xs → Calls P f xs w (PostP φ w t T r) := by
        intro φ w xs hI hA
        refine calls_of_wp hf hc (codeT_ok hC (hL c hc) (base := w.heap.size) (φ := φ.bare w.heap.size) (fun x s hs => endP_mono hs) h (start_ok hI hA hb) ?_)
        intro x e s ψ a' w' he h1 hr' hb' h4
        have post : (match resY C.Θ fn s with | some (v, _, c) => bif c then (asT T v).map Sum.inr else none | none => none) = some r → a'.defers = [] ∧ ∃ z, (results fn a'.tmps).run P w' = .ok z w' ∧ PostP φ w t T r (.returned z) w' := by
          intro h4
          split at h4
          · rename_i v s' cc hres
            cases hk : cc <;> rw [hk] at h4 hres
            · cases h4
            · simp only [cond_true, Option.map_eq_some_iff] at h4
              obtain ⟨y, hy, rfl⟩ := h4
              have hv := asT_eq hy
              subst hv
              obtain ⟨χ, hχ, hr2, _, z, hrun, hz⟩ := resY_ok hC.Θ hr' hres
              exact ⟨hr'.defers, z, hrun, χ, _, _, _, rfl, Phi.le_trans (h1.toLe (fun i p hp => by cases hp)) hχ, hr2.mem, hz, hb'⟩
          · cases h4
        rcases EX_of he with ⟨rfl, rfl⟩ | ⟨j, rfl, rfl⟩ | ⟨rfl, rfl⟩ | ⟨j, rfl, rfl⟩ | ⟨t', n, rfl, rfl⟩
        · exact post h4
        · cases h4
        · exact post h4
        · cases h4
        · simp only [endP] at h4
          cases hb2 : (Nat.beq t' t && s.ok) <;> rw [hb2] at h4
          · cases h4
          · simp only [cond_true, Option.some.injEq] at h4
            subst h4
            have := Nat.eq_of_beq_eq_true (and_split hb2).1
            subst this
            exact ⟨hr'.defers, rfl, hb'⟩
      cases r with
      | inl n => exact fun φ w xs hI hA => key φ w xs hI hA
      | inr y => exact fun φ w xs hI hA => key φ w xs hI hA
/-! ## Summaries of them -/
def pm (ts : List Ty) (T : Ty) (t : Nat) (ps : List ((AD ts → Bool) × (AD ts → Int))) (v : AD ts → T.den) (k : AD ts → Bool) : PSm := fun args => match asTs ts args with
  | some x => bif valT T then some (ps.map fun p => (p.1 x, t, p.2 x), ⟨T, v x⟩, k x) else none
  | none => none
noncomputable def panV {α T : Type} (d : T) (E : α → Option (Int ⊕ T)) : α → T := fun x => match E x with | some (.inr y) => y | _ => d
noncomputable def panK {α T : Type} (E : α → Option (Int ⊕ T)) : α → Bool := fun x => match E x with | some (.inr _) => true | _ => false
noncomputable def panQ {α T : Type} (E : α → Option (Int ⊕ T)) (c : α → Int) : α → Bool := fun x => match E x with | some (.inl n) => decide (n = c x) | _ => false
def pOf : List (Nat × PSm) → Nat → Option PSm
  | [], _ => none
  | (g, s) :: r, f => bif Nat.beq g f then some s else pOf r f
def POK1 (P : Program) (f : Nat) (g : PSm) : Prop := ∀ args al v k, g args = some (al, v, k) → valV v = true ∧ match pickP al with | some (t, n) => PanOK P f args t n | none => k = true → PureOK P f args v
theorem POK.nil {P : Program} : POK P (pOf []) := fun f g h => by cases h
theorem POK.cons {P : Program} {f : Nat} {g : PSm} {r : List (Nat × PSm)} (hc : ∀ args w, (callFunc f args).run P w = .ok (.enter f args) w) (h : POK1 P f g) (hr : POK P (pOf r)) : POK P (pOf ((f, g) :: r)) := by
  intro f' g' hg
  simp only [pOf] at hg
  cases hb : Nat.beq f f' <;> rw [hb] at hg
  · exact hr f' g' hg
  · simp only [cond_true, Option.some.injEq] at hg
    have := Nat.eq_of_beq_eq_true hb
    subst this; subst hg
    exact ⟨hc, h⟩
theorem POK1.pm {P : Program} {f : Nat} {ts : List Ty} {T : Ty} {t : Nat} {E : AD ts → Option (Int ⊕ T.den)} (cs : List (AD ts → Int))
    (h : ∀ x r, E x = some r → OutP P f (mkA ts x) t T r) : POK1 P f (GX.pm ts T t (cs.map fun c => (panQ E c, c)) (panV (dflt T) E) (panK E)) := by
  intro args al v k hg
  unfold GX.pm at hg
  split at hg
  · rename_i x has
    cases hT : valT T <;> rw [hT] at hg
    · cases hg
    simp only [cond_true, Option.some.injEq, Prod.mk.injEq] at hg
    obtain ⟨rfl, rfl, rfl⟩ := hg
    refine ⟨by unfold valV; rw [hT]; rfl, ?_⟩
    have har : ∀ {φ : Phi} {xs : Array Value}, AR φ args xs → AR φ (mkA ts x) xs := fun hA => AR_iff.2 (asTs_AR has (AR_iff.1 hA))
    have hpick : ∀ (l : List (AD ts → Int)), match pickP ((l.map fun c => (panQ E c, c)).map fun p => (p.1 x, t, p.2 x)) with | some (t', n) => t' = t ∧ E x = some (.inl n) | none => True := by
      intro l
      induction l with
      | nil => trivial
      | cons c l ih =>
        simp only [List.map_cons, pickP]
        cases hq : panQ E c x
        · exact ih
        · refine ⟨rfl, ?_⟩
          unfold panQ at hq
          split at hq
          · rename_i n he
            rw [he, of_decide_eq_true hq]
          · cases hq
    have hp := hpick cs
    split
    · rename_i t' n hpk
      rw [hpk] at hp
      obtain ⟨rfl, he⟩ := hp
      exact fun φ w xs hI hA => h x _ he φ w xs hI (har hA)
    · intro hk
      unfold panK at hk
      split at hk
      · rename_i y he
        have : panV (dflt T) E x = y := by unfold panV; rw [he]
        rw [this]
        exact fun φ w xs hI hA => h x _ he φ w xs hI (har hA)
      · cases hk
  · cases hg
theorem fnP_E {P : Program} {C : Cx} (hC : CxOK P C) {fn : Func} {f : Nat} (hf : P.funcs[f]? = some fn) (hL : ∀ c, fn.body = some c → LOK P C 0 c) {t : Nat} {ts : List Ty} {T : Ty} {E : AD ts → Option (Int ⊕ T.den)}
    (h : ∀ x, fnP C t fn T (mkA ts x) = E x) : ∀ x r, E x = some r → OutP P f (mkA ts x) t T r :=
  fun x r hr => fnP_ok hC hf hL ((h x).trans hr)
end Go.GX

namespace Go.GX
set_option linter.unusedSimpArgs false
set_option linter.unusedVariables false
set_option linter.unusedSectionVars false
open Go.RowKit (Below)

/-! ## A function that is put off, and catches what gives up -/
def ifcD : Option TypeDesc → Bool
  | some (.interface _) => true
  | _ => false
def strD : Option TypeDesc → Bool
  | some (.struct _) => true
  | _ => false
theorem ifcD_spec {d : Option TypeDesc} (h : ifcD d = true) : ∃ ms, d = some (.interface ms) := by
  unfold ifcD at h
  split at h
  · exact ⟨_, rfl⟩
  · cases h
theorem strD_spec {d : Option TypeDesc} (h : strD d = true) : ∃ fs, d = some (.struct fs) := by
  unfold strD at h
  split at h
  · exact ⟨_, rfl⟩
  · cases h
/-- such a function's text: `switch x := recover().(type) { case nil: case t: .. default: panic(x) }` -/
structure DfText (P : Program) (gfn : Func) (t : Nat) (tail : Code) : Prop where
  ex : ∃ (i0 bi i3 i4 i5 I I' : Nat) (o0 o3 o4 o5 o6 o7 : Oper) (other : Code), gfn.body = some (.seq (.region i0 #[o0] false) (.block bi (.seq (.region i3 #[o3] false) (.cond (.tmp 7) (.region i4 #[o4] false) (.seq (.region i5 #[o5, o6, o7] false) (.cond (.tmp 9) tail other)))))) ∧
    (o0.op = .call ⟨.builtin .recover, #[], #[]⟩ ∧ o0.dst = some 5 ∧ o0.guard = none) ∧ (o3.op = .binOp .eql I (.tmp 5) (.const .nilIface) I' ∧ o3.dst = some 7 ∧ o3.guard = none) ∧
    (o4.op = .assign (.tmp 5) ∧ o4.dst = some 2 ∧ o4.guard = none) ∧ (o5.op = .typeAssert (.tmp 5) I t true ∧ o5.dst = some 8 ∧ o5.guard = none) ∧
    (o6.op = .extract (.tmp 8) 1 ∧ o6.dst = some 9 ∧ o6.guard = none) ∧ (o7.op = .extract (.tmp 8) 0 ∧ o7.dst = some 10 ∧ o7.guard = none) ∧
    ifcD (P.underlying I) = true ∧ strD (P.underlying t) = true ∧ gfn.ntmps = 15 ∧ gfn.results = #[]
def dfTail : Option Code → Code
  | some (.seq _ (.block _ (.seq _ (.cond _ _ (.seq _ (.cond _ t _)))))) => t
  | _ => .skip
theorem wpOpsS_recover {P : Program} {o : Oper} (hop : o.op = .call ⟨.builtin .recover, #[], #[]⟩) (hg : o.guard = none) {Q : Exit → Act → List Frame → World → Prop} {a : Act} {cs : List Frame} {w : World}
    (h : match recoverD cs with | some (v, cs') => Q .normal (a.put o.dst v) cs' w | none => Q .normal (a.put o.dst .nilIface) cs w) : wpOpsS P #[o] Q [0] a cs w := by
  have hrun : (execOp a.eval o).run P w = .ok .recover w := by
    unfold execOp
    rw [hop]
    rfl
  have hw : Region.wanted o (yielded #[o] a.tmps) = true := by simp [Region.wanted, hg]
  have ho : (#[o] : Array Oper)[0]? = some o := rfl
  unfold wpOpsS
  simp only [ho, hw, if_true, hrun]
  cases hr : recoverD cs with
  | none => rw [hr] at h; exact h
  | some p => rw [hr] at h; exact h
theorem wpOne {P : Program} {o : Oper} {ops : Array Oper} {r : List Oper} {Q : Exit → Act → World → Prop} {a : Act} {w w' : World} {v : Value} (hg : o.guard = none) (h : (execOp a.eval o).run P w = .ok (.value v) w') (hn : wpList P ops Q r (a.put o.dst v) w') : wpList P ops Q (o :: r) a w := by
  rw [wpList, if_pos (by simp [Region.wanted, hg])]
  refine .inl ?_
  unfold Oper.wp
  rw [h]
  exact hn
theorem run_equalIn_nilnil {P : Program} (d : Nat) {I : Nat} {ms} {w : World} (hI : P.underlying I = some (.interface ms)) : (Op.equalIn (d + 1) I .nilIface .nilIface).run P w = .ok true w := by
  have hu : ∀ w, (underlying I).run P w = .ok (.interface ms) w := fun w => Go.run_underlying hI w
  simp only [Op.equalIn, Sem.run_bind, hu, Result.andThen]; rfl
theorem run_equalIn_ifacenil {P : Program} (d : Nat) {I t : Nat} {u : Value} {ms} {w : World} (hI : P.underlying I = some (.interface ms)) : (Op.equalIn (d + 1) I (.iface t u) .nilIface).run P w = .ok false w := by
  have hu : ∀ w, (underlying I).run P w = .ok (.interface ms) w := fun w => Go.run_underlying hI w
  simp only [Op.equalIn, Sem.run_bind, hu, Result.andThen]; rfl
def isNilI : Value → Bool
  | .nilIface => true
  | _ => false
theorem run_eqlIface {P : Program} {I I' : Nat} {ms} (hI : P.underlying I = some (.interface ms)) {a : Act} {w : World} {x : Operand} {v : Value} (hx : a.eval x = v) (hv : v = .nilIface ∨ ∃ t u, v = .iface t u) {o : Oper} (ho : o.op = .binOp .eql I x (.const .nilIface) I') :
    (execOp a.eval o).run P w = .ok (.value (.bool (isNilI v))) w := by
  have hc : a.eval (.const .nilIface) = .nilIface := rfl
  have hu : ∀ w, (underlying I).run P w = .ok (.interface ms) w := fun w => Go.run_underlying hI w
  unfold execOp
  rw [ho]
  rcases hv with rfl | ⟨t, u, rfl⟩
  · have h1 : ∀ w, (eqGuard .eql I x (.const .nilIface) .nilIface .nilIface).run P w = .ok () w := fun w => by
      unfold eqGuard
      simp
    have h2 : ∀ w, (Op.equal I .nilIface .nilIface).run P w = .ok true w := fun w => run_equalIn_nilnil 9999 hI
    simp only [Sem.run_bind, hx, hc, h1, Result.andThen]
    rw [run_binOp_equal (e := true) rfl (by simp) (by simp) (by simp) (by simp) (h2 _)]
    simp [isNilI]
  · have h1 : ∀ w, (eqGuard .eql I x (.const .nilIface) (.iface t u) .nilIface).run P w = .ok () w := fun w => by
      unfold eqGuard
      simp
    have h2 : ∀ w, (Op.equal I (.iface t u) .nilIface).run P w = .ok false w := fun w => run_equalIn_ifacenil 9999 hI
    simp only [Sem.run_bind, hx, hc, h1, Result.andThen]
    rw [run_binOp_equal (e := true) rfl (by simp) (by simp) (by simp) (by simp) (h2 _)]
    simp [isNilI]
theorem eval_put {a : Act} {d : Nat} {v : Value} (h : d < a.tmps.size) : (a.put (some d) v).eval (.tmp d) = v := by
  show (a.tmps.setIfInBounds d v).getD d undef = v
  rw [Array.getD_eq_getD_getElem?, Array.getElem?_setIfInBounds_self_of_lt h]; rfl
theorem eval_put_ne {a : Act} {d d' : Nat} {v : Value} (h : d ≠ d') : (a.put (some d') v).eval (.tmp d) = a.eval (.tmp d) := by
  show (a.tmps.setIfInBounds d' v).getD d undef = a.tmps.getD d undef
  rw [Array.getD_eq_getD_getElem?, Array.getD_eq_getD_getElem?, Array.getElem?_setIfInBounds_ne (fun e => h e.symm)]
theorem size_put {a : Act} {d : Option Nat} {v : Value} : (a.put d v).tmps.size = a.tmps.size := by
  cases d <;> simp [Act.put]
theorem defers_put {a : Act} {d : Option Nat} {v : Value} : (a.put d v).defers = a.defers := by
  cases d <;> rfl
theorem run_noResults {P : Program} {fn : Func} (h : fn.results = #[]) (tmps : Array Value) (w : World) : ∃ v, (results fn tmps).run P w = .ok v w := by
  unfold results
  simp [h]
theorem act15 {v0 : Value} : ∃ a0 : Act, ({ tmps := #[v0] ++ Array.replicate (15 - #[v0].size) undef, defers := [] } : Act) = a0 ∧ a0.tmps.size = 15 ∧ a0.eval (.tmp 0) = v0 ∧ a0.defers = [] := ⟨_, rfl, by simp, by show (#[v0] ++ Array.replicate (15 - #[v0].size) undef).getD 0 undef = v0; simp [Array.getD_eq_getD_getElem?], rfl⟩
theorem caught_ret {P : Program} {g : Nat} {gfn : Func} (hf : P.funcs[g]? = some gfn) {t : Nat} {tail : Code} (hT : DfText P gfn t tail) {v0 : Value} {w : World} :
    CallsD P g #[v0] .returning w (fun e u' w' => (∃ v, e = .returned v) ∧ u' = .returning ∧ w' = w) := by
  obtain ⟨i0, bi, i3, i4, i5, I, I', o0, o3, o4, o5, o6, o7, other, hb, h0, h3, h4, h5, h6, h7, hI, ht, hn, hres⟩ := hT.ex
  obtain ⟨ms, hI⟩ := ifcD_spec hI
  obtain ⟨fs, ht⟩ := strD_spec ht
  refine callsD_of_wpS hf hb (fun c₀ cs hm => ?_)
  rw [hn]
  obtain ⟨a0, ha0, hsz, h00, hd0⟩ := act15 (v0 := v0)
  rw [ha0]
  refine wpS_seq (wpS_region ?_)
  show wpOpsS P #[o0] _ [0] _ _ _
  refine wpOpsS_recover h0.1 h0.2.2 ?_
  have hrec : recoverD (c₀ :: cs) = none := by simp [recoverD, hm]
  rw [hrec]
  simp only
  show Code.wpS P _ _ _ _ _
  refine wpS_of_wp (wp_block (wp_seq (wp_region_list ?_)))
  rw [h0.2.1]
  refine wpOne h3.2.2 (run_eqlIface hI (eval_put (by rw [hsz]; decide)) (.inl rfl) h3.1) ?_
  rw [h3.2.1]
  refine wp_cond_true (eval_put (by rw [size_put, hsz]; decide)) (wp_region_list ?_)
  refine wpOne (w' := w) (v := .nilIface) h4.2.2 ?_ ?_
  · unfold execOp
    rw [h4.1]
    show Result.ok (Next.value (Act.eval _ (.tmp 5))) w = _
    rw [eval_put_ne (by decide), eval_put (by rw [hsz]; decide)]
  obtain ⟨v, hv⟩ := run_noResults (P := P) hres (((a0.put (some 5) .nilIface).put (some 7) (.bool true)).put o4.dst .nilIface).tmps w
  refine ⟨by rw [defers_put, defers_put, defers_put]; exact hd0, .returning, ?_, v, hv, ⟨v, rfl⟩, rfl, rfl⟩
  rw [← hm]
/-- what the catching function does with a number is carried out -/
def tmD (p : PA) (n : Int) : TM := (((Tr.lf).set 0 (⟨.ptr, some p⟩, true)).set 10 (⟨.pair (.int .i64) .unit, (n, ())⟩, true))
def dfC (Θ : Tab) : Cx := ⟨true, Θ, fun _ => none, 100, fun _ => none, fun _ => none⟩
def dfK {ρ : Type} (k : St → Option ρ) : X → St → Option ρ := fun x s => match x with | .normal => k s | _ => none
theorem caught_pan {P : Program} {Θ : Tab} (hΘ : TabOK P Θ) (hmix : P.follows .mixedOrders = true) {g : Nat} {gfn : Func} (hf : P.funcs[g]? = some gfn) {t : Nat} {tail : Code} (hT : DfText P gfn t tail) {ρ : Type} {k : St → Option ρ} {r : ρ} (hk : ∀ s, k s = some r → s.ok = true)
    {base : Nat} {φ : Phi} {mem : Mem} {nxt : Nat} {w : World} (hm : MemRel base φ mem nxt w) {p : PA} {ad : Addr} (hp : addr φ p = some ad) {n : Int} (h : codeT (dfC Θ) tail ⟨tmD p n, 15, mem, nxt, true⟩ (dfK k) = some r) :
    CallsD P g #[.pointer (some ad)] (.panicking (chainOf t n)) w (fun e u' w' => (∃ v, e = .returned v) ∧ settle u' = .returning ∧ ∃ s ψ, φ.le ψ ∧ MemRel base ψ s.mem s.nxt w' ∧ Below base w w' ∧ k s = some r) := by
  obtain ⟨i0, bi, i3, i4, i5, I, I', o0, o3, o4, o5, o6, o7, other, hb, h0, h3, h4, h5, h6, h7, hI, ht, hn, hres⟩ := hT.ex
  obtain ⟨ms, hI⟩ := ifcD_spec hI
  obtain ⟨fs, ht⟩ := strD_spec ht
  refine callsD_of_wpS hf hb (fun c₀ cs hm0 => ?_)
  rw [hn]
  obtain ⟨a0, ha0, hsz, h00, hd0⟩ := act15 (v0 := .pointer (some ad))
  rw [ha0]
  refine wpS_seq (wpS_region ?_)
  show wpOpsS P #[o0] _ [0] _ _ _
  refine wpOpsS_recover h0.1 h0.2.2 ?_
  have hrec : recoverD (c₀ :: cs) = some (.iface t (.agg #[.int .i64 n]), { c₀ with mode := .panicking [{ v := .iface t (.agg #[.int .i64 n]), recovered := true }] } :: cs) := by simp [recoverD, hm0, chainOf]
  rw [hrec]
  simp only
  show Code.wpS P _ _ _ _ _
  refine wpS_of_wp (wp_block (wp_seq (wp_region_list ?_)))
  rw [h0.2.1]
  generalize hx : Value.iface t (.agg #[.int .i64 n]) = x
  refine wpOne h3.2.2 (run_eqlIface hI (eval_put (by rw [hsz]; decide)) (.inr ⟨_, _, hx.symm⟩) h3.1) ?_
  rw [h3.2.1]
  rw [show isNilI x = false from by rw [← hx]; rfl]
  refine wp_cond_false (eval_put (by rw [size_put, hsz]; decide)) (wp_seq (wp_region_list ?_))
  have hu : ∀ w, (underlying t).run P w = .ok (.struct fs) w := fun w => Go.run_underlying ht w
  refine wpOne (v := .tuple #[.agg #[.int .i64 n], .bool true]) (w' := w) h5.2.2 ?_ ?_
  · unfold execOp
    rw [h5.1]
    refine run_v ?_
    show (Instr.typeAssert (Act.eval _ (.tmp 5)) I t true).run P w = _
    rw [eval_put_ne (by decide), eval_put (by rw [hsz]; decide), ← hx]
    unfold Instr.typeAssert
    simp only [Sem.run_bind, hu, Result.andThen, if_true]
    rfl
  rw [h5.2.1]
  refine wpOne (v := .bool true) (w' := w) h6.2.2 ?_ ?_
  · unfold execOp
    rw [h6.1]
    refine run_v ?_
    show (Instr.extract (Act.eval _ (.tmp 8)) 1).run P w = _
    rw [eval_put (by rw [size_put, size_put, hsz]; decide)]
    rfl
  rw [h6.2.1]
  refine wpOne (v := .agg #[.int .i64 n]) (w' := w) h7.2.2 ?_ ?_
  · unfold execOp
    rw [h7.1]
    refine run_v ?_
    show (Instr.extract (Act.eval _ (.tmp 8)) 0).run P w = _
    rw [eval_put_ne (by decide), eval_put (by rw [size_put, size_put, hsz]; decide)]
    rfl
  rw [h7.2.1]
  refine wp_cond_true (by rw [eval_put_ne (by decide), eval_put (by rw [size_put, size_put, size_put, hsz]; decide)]) ?_
  have hC : CxOK P (dfC Θ) := ⟨hΘ, KOK.none, hmix, POK.none⟩
  generalize hA : ((((a0.put (some 5) x).put (some 7) (.bool false)).put (some 8) (.tuple #[.agg #[.int .i64 n], .bool true])).put (some 9) (.bool true)).put (some 10) (.agg #[.int .i64 n]) = aF
  have hszF : aF.tmps.size = 15 := by rw [← hA, size_put, size_put, size_put, size_put, size_put, hsz]
  have hdF : aF.defers = [] := by rw [← hA, defers_put, defers_put, defers_put, defers_put, defers_put]; exact hd0
  have h10 : aF.eval (.tmp 10) = .agg #[.int .i64 n] := by rw [← hA, eval_put (by rw [size_put, size_put, size_put, size_put, hsz]; decide)]
  have h0F : aF.eval (.tmp 0) = .pointer (some ad) := by rw [← hA, eval_put_ne (by decide), eval_put_ne (by decide), eval_put_ne (by decide), eval_put_ne (by decide), eval_put_ne (by decide), h00]
  clear hA
  refine codeT_ok (kp := nxt) hC (fun id b _ f hf => by cases hf) (base := base) (φ := φ) (fun x s hs => ?_) h ⟨fun s u c' hs => ?_, hszF, hm, hdF⟩ ?_
  · cases x <;> first | exact hk _ hs | cases hs
  · have hs : Tr.get (tmD p n) s = some (u, c') := hs
    unfold tmD at hs
    rcases Tr.get_set hs with ⟨rfl, he⟩ | ⟨_, hs⟩
    · cases he
      refine ⟨fun _ => ?_, fun e => by cases e⟩
      show VR φ ⟨.pair (.int .i64) .unit, (n, ())⟩ (aF.eval (.tmp 10))
      rw [h10]
      unfold VR
      rw [if_neg (by simp [isTup])]
      unfold V1
      rw [if_pos (show isAgg (.pair (.int .i64) .unit) = true from rfl)]
      refine ⟨_, rfl, rfl, fun i c hi => ?_⟩
      cases i with
      | zero => cases hi; exact ⟨_, rfl, CR_c0.2 rfl⟩
      | succ i => cases hi
    · rcases Tr.get_set hs with ⟨rfl, he⟩ | ⟨_, hs⟩
      · cases he
        refine ⟨fun _ => ?_, fun e => by cases e⟩
        show VR φ ⟨.ptr, some p⟩ (aF.eval (.tmp 0))
        rw [h0F]
        exact VR_ptr.2 ⟨ad, hp, rfl⟩
      · simp [Tr.get] at hs
  · intro x' e s ψ a' w' he h1 hr' hb' h4
    cases x' with
    | normal =>
      have : e = .normal := by cases e <;> simp [EX] at he; rfl
      subst this
      obtain ⟨v, hv⟩ := run_noResults (P := P) hres a'.tmps w'
      exact ⟨hr'.defers, _, rfl, v, hv, ⟨v, rfl⟩, rfl, s, ψ, h1.toLe (fun i p hp => (hm.fresh i p hp).1), hr'.mem, hb', h4⟩
    | _ => cases h4
/-! ## Functions with such a call put off -/
def endV (Θ : Tab) (fn : Func) (T : Ty) (s : St) : Option T.den := match resY Θ fn s with
  | some (v, _, c) => bif c then asT T v else none
  | none => none
def endD (Θ : Tab) (tail : Code) (t : Nat) (fn : Func) (T : Ty) (p : PA) : X → St → Option T.den := fun x s => match x with
  | .exit _ => none
  | .goto _ => none
  | .pan t' n => bif Nat.beq t' t && s.ok then codeT (dfC Θ) tail ⟨tmD p n, 15, s.mem, s.nxt, true⟩ (dfK fun s2 => bif s2.ok then endV Θ fn T ⟨s.tm, s.n, s2.mem, s2.nxt, true⟩ else none) else none
  | _ => endV Θ fn T s
def headD (q kp : Nat) {ρ : Type} (k : PA → St → Option ρ) : X → St → Option ρ := fun x s => match x with
  | .normal => match s.tm.get q with
    | some (⟨.ptr, some p⟩, true) => bif Nat.blt p.id kp then k p s else none
    | _ => none
  | _ => none
/-- a function's text: what comes first, the call that is put off, the rest -/
def dfHead : Option Code → Option (Code × Nat × Nat × Code)
  | some (.seq r0 (.seq (.region _ ops false) rest)) => match ops.toList with
    | [⟨none, .defer ⟨.value (.func g), args, _⟩, _, _, _, none⟩] => match args.toList with
      | [.tmp q] => some (r0, g, q, rest)
      | _ => none
    | _ => none
  | _ => none
def fnD (C : Cx) (g : Nat) (tail : Code) (t kp : Nat) (fn : Func) (T : Ty) (args : List V) : Option T.den :=
  match dfHead fn.body with
  | some (r0, g', q, rest) => bif Nat.beq g' g && (Nat.ble args.length fn.ntmps && args.all valV) then
      codeT C r0 ⟨putArgs args 0 .lf, fn.ntmps, [], 0, true⟩ (headD q kp fun p s => codeT C rest s (endD C.Θ tail t fn T p)) else none
  | none => none
theorem endV_mono {Θ : Tab} {fn : Func} {T : Ty} {s : St} {r : T.den} (h : endV Θ fn T s = some r) : s.ok = true := by
  unfold endV at h
  split at h
  · rename_i v s' c hres
    cases hk : c <;> rw [hk] at h hres
    · cases h
    · exact resY_okk hres
  · cases h
theorem endD_mono {Θ : Tab} {tail : Code} {t : Nat} {fn : Func} {T : Ty} {p : PA} {x : X} {s : St} {r : T.den} (h : endD Θ tail t fn T p x s = some r) : s.ok = true := by
  unfold endD at h
  split at h
  · cases h
  · cases h
  · rename_i t' n
    cases hb : (Nat.beq t' t && s.ok) <;> rw [hb] at h
    · cases h
    · exact (and_split hb).2
  · exact endV_mono h
theorem fnD_ok {P : Program} {C : Cx} (hC : CxOK P C) {fn : Func} {f : Nat} (hf : P.funcs[f]? = some fn) {g : Nat} {gfn : Func} (hg : P.funcs[g]? = some gfn) (hcg : ∀ args w, (callFunc g args).run P w = .ok (.enter g args) w) {t : Nat} {tail : Code} (hT : DfText P gfn t tail) {kp : Nat}
    (hL : ∀ r0 g q rest, dfHead fn.body = some (r0, g, q, rest) → LOK P C 0 r0 ∧ ∀ D : DefL, @LOK D P C kp rest) {T : Ty} {args : List V} {r : T.den} (h : fnD C g tail t kp fn T args = some r) : PureOK P f args ⟨T, r⟩ := by
  intro φ w xs hI hA
  unfold fnD at h
  split at h
  · rename_i r0 g' q rest hd
    obtain ⟨hL0, hLr⟩ := hL _ _ _ _ hd
    cases hb : (Nat.beq g' g && (Nat.ble args.length fn.ntmps && args.all valV)) <;> rw [hb] at h
    · cases h
    simp only [cond_true] at h
    obtain ⟨hgb, hb9⟩ := and_split hb
    have hgb := Nat.eq_of_beq_eq_true hgb
    subst hgb
    unfold dfHead at hd
    split at hd
    · rename_i r0' i1 ops rest' hbody
      split at hd
      · rename_i g2 dargs dts dty dpos daft hops
        split at hd
        · rename_i q' hda
          simp only [Option.some.injEq, Prod.mk.injEq] at hd
          obtain ⟨rfl, rfl, rfl, rfl⟩ := hd
          have eops : ops = #[⟨none, .defer ⟨.value (.func g2), dargs, dts⟩, dty, dpos, daft, none⟩] := by apply Array.ext'; simpa using hops
          have eda : dargs = #[.tmp q'] := by apply Array.ext'; simpa using hda
          subst eops; subst eda
          have hm0 : ∀ x s, headD q' kp (fun p s => codeT C rest' s (endD C.Θ tail t fn T p)) x s = some r → s.ok = true := by
            intro x s hs
            unfold headD at hs
            split at hs
            · split at hs
              · rename_i p _
                cases hlt : Nat.blt p.id kp <;> rw [hlt] at hs
                · cases hs
                · exact codeT_mono hC (hLr DefL.none) (fun x s h => endD_mono h) hs
              · cases hs
            · cases hs
          refine calls_of_wp_defers hf hbody (wp_seq (codeT_ok hC hL0 (base := w.heap.size) (φ := φ.bare w.heap.size) hm0 h (start_ok hI hA hb9) ?_))
          intro x e s φ1 a1 w1 he h1 hr1 hb1 hs
          unfold headD at hs
          split at hs
          rotate_left
          · cases hs
          have : e = .normal := by cases e <;> simp [EX] at he; rfl
          subst this
          split at hs
          rotate_left
          · cases hs
          rename_i p hq
          cases hlt : Nat.blt p.id kp <;> rw [hlt] at hs
          · cases hs
          simp only [cond_true] at hs
          have hlt : p.id < kp := Nat.le_of_ble_eq_true hlt
          obtain ⟨ad, had, hav⟩ := VR_ptr.1 ((hr1.tm q' _ _ hq).1 rfl)
          have h1 := h1.toLe (fun i p hp => by cases hp)
          show (Code.seq _ rest').wp P _ a1 w1
          refine wp_seq (wp_region_list ?_)
          let d : Deferred := { target := .fn (.func g2) #[], args := #[.pointer (some ad)] }
          have hdf : a1.defers = [] := hr1.defers
          have hex : (execOp a1.eval ⟨none, .defer ⟨.value (.func g2), #[.tmp q'], dts⟩, dty, dpos, daft, none⟩).run P w1 = .ok (.defer d) w1 := by
            have e1 : a1.eval (.tmp q') = .pointer (some ad) := hav
            have e2 : a1.eval (.func g2) = .func (.func g2) #[] #[] := rfl
            simp only [execOp, resolve, e2, Deferred.ofValue, Sem.run_bind, Sem.run_pure, Result.andThen, List.map_toArray, List.map_cons, List.map_nil, e1]
            rfl
          show wpList P _ _ [_] a1 w1
          rw [wpList, if_pos (by rfl)]
          refine .inl ?_
          unfold Oper.wp
          rw [hex]
          show Code.wp P rest' _ { a1 with defers := d :: a1.defers } w1
          rw [hdf]
          have ht1 := hr1.tm
          have hn1 := hr1.n
          have hm1 := hr1.mem
          letI D : DefL := ⟨[d]⟩
          have hcc : ∀ w, (invoke (.fn (.func g2) #[]) #[.pointer (some ad)]).run P w = .ok (.enter g2 #[.pointer (some ad)]) w := fun w => hcg _ _
          refine @codeT_ok D _ P C hC r kp rest' (hLr D) s (endD C.Θ tail t fn T p) w.heap.size φ1 { a1 with defers := [d] } w1 _ (fun x s h => endD_mono h) hs ⟨ht1, hn1, hm1, rfl⟩ ?_
          intro x e s2 φ2 a2 w2 he h2 hr2 hb2 h4
          have hdf2 : a2.defers = [d] := hr2.defers
          have had2 : addr φ2 p = some ad := by
            unfold addr at had ⊢
            cases hp : φ1 p.id with
            | none => rw [hp] at had; cases had
            | some ph => rw [hp] at had; rw [h2.ad p.id ph hlt hp]; exact had
          have hle2 : (φ.bare w.heap.size).le φ2 := (Phi.leK_trans (kp := 0) h1.toK ⟨fun i p hi _ => absurd hi (Nat.not_lt_zero _), h2.imm, h2.new, h2.lo⟩).toLe (fun i p hp => by cases hp)
          have fin : ∀ (s3 : St) (φ3 : Phi) (w3 : World), φ2.le φ3 → Rel w.heap.size φ3 s3 a2 w3 → Below w.heap.size w2 w3 → endV C.Θ fn T s3 = some r → Leaves P fn a2.tmps (fun e w' => ∃ ψ m n x, e = .returned x ∧ (φ.bare w.heap.size).le ψ ∧ MemRel w.heap.size ψ m n w' ∧ VR ψ ⟨T, r⟩ x ∧ Below w.heap.size w w') [] .returning w3 := by
            intro s3 φ3 w3 g1 g2 g3 g4
            unfold endV at g4
            split at g4
            · rename_i v s' cc hres
              cases hk : cc <;> rw [hk] at g4 hres
              · cases g4
              · simp only [cond_true] at g4
                have hv := asT_eq g4
                subst hv
                obtain ⟨χ, hχ, hr3, _, z, hrun, hz⟩ := resY_ok hC.Θ g2 hres
                exact ⟨z, hrun, χ, _, _, _, rfl, Phi.le_trans (Phi.le_trans hle2 g1) hχ, hr3.mem, hz, ((hb1.trans hb2).trans g3)⟩
            · cases g4
          have ret : endV C.Θ fn T s2 = some r → Leaves P fn a2.tmps (fun e w' => ∃ ψ m n x, e = .returned x ∧ (φ.bare w.heap.size).le ψ ∧ MemRel w.heap.size ψ m n w' ∧ VR ψ ⟨T, r⟩ x ∧ Below w.heap.size w w') a2.defers .returning w2 := by
            intro h4
            rw [hdf2]
            refine leaves_cons (by simp) (hcc w2) ((caught_ret hg hT).mono ?_)
            rintro e u' w' ⟨⟨v, rfl⟩, rfl, rfl⟩
            exact fin s2 φ2 _ (Phi.le_refl _) hr2 (Below.refl _ _) h4
          rcases EX_of he with ⟨rfl, rfl⟩ | ⟨j, rfl, rfl⟩ | ⟨rfl, rfl⟩ | ⟨j, rfl, rfl⟩ | ⟨t', n, rfl, rfl⟩
          · exact ret h4
          · cases h4
          · exact ret h4
          · cases h4
          · simp only [endD] at h4
            cases hb2 : (Nat.beq t' t && s2.ok) <;> rw [hb2] at h4
            · cases h4
            simp only [cond_true] at h4
            have := Nat.eq_of_beq_eq_true (and_split hb2).1
            subst this
            show Leaves P fn a2.tmps _ a2.defers (.panicking (chainOf t' n)) w2
            rw [hdf2]
            refine leaves_cons (by simp) (hcc w2) ((caught_pan hC.Θ hC.mix hg hT (k := fun s3 => bif s3.ok then endV C.Θ fn T ⟨s2.tm, s2.n, s3.mem, s3.nxt, true⟩ else none) (fun s hs => ?_) hr2.mem had2 h4).mono ?_)
            · cases hk : s.ok with
              | true => rfl
              | false => rw [hk] at hs; cases hs
            · rintro e u' w' ⟨⟨v, rfl⟩, hu, s3, φ3, g1, g2, g3, g4⟩
              show Leaves P fn a2.tmps _ [] (settle u') w'
              rw [hu]
              cases hk : s3.ok <;> rw [hk] at g4
              · cases g4
              · exact fin ⟨s2.tm, s2.n, s3.mem, s3.nxt, true⟩ φ3 w' g1 ⟨TmR_mono g1 hr2.tm, hr2.n, g2, hr2.defers⟩ g3 g4
        · cases hd
      · cases hd
    · cases hd
  · cases h
def restD (fn : Func) : Code := match dfHead fn.body with | some (_, _, _, r) => r | none => .skip
def headC (fn : Func) : Code := match dfHead fn.body with | some (r, _, _, _) => r | none => .skip
theorem LOK.df {P : Program} {C : Cx} {kp : Nat} {fn : Func} (h0 : (blocksOf (headC fn)).isEmpty = true) (hL : ∀ D : DefL, @LOK D P C kp (restD fn)) : ∀ r0 g q rest, dfHead fn.body = some (r0, g, q, rest) → LOK P C 0 r0 ∧ ∀ D : DefL, @LOK D P C kp rest := by
  intro r0 g q rest h
  unfold headC at h0
  unfold restD at hL
  rw [h] at h0 hL
  refine ⟨fun id b hb => ?_, hL⟩
  rw [List.isEmpty_iff.1 h0] at hb
  cases hb
theorem PureOK.ofD {P : Program} {C : Cx} (hC : CxOK P C) {fn : Func} {f : Nat} (hf : P.funcs[f]? = some fn) {g : Nat} {gfn : Func} (hg : P.funcs[g]? = some gfn) (hcg : ∀ args w, (callFunc g args).run P w = .ok (.enter g args) w) {t : Nat} {tail : Code} (hT : DfText P gfn t tail) {kp : Nat}
    (h0 : (blocksOf (headC fn)).isEmpty = true) (hL : ∀ D : DefL, @LOK D P C kp (restD fn)) {ts : List Ty} {T : Ty} {S : AD ts → Option T.den} (h : ∀ x, fnD C g tail t kp fn T (mkA ts x) = S x) :
    ∀ x, (S x).isSome = true → PureOK P f (mkA ts x) ⟨T, (S x).getD (dflt T)⟩ := by
  intro x hk
  cases hs : S x with
  | none => rw [hs] at hk; cases hk
  | some y => exact fnD_ok hC hf hg hcg hT (LOK.df h0 hL) ((h x).trans hs)
end Go.GX

namespace Go.GX
set_option linter.unusedSimpArgs false
set_option linter.unusedVariables false
set_option linter.unusedSectionVars false
open Go.RowKit
open Go.ChangeShapes Go.WideShapes Go.ChangeAt
open Go.ChangeMaps (open_string shut_string)

/-! ## Arguments with slices, read as values -/
/-- kinds of arguments -/
def argT : Ty → Bool
  | .bool | .int _ | .str | .unit => true
  | .pair a b => argT a && argT b
  | .arr _ e => argT e
  | .vsl e => argT e && Nat.blt 0 (size e)
  | _ => false
/-- what is true of what came in -/
def WFv : (t : Ty) → t.den → Prop
  | .int k, n => (Lit.int k n).wf = true
  | .str, s => s.length ≤ maxLen
  | .pair a b, x => WFv a x.1 ∧ WFv b x.2
  | .arr n e, x => x.length = n ∧ ∀ y ∈ x, WFv e y
  | .vsl e, x => x.length ≤ maxLen ∧ ∀ y ∈ x, WFv e y
  | _, _ => True
/-- nothing longer than n -/
def SZ (n : Nat) : (t : Ty) → t.den → Prop
  | .str, s => s.length ≤ n
  | .pair a b, x => SZ n a x.1 ∧ SZ n b x.2
  | .arr _ e, x => ∀ y ∈ x, SZ n e y
  | .vsl e, x => x.length ≤ n ∧ ∀ y ∈ x, SZ n e y
  | _, _ => True
/-- a measure of what is read -/
structure Bulk {H : Type} (B : DataW H → Nat) : Prop where
  str : ∀ s, s.length ≤ B (.lit (.string s))
  slice : ∀ e r, e.length ≤ B (.slice e r)
  elem : ∀ e r, ∀ d ∈ e, B d ≤ B (.slice e r)
  part : ∀ l, ∀ d ∈ l, B d ≤ B (.agg l)
section
variable {H : Type} {enc : TypeId × Value → H} {P : Program} {w : World} {base : Nat} {spare : Nat → Bool} {held : Bool} {Θ : Tab} {B : DataW H → Nat}
theorem cells_block {a : Addr} {n : Nat} {cs : List Value} (h : w.cells? base a n = some cs) (hn : 0 < n) : a.spot = none ∧ ∃ os el fr, w.heap[a.block]? = some (.cells os el fr) ∧ ∀ i, i < n → os[a.off + i]? = cs[i]? := by
  obtain ⟨_, hl, hc⟩ := World.cells?_some h
  have hat : ∀ i, i < n → ∃ os el fr, w.heap[a.block]? = some (.cells os el fr) ∧ (i = 0 → a.spot = none) ∧ os[a.off + i]? = cs[i]? := by
    intro i hi
    have h1 := hc i hi
    rw [List.getElem?_eq_getElem (by omega)] at h1
    unfold World.cell? at h1
    by_cases h0 : i = 0
    · subst h0
      simp only [Addr.add, if_true] at h1
      split at h1
      · rename_i os el fr hh
        split at h1
        · cases h1
        · rename_i hs
          refine ⟨os, el, fr, hh, fun _ => by simpa using hs, ?_⟩
          rw [List.getElem?_eq_getElem (by omega)]; exact h1
      · cases h1
    · simp only [Addr.add, if_neg h0] at h1
      split at h1
      · rename_i os el fr hh
        simp at h1
        refine ⟨os, el, fr, hh, fun e => absurd e h0, ?_⟩
        rw [List.getElem?_eq_getElem (by omega)]; simpa using h1
      · cases h1
  obtain ⟨os, el, fr, h1, h2, h3⟩ := hat 0 hn
  refine ⟨h2 rfl, os, el, fr, h1, fun i hi => ?_⟩
  obtain ⟨os', el', fr', h1', _, h3'⟩ := hat i hi
  rw [h1] at h1'; cases h1'
  exact h3'
theorem fields_val (hΘ : TabOK P Θ) {fuel : Nat} {φ : Phi} {D : List (DataW H)} (ih : ∀ t ti cs d ps, Θ t = some ti → argT ti.ty = true → DataW.trod enc P w base spare held fuel t cs = some (d, ps) → ∃ x : ti.ty.den, WFv ti.ty x ∧ (∀ n, B d ≤ n → SZ n ti.ty x) ∧ CL φ (flat ti.ty x) cs) {cs : List Value} :
    ∀ {ty : Ty} {o : Nat} {fs : List Field}, structOK Θ ty o fs = true → argT ty = true → o + size ty = cs.length → (∀ f ∈ fs, ∃ r, DataW.trod enc P w base spare held fuel f.type ((cs.drop f.offset).take (P.cellsOf f.type)) = some r ∧ r.1 ∈ D) →
      ∃ x : ty.den, WFv ty x ∧ (∀ n, (∀ d ∈ D, B d ≤ n) → SZ n ty x) ∧ CL φ (flat ty x) (cs.drop o)
  | .unit, o, [], _, _, hl, _ => ⟨(), trivial, fun _ _ => trivial, by
      have : cs.drop o = [] := by simp only [size] at hl; exact List.drop_of_length_le (by omega)
      rw [this]; exact ⟨rfl, fun i c hi => by simp [flat] at hi⟩⟩
  | .pair a b, o, f :: fs, hs, hp, hl, hall => by
    simp only [structOK, Bool.and_eq_true] at hs
    obtain ⟨⟨h1, h2⟩, h3⟩ := hs
    have h1 := Nat.eq_of_beq_eq_true h1
    simp only [argT, Bool.and_eq_true] at hp
    split at h2
    · rename_i tf htf
      simp only [Bool.and_eq_true, decide_eq_true_eq] at h2
      obtain ⟨h2, _⟩ := h2
      have h2 := fldOK_ne h2 (fun e => by subst e; simp [argT] at hp)
      subst h2
      obtain ⟨⟨d, ps⟩, hr, hD⟩ := hall f (by simp)
      rw [cellsOf_eq hΘ htf, h1] at hr
      obtain ⟨x, hx, hxs, hxc⟩ := ih _ _ _ _ _ htf hp.1 hr
      simp only [size] at hl
      obtain ⟨y, hy, hys, hyc⟩ := fields_val hΘ ih h3 hp.2 (by omega) (fun g hg => hall g (by simp [hg]))
      refine ⟨(x, y), ⟨hx, hy⟩, fun n hn => ⟨hxs n (hn _ hD), hys n hn⟩, ?_⟩
      have : cs.drop o = (cs.drop o).take (size tf.ty) ++ cs.drop (o + size tf.ty) := by
        rw [← List.drop_drop, List.take_append_drop]
      rw [this, flat]
      exact CL_append hxc hyc
    · cases h2
/-- a row of values, out of as many readings -/
theorem row_val {e : Ty} {φ : Phi} {D : List (DataW H)} {rd : Nat → Option (List Value)} {n : Nat} (h : ∀ k, k < n → ∃ cs d, rd k = some cs ∧ d ∈ D ∧ ∃ x : e.den, WFv e x ∧ (∀ m, B d ≤ m → SZ m e x) ∧ CL φ (flat e x) cs) :
    ∀ k, k ≤ n → ∃ l : List e.den, l.length = k ∧ (∀ y ∈ l, WFv e y) ∧ (∀ m, (∀ d ∈ D, B d ≤ m) → ∀ y ∈ l, SZ m e y) ∧ ∀ i, i < k → ∃ cs, rd i = some cs ∧ CL φ (flat e (l.getD i (dflt e))) cs := by
  intro k
  induction k with
  | zero => intro _; exact ⟨[], rfl, fun y hy => (by cases hy), fun m _ y hy => (by cases hy), fun i hi => (by omega)⟩
  | succ k ih =>
    intro hk
    obtain ⟨l, hl, hw, hs, hc⟩ := ih (by omega)
    obtain ⟨cs, d, hr, hd, x, hx, hxs, hxc⟩ := h k (by omega)
    refine ⟨l ++ [x], by simp [hl], fun y hy => ?_, fun m hm y hy => ?_, fun i hi => ?_⟩
    · rcases List.mem_append.1 hy with hy | hy
      · exact hw y hy
      · simp at hy; subst hy; exact hx
    · rcases List.mem_append.1 hy with hy | hy
      · exact hs m hm y hy
      · simp at hy; subst hy; exact hxs m (hm d hd)
    · by_cases hik : i < k
      · obtain ⟨cs', h1, h2⟩ := hc i hik
        refine ⟨cs', h1, ?_⟩
        rw [show (l ++ [x]).getD i (dflt e) = l.getD i (dflt e) by simp [List.getD, List.getElem?_append_left (show i < l.length by omega)]]
        exact h2
      · obtain rfl : i = k := by omega
        refine ⟨cs, hr, ?_⟩
        rw [show (l ++ [x]).getD i (dflt e) = x by simp [List.getD, ← hl]]
        exact hxc
/-- rows that follow one another are a row -/
theorem row_cells {e : Ty} {φ : Phi} {l : List e.den} {os : List Value} {o n : Nat} (h : ∀ i, i < n → ∃ cs, CL φ (flat e (l.getD i (dflt e))) cs ∧ ∀ j, j < size e → os[o + i * size e + j]? = cs[j]?) :
    ∀ (k : Nat) c, ((List.range n).flatMap fun i => flat e (l.getD i (dflt e)))[k]? = some c → ∃ v, os[o + k]? = some v ∧ CR φ c v := by
  induction n with
  | zero => intro k c hk; simp at hk
  | succ n ih =>
    intro k c hk
    rw [List.range_succ, List.flatMap_append] at hk
    have hlen : ((List.range n).flatMap fun i => flat e (l.getD i (dflt e))).length = n * size e := by
      exact length_flatMap_const _ _ (fun i => length_flat _ _) n
    by_cases hlt : k < n * size e
    · rw [List.getElem?_append_left (by omega)] at hk
      exact ih (fun i hi => h i (by omega)) k c hk
    · rw [List.getElem?_append_right (by omega), hlen] at hk
      simp only [List.flatMap_cons, List.flatMap_nil, List.append_nil] at hk
      obtain ⟨cs, h1, h2⟩ := h n (by omega)
      have hj : k - n * size e < size e := by
        have := (List.getElem?_eq_some_iff.1 hk).1
        rw [length_flat] at this; exact this
      obtain ⟨v, hv, hr⟩ := h1.2 _ c hk
      refine ⟨v, ?_, hr⟩
      rw [← h2 _ hj] at hv
      rw [show o + k = o + n * size e + (k - n * size e) by omega]
      exact hv
theorem trod_val (hB : Bulk B) (hΘ : TabOK P Θ) : ∀ (fuel : Nat) t ti cs d ps, Θ t = some ti → argT ti.ty = true → DataW.trod enc P w base spare held fuel t cs = some (d, ps) → ∃ x : ti.ty.den, WFv ti.ty x ∧ (∀ n, B d ≤ n → SZ n ti.ty x) ∧ CL (Phi.ofW w) (flat ti.ty x) cs := by
  intro fuel
  induction fuel with
  | zero => intro t ti cs d ps _ _ h; simp [DataW.trod] at h
  | succ fuel ih =>
    intro t ti cs d ps ht hp h
    have hT := hΘ.get ht
    obtain ⟨dd, hd, hdu, _⟩ := hT.run_underlying
    have hcell := cellsOf_eq hΘ ht
    cases hty : ti.ty with
    | bool =>
      have := desc_bool hd hty
      subst this
      obtain ⟨b, rfl, _⟩ := DataW.trod_bool hdu h
      exact ⟨b, trivial, fun _ _ => trivial, CL_single rfl⟩
    | int k =>
      have := desc_int hd hty
      subst this
      obtain ⟨n, rfl, _, hw⟩ := DataW.trod_int hdu h
      exact ⟨n, hw, fun _ _ => trivial, CL_single rfl⟩
    | str =>
      have := desc_str hd hty
      subst this
      obtain ⟨s, rfl, hx, hw⟩ := DataW.trod_string hdu h
      cases hx
      refine ⟨s.data.toList, by show s.data.toList.length ≤ maxLen; simpa using hw, fun n hn => Nat.le_trans (hB.str _) hn, CL_single ?_⟩
      show Value.string s = .string ⟨s.data.toList.toArray⟩
      cases s; simp
    | unit =>
      cases dd <;> simp only [descOK, Bool.and_eq_true, decide_eq_true_eq, Bool.false_eq_true] at hd <;> first | (rw [hd] at hty; cases hty; done) | (rw [hd.1] at hty; cases hty; done) | (have hd := hd.1; rw [hty] at hd; simp [slT] at hd; done) | skip
      · obtain ⟨_, hd⟩ := hd
        split at hd
        · simp only [Bool.and_eq_true, decide_eq_true_eq] at hd
          rw [hd.1] at hty; cases hty
        · cases hd
      · obtain ⟨xs, n, _, _, hl, _⟩ := DataW.trod_struct hdu h
        rw [hcell, hty] at hl
        have : cs = [] := List.length_eq_zero_iff.1 hl
        subst this
        exact ⟨(), trivial, fun _ _ => trivial, ⟨rfl, fun i c hi => by simp [flat] at hi⟩⟩
    | pair a b =>
      obtain ⟨fs, rfl, hso⟩ := desc_struct hd (by rw [hty]; rfl)
      obtain ⟨xs, n, hn, hxd, hl, hxl, hall⟩ := DataW.trod_struct hdu h
      cases hn; cases hxd
      rw [hcell, hty] at hl
      rw [hty] at hso hp
      obtain ⟨x, hx, hxs, hxc⟩ := fields_val (B := B) (enc := enc) (w := w) (base := base) (spare := spare) (held := held) (D := xs.map (·.1)) hΘ ih (cs := cs) hso hp (by omega) (fun f hf => by
        obtain ⟨i, hi⟩ := List.getElem?_of_mem hf
        have hlt : i < fs.size := by have := (List.getElem?_eq_some_iff.1 hi).1; simpa using this
        exact ⟨_, (hall i f (by simpa using hi)).trans (List.getElem?_eq_getElem (by omega)), List.mem_map.2 ⟨_, List.getElem_mem (by omega), rfl⟩⟩)
      exact ⟨x, hx, fun n hn => hxs n (fun d hd => Nat.le_trans (hB.part _ d hd) hn), by simpa using hxc⟩
    | arr n e =>
      obtain ⟨e', te, rfl, hte, rfl⟩ := desc_arr hd hty
      obtain ⟨xs, m, hm, hxd, hl, hxl, hall⟩ := DataW.trod_array hdu h
      cases hm; cases hxd
      rw [hcell, hty] at hl
      rw [hty] at hp
      have hce := cellsOf_eq hΘ hte
      obtain ⟨l, hll, hlw, hls, hlc⟩ := row_val (B := B) (e := te.ty) (φ := Phi.ofW w) (D := xs.map (·.1)) (rd := fun k => some ((cs.drop (k * size te.ty)).take (size te.ty))) (n := n) (fun k hk => by
        have hr := hall k (by omega)
        rw [List.getElem?_eq_getElem (show k < xs.length by omega), hce] at hr
        exact ⟨_, _, rfl, List.mem_map.2 ⟨_, List.getElem_mem (by omega), rfl⟩, ih _ _ _ _ _ hte hp hr⟩) n (Nat.le_refl _)
      refine ⟨l, ⟨hll, hlw⟩, fun n hn => hls n (fun d hd => Nat.le_trans (hB.part _ d hd) hn), ?_⟩
      refine ⟨by rw [length_flat, hl], fun k c hk => ?_⟩
      have := row_cells (e := te.ty) (φ := Phi.ofW w) (l := l) (os := cs) (o := 0) (n := n) (fun i hi => by
        obtain ⟨cs', h1, h2⟩ := hlc i hi
        cases h1
        refine ⟨_, h2, fun j hj => ?_⟩
        rw [List.getElem?_take, if_pos hj, List.getElem?_drop, Nat.zero_add]) k c hk
      simpa using this
    | vsl e =>
      obtain ⟨e', te, hdd, hte, hteq, hsub⟩ : ∃ e' te, dd = .slice e' ∧ Θ e' = some te ∧ te.ty = e ∧ ti.sub = [e'] := by
        obtain ⟨e', he, hs⟩ := desc_slice hd (by rw [hty]; rfl)
        subst he
        simp only [descOK, Bool.and_eq_true, decide_eq_true_eq, slOK, hty] at hd
        obtain ⟨_, hd, _⟩ := hd
        split at hd
        · rename_i te hte
          simp only [Bool.and_eq_true, decide_eq_true_eq] at hd
          exact ⟨e', te, rfl, hte, hd.1, hs⟩
        · cases hd
      subst hdd; subst hteq
      rw [hty] at hp
      simp only [argT, Bool.and_eq_true] at hp
      have hpos : 0 < size te.ty := Nat.lt_of_lt_of_le Nat.zero_lt_one (Nat.le_of_ble_eq_true hp.2)
      have hce := cellsOf_eq hΘ hte
      rcases DataW.trod_slice hdu h with ⟨rfl, hx⟩ | ⟨a, len, cap, elems, rest, n, hfu, rfl, hx, hb, hle, hm, hlen, hel, _, _⟩
      · cases hx
        refine ⟨([] : List te.ty.den), ⟨Nat.zero_le _, fun y hy => (by cases hy)⟩, fun n _ => ⟨Nat.zero_le _, fun y hy => (by cases hy)⟩, CL_single ?_⟩
        unfold CR; exact .inl ⟨rfl, rfl⟩
      · cases hfu; cases hx
        have hread : ∀ k, k < len → ∃ cs', w.cells? base (a.add (k * size te.ty)) (size te.ty) = some cs' ∧ ∃ d ps, DataW.trod enc P w base spare held fuel e' cs' = some (d, ps) ∧ d ∈ elems.map (·.1) := by
          intro k hk
          have h1 := hel k hk
          rw [List.getElem?_eq_getElem (by omega), hce, Option.bind_eq_some_iff] at h1
          obtain ⟨cs', h2, h3⟩ := h1
          exact ⟨cs', h2, _, _, h3, List.mem_map.2 ⟨_, List.getElem_mem (by omega), rfl⟩⟩
        obtain ⟨l, hll, hlw, hls, hlc⟩ := row_val (B := B) (e := te.ty) (φ := Phi.ofW w) (D := elems.map (·.1)) (rd := fun k => w.cells? base (a.add (k * size te.ty)) (size te.ty)) (n := len) (fun k hk => by
          obtain ⟨cs', h1, d, ps, h2, h3⟩ := hread k hk
          exact ⟨cs', d, h1, h3, ih _ _ _ _ _ hte hp.1 h2⟩) len (Nat.le_refl _)
        refine ⟨l, ⟨by rw [hll]; omega, hlw⟩, fun n hn => ⟨?_, hls n (fun d hd => Nat.le_trans (hB.elem _ _ d hd) hn)⟩, CL_single ?_⟩
        · have := hB.slice (elems.map (·.1)) (rest.map (·.1))
          rw [List.length_map, hlen] at this
          omega
        · unfold CR
          refine .inr ⟨a, cap, by rw [hll], by rw [hll]; exact hle, fun h0 => ?_⟩
          have h0 : 0 < len := by rw [hll] at h0; omega
          obtain ⟨cs0, hc0, _⟩ := hread 0 h0
          rw [Nat.zero_mul, show a.add 0 = a from rfl] at hc0
          obtain ⟨hsp, os, el, fr, hblk, _⟩ := cells_block hc0 hpos
          refine ⟨hsp, os, el, fr, hblk, CRs_iff.2 fun k c hk => ?_⟩
          rw [hll] at hk
          obtain ⟨v, hv, hr⟩ := row_cells (e := te.ty) (φ := Phi.ofW w) (l := l) (os := os.toList) (o := a.off) (n := len) (fun i hi => by
            obtain ⟨cs', h1, h2⟩ := hlc i hi
            obtain ⟨_, os', el', fr', hb', hc'⟩ := cells_block h1 hpos
            have e1 : (a.add (i * size te.ty)).block = a.block := by unfold Addr.add; split <;> rfl
            have e2 : (a.add (i * size te.ty)).off = a.off + i * size te.ty := by
              unfold Addr.add
              split
              · rename_i hz; rw [hz]; rfl
              · rfl
            rw [e1, hblk] at hb'; cases hb'
            refine ⟨cs', h2, fun j hj => ?_⟩
            have := hc' j hj
            rw [e2] at this
            simpa using this) k c hk
          exact ⟨v, by rw [List.getElem?_drop]; exact hv, hr⟩
    | tnil => have := hT.tup; rw [hty] at this; simp [isTup] at this
    | tup a b => have := hT.tup; rw [hty] at this; simp [isTup] at this
    | _ => rw [hty] at hp; simp [argT] at hp

/-- an argument -/
theorem open_val (hB : Bulk B) (hΘ : TabOK P Θ) {r : Reach} {b0 : Nat} {t : Nat} {ti : TI} {v : Value} {d : DataW H} {ps : List MemPlace} (ht : Θ t = some ti) (hp : argT ti.ty = true) (hval : Value.okWide P w r b0 t v)
    (hd : DataW.Trod enc P w base spare held t v d ps) : ∃ x : ti.ty.den, WFv ti.ty x ∧ (∀ n, B d ≤ n → SZ n ti.ty x) ∧ VR (Phi.ofW w) ⟨ti.ty, x⟩ v := by
  obtain ⟨fuel, hf⟩ := hd
  obtain ⟨x, hx, hs, hcl⟩ := trod_val hB hΘ fuel t ti _ d ps ht hp hf
  have hT := hΘ.get ht
  obtain ⟨dd, hdd, hdu, _⟩ := hT.run_underlying
  refine ⟨x, hx, hs, VR_of_V1 hT.tup ?_⟩
  have hag := desc_agg hdd
  by_cases ha : GX.isAgg ti.ty = true
  · rw [ha] at hag
    have : ∃ cs, v = .agg cs := by
      unfold Value.okWide at hval
      rw [hdu] at hval
      cases dd <;> simp [aggD] at hag
      · obtain ⟨cs, e, _⟩ := hval; exact ⟨cs, e⟩
      · obtain ⟨cs, e, _⟩ := hval; exact ⟨cs, e⟩
    obtain ⟨cs, rfl⟩ := this
    exact V1_of_cells hcl ha
  · have hv1 : v.cells = #[v] := by
      cases hty : ti.ty with
      | bool =>
        have := desc_bool hdd hty
        subst this
        obtain ⟨b, rfl, _⟩ := open_bool hdu hval ⟨fuel, hf⟩
        rfl
      | int k =>
        have := desc_int hdd hty
        subst this
        obtain ⟨b, rfl, _⟩ := open_int hdu hval ⟨fuel, hf⟩
        rfl
      | str =>
        have := desc_str hdd hty
        subst this
        obtain ⟨b, rfl, _⟩ := open_string hdu hval ⟨fuel, hf⟩
        rfl
      | vsl e =>
        obtain ⟨e', he, _⟩ := desc_slice hdd (by rw [hty]; rfl)
        subst he
        obtain ⟨a, len, cap, rfl⟩ := okWide_slice hdu hval
        rfl
      | tnil => have := hT.tup; rw [hty] at this; simp [isTup] at this
      | tup a b => have := hT.tup; rw [hty] at this; simp [isTup] at this
      | unit => rw [hty] at ha; simp [GX.isAgg] at ha
      | pair a b => rw [hty] at ha; simp [GX.isAgg] at ha
      | arr n e => rw [hty] at ha; simp [GX.isAgg] at ha
      | _ => rw [hty] at hp; simp [argT] at hp
    rw [hv1] at hcl
    unfold V1
    rw [if_neg ha]
    have hl := hcl.1
    match hfl : flat ti.ty x, hl with
    | [c], _ =>
      rw [hfl] at hcl
      obtain ⟨v', hv', hr⟩ := hcl.2 0 c rfl
      simp at hv'; subst hv'
      exact ⟨c, rfl, hr⟩
    | [], hl => simp at hl
    | _ :: _ :: _, hl => simp at hl
end
end Go.GX

namespace Go.GX
set_option linter.unusedSimpArgs false
set_option linter.unusedVariables false

/-! ## Plain lemmas: whole numbers of a kind, rows, rounds -/
theorem wf_i64 {a : Int} (h : (Lit.int .i64 a).wf = true) : -9223372036854775808 ≤ a ∧ a < 9223372036854775808 := by
  simp [Lit.wf, IntKind.min, IntKind.max, IntKind.signed, IntKind.bits] at h; omega
theorem wf_u64 {a : Int} (h : (Lit.int .u64 a).wf = true) : 0 ≤ a ∧ a < 18446744073709551616 := by
  simp [Lit.wf, IntKind.min, IntKind.max, IntKind.signed, IntKind.bits] at h; omega
theorem wf_u8 {a : Int} (h : (Lit.int .u8 a).wf = true) : 0 ≤ a ∧ a < 256 := by
  simp [Lit.wf, IntKind.min, IntKind.max, IntKind.signed, IntKind.bits] at h; omega
theorem wrap_u8 (a : Int) : IntKind.wrap .u8 a = a % 256 := by simp [IntKind.wrap, IntKind.signed, IntKind.bits]
theorem wrap_u16 (a : Int) : IntKind.wrap .u16 a = a % 65536 := by simp [IntKind.wrap, IntKind.signed, IntKind.bits]
theorem wrap_u32 (a : Int) : IntKind.wrap .u32 a = a % 4294967296 := by simp [IntKind.wrap, IntKind.signed, IntKind.bits]
theorem wrap_u64 (a : Int) : IntKind.wrap .u64 a = a % 18446744073709551616 := by simp [IntKind.wrap, IntKind.signed, IntKind.bits]
theorem wrap_i8 (a : Int) : IntKind.wrap .i8 a = if a % 256 ≥ 128 then a % 256 - 256 else a % 256 := by simp [IntKind.wrap, IntKind.signed, IntKind.bits]
theorem wrap_i16 (a : Int) : IntKind.wrap .i16 a = if a % 65536 ≥ 32768 then a % 65536 - 65536 else a % 65536 := by simp [IntKind.wrap, IntKind.signed, IntKind.bits]
theorem wrap_i32 (a : Int) : IntKind.wrap .i32 a = if a % 4294967296 ≥ 2147483648 then a % 4294967296 - 4294967296 else a % 4294967296 := by simp [IntKind.wrap, IntKind.signed, IntKind.bits]
theorem wrap_i64 (a : Int) : IntKind.wrap .i64 a = if a % 18446744073709551616 ≥ 9223372036854775808 then a % 18446744073709551616 - 18446744073709551616 else a % 18446744073709551616 := by simp [IntKind.wrap, IntKind.signed, IntKind.bits]
theorem wi64 {a : Int} (h : -9223372036854775808 ≤ a ∧ a < 9223372036854775808) : IntKind.wrap .i64 a = a := by rw [wrap_i64]; split <;> omega
theorem wu64 {a : Int} (h : 0 ≤ a ∧ a < 18446744073709551616) : IntKind.wrap .u64 a = a := by rw [wrap_u64]; omega
theorem wi32 {a : Int} (h : -2147483648 ≤ a ∧ a < 2147483648) : IntKind.wrap .i32 a = a := by rw [wrap_i32]; split <;> omega
theorem wi16 {a : Int} (h : -32768 ≤ a ∧ a < 32768) : IntKind.wrap .i16 a = a := by rw [wrap_i16]; split <;> omega
theorem wu8 {a : Int} (h : 0 ≤ a ∧ a < 256) : IntKind.wrap .u8 a = a := by rw [wrap_u8]; omega
theorem wu32 {a : Int} (h : 0 ≤ a ∧ a < 4294967296) : IntKind.wrap .u32 a = a := by rw [wrap_u32]; omega
/-- shifts by a number that is known: n places, p = 2^n -/
theorem ishr_k (k : IntKind) (a y : Int) (n : Nat) (p : Int) (h : min y.toNat k.bits = n) (hp : (2 : Int) ^ n = p) : ishr k a y = a / p := by
  subst hp; subst h
  unfold ishr
  exact Int.fdiv_eq_ediv_of_nonneg _ (Int.le_of_lt (Int.pow_pos (by omega)))
theorem ishl_k (k : IntKind) (a y : Int) (n : Nat) (p : Int) (h : min y.toNat k.bits = n) (hp : (2 : Int) ^ n = p) : ishl k a y = k.wrap (a * p) := by
  subst hp; subst h; rfl
theorem wrap_mod (k : IntKind) (a : Int) : (k.wrap a) % (2 ^ k.bits : Int) = a % (2 ^ k.bits : Int) := by
  cases k <;> simp only [IntKind.wrap, IntKind.signed, IntKind.bits, Bool.false_and, Bool.true_and, decide_eq_true_eq] <;> first | (simp; done) | (simp; split <;> omega) | (split <;> omega)
theorem ofInt_mod {n : Nat} {a b : Int} (h : a % (2 ^ n : Int) = b % (2 ^ n : Int)) : BitVec.ofInt n a = BitVec.ofInt n b := by
  apply BitVec.eq_of_toNat_eq
  rw [BitVec.toNat_ofInt, BitVec.toNat_ofInt]
  congr 1
theorem ofInt_wrap (k : IntKind) (a : Int) : BitVec.ofInt k.bits (k.wrap a) = BitVec.ofInt k.bits a := ofInt_mod (wrap_mod k a)
theorem ior_wl (k : IntKind) (a b : Int) : ior k (k.wrap a) b = ior k a b := by unfold ior; rw [ofInt_wrap]
theorem ior_wr (k : IntKind) (a b : Int) : ior k a (k.wrap b) = ior k a b := by unfold ior; rw [ofInt_wrap]
theorem iand_wl (k : IntKind) (a b : Int) : iand k (k.wrap a) b = iand k a b := by unfold iand; rw [ofInt_wrap]
theorem ofInt_nat {n : Nat} {a : Int} (h0 : 0 ≤ a) (h1 : a < 2 ^ n) : (BitVec.ofInt n a).toNat = a.toNat := by
  rw [BitVec.toNat_ofInt]
  congr 1
  exact Int.emod_eq_of_lt h0 (by exact_mod_cast h1)
/-- two words that share no bit -/
theorem ior_add (k : IntKind) (x c p : Int) (n : Nat) (hp : (2 : Int) ^ n = p) (hx : 0 ≤ x ∧ x < p) (hc : 0 ≤ c) (hb : c * p + x < 2 ^ k.bits) : ior k x (c * p) = k.wrap (c * p + x) := by
  have hp0 : 0 < p := by rw [← hp]; exact Int.pow_pos (by omega)
  have hcp : 0 ≤ c * p := Int.mul_nonneg hc (Int.le_of_lt hp0)
  unfold ior
  rw [BitVec.toNat_or, ofInt_nat hx.1 (by omega), ofInt_nat hcp (by omega)]
  congr 1
  have h1 : x.toNat < 2 ^ n := by
    have : (x.toNat : Int) < ((2 ^ n : Nat) : Int) := by rw [Int.toNat_of_nonneg hx.1]; push_cast; rw [hp]; exact hx.2
    exact_mod_cast this
  have h2 : (c * p).toNat = 2 ^ n * c.toNat := by
    have : ((c * p).toNat : Int) = ((2 ^ n * c.toNat : Nat) : Int) := by
      rw [Int.toNat_of_nonneg hcp]; push_cast; rw [hp, Int.toNat_of_nonneg hc, Int.mul_comm]
    exact_mod_cast this
  rw [h2, Nat.or_comm, ← Nat.two_pow_add_eq_or_of_lt h1]
  push_cast
  rw [hp, Int.toNat_of_nonneg hc, Int.toNat_of_nonneg hx.1, Int.mul_comm]
/-- the lowest bits -/
theorem iand_low (k : IntKind) (a m p : Int) (n : Nat) (hp : (2 : Int) ^ n = p) (hm : m = p - 1) (hn : n < k.bits) : iand k a m = a % p := by
  have hp0 : 0 < p := by rw [← hp]; exact Int.pow_pos (by omega)
  have hle : (2 : Int) ^ n * 2 ≤ 2 ^ k.bits := by
    have : (2 : Nat) ^ (n + 1) ≤ 2 ^ k.bits := Nat.pow_le_pow_right (by omega) hn
    have h2 : ((2 ^ (n + 1) : Nat) : Int) ≤ ((2 ^ k.bits : Nat) : Int) := by exact_mod_cast this
    rw [Nat.pow_succ] at h2
    exact_mod_cast h2
  rw [hp] at hle
  unfold iand
  rw [BitVec.toNat_and, ofInt_nat (a := m) (by omega) (by omega)]
  have h1 : m.toNat = 2 ^ n - 1 := by
    have : ((2 ^ n : Nat) : Int) = p := by push_cast; exact hp
    omega
  rw [h1, Nat.and_two_pow_sub_one_eq_mod, BitVec.toNat_ofInt]
  have hd : p ∣ (2 : Int) ^ k.bits := by
    rw [← hp]
    have := Int.natCast_dvd_natCast.2 (Nat.pow_dvd_pow 2 (Nat.le_of_lt hn))
    push_cast at this
    exact this
  have h3 : ((((a % ((2 ^ k.bits : Nat) : Int)).toNat % 2 ^ n : Nat)) : Int) = a % p := by
    rw [Int.natCast_emod, Int.toNat_of_nonneg (Int.emod_nonneg _ (by have : (0:Nat) < 2 ^ k.bits := Nat.pow_pos (by omega); omega))]
    push_cast
    rw [hp, Int.emod_emod_of_dvd _ hd]
  rw [h3]
  have := Int.emod_lt_of_pos a hp0
  have := Int.emod_nonneg a (Int.ne_of_gt hp0)
  generalize a % p = r at *
  cases k <;> simp only [IntKind.bits] at hle <;> simp only [wrap_u8, wrap_u16, wrap_u32, wrap_u64, wrap_i8, wrap_i16, wrap_i32, wrap_i64, IntKind.wrap, IntKind.signed, IntKind.bits] <;> first | omega | (split <;> omega) | (simp; omega) | skip
end Go.GX
namespace Go.GX
theorem sec_full {α : Type} {d : α} {l : List α} {n : Nat} (h : l.length = n) : sec d l 0 n = l := by
  subst h
  unfold sec
  apply List.ext_getElem (by simp)
  intro i h1 h2
  simp [h2]
theorem sec_nil {α : Type} {d : α} {n : Nat} : sec d ([] : List α) 0 n = List.replicate n d := by
  unfold sec
  apply List.ext_getElem (by simp)
  intro i h1 h2
  simp
theorem bytesAt_full {l : List Int} {n : Nat} (h : l.length = n) : bytesAt l 0 n = bytesOf l := by
  subst h
  unfold bytesAt bytesOf
  apply List.ext_getElem (by simp)
  intro i h1 h2
  have h2 : i < l.length := by simpa using h2
  simp [h2]
theorem lset_eq {α : Type} {d : α} {l : List α} {i : Nat} {v : α} (h : i < l.length) : lset d l i v = l.set i v := by
  induction l generalizing i with
  | nil => simp at h
  | cons x l ih => cases i with
    | zero => rfl
    | succ i => rw [lset, List.set_cons_succ, ih (by simpa using h)]
/-- a loop's rounds -/
theorem wh_steps {α β : Type} {f : α → Option (α ⊕ β)} (inv : Nat → α) (n : Nat) (h : ∀ i, i < n → f (inv i) = some (.inl (inv (i + 1)))) : wh f (inv 0) = wh f (inv n) := by
  induction n with
  | zero => rfl
  | succ n ih => rw [ih (fun i hi => h i (by omega)), wh_next (h n (by omega))]
theorem whV_of {hd : List It} {ys : Ways} {f : XD hd → Option (XD hd ⊕ YD ys)} {x : XD hd} {y : YD ys} (h : wh f x = some y) : whV f x = y := by unfold whV; rw [h]; rfl
theorem whK_of {hd : List It} {ys : Ways} {f : XD hd → Option (XD hd ⊕ YD ys)} {x : XD hd} {y : YD ys} (h : wh f x = some y) : whK f x = true := by unfold whK; rw [h]; rfl
/-- all of them, or the first that is not -/
theorem first_bad (p : Nat → Bool) (n : Nat) : (∀ i, i < n → p i = true) ∨ ∃ j, j < n ∧ (∀ i, i < j → p i = true) ∧ p j = false := by
  induction n with
  | zero => exact .inl fun i hi => by omega
  | succ n ih =>
    rcases ih with h | ⟨j, h1, h2, h3⟩
    · cases hp : p n with
      | false => exact .inr ⟨n, by omega, h, hp⟩
      | true =>
        refine .inl fun i hi => ?_
        by_cases e : i = n
        · subst e; exact hp
        · exact h i (by omega)
    · exact .inr ⟨j, by omega, h2, h3⟩
theorem getD_lt {α : Type} {d : α} {l : List α} {i : Nat} (h : i < l.length) : l.getD i d = l[i] := by simp [List.getD, h]
theorem take_succ_getD {α : Type} {d : α} {l : List α} {i : Nat} (h : i < l.length) : l.take (i + 1) = l.take i ++ [l.getD i d] := by
  rw [getD_lt h, List.take_add_one, List.getElem?_eq_getElem h]; rfl
theorem flatMap_take_succ {α β : Type} {d : α} {l : List α} {i : Nat} {f : α → List β} (h : i < l.length) : (l.take (i + 1)).flatMap f = (l.take i).flatMap f ++ f (l.getD i d) := by
  rw [take_succ_getD (d := d) h, List.flatMap_append]; simp
end Go.GX
namespace Go.GX
theorem ior_comm (k : IntKind) (a b : Int) : ior k a b = ior k b a := by unfold ior; rw [BitVec.or_comm]
theorem iand_comm (k : IntKind) (a b : Int) : iand k a b = iand k b a := by unfold iand; rw [BitVec.and_comm]
end Go.GX
namespace Go.GX
theorem bif_t {α : Type} {c : Bool} {a b : α} (h : c = true) : (bif c then a else b) = a := by rw [h]; rfl
theorem bif_f {α : Type} {c : Bool} {a b : α} (h : c = false) : (bif c then a else b) = b := by rw [h]; rfl
end Go.GX
namespace Go.GX
theorem ofE {α β : Type} {E : α → Option β} {x : α} {y d : β} (h : E x = some y) : (E x).getD d = y ∧ (E x).isSome = true := by rw [h]; exact ⟨rfl, rfl⟩
end Go.GX

namespace Go.GX
set_option linter.unusedVariables false
set_option linter.unusedSimpArgs false
theorem ofInt64 (a : Int) : (BitVec.ofInt (IntKind.bits .u64) a).toNat = (a % 18446744073709551616).toNat := by
  show (BitVec.ofInt 64 a).toNat = _
  simp [BitVec.toNat_ofInt]
theorem iand_u64 (a b : Int) : iand .u64 a b = (((a % 18446744073709551616).toNat &&& (b % 18446744073709551616).toNat : Nat) : Int) := by
  unfold iand
  rw [BitVec.toNat_and, ofInt64, ofInt64, wrap_u64]
  have h1 : (a % 18446744073709551616).toNat < 2 ^ 64 := by omega
  have := Nat.and_lt_two_pow (n := 64) (b % 18446744073709551616).toNat h1
  rw [Nat.and_comm] at this
  omega
theorem ixor_u64 (a b : Int) : ixor .u64 a b = (((a % 18446744073709551616).toNat ^^^ (b % 18446744073709551616).toNat : Nat) : Int) := by
  unfold ixor
  rw [BitVec.toNat_xor, ofInt64, ofInt64, wrap_u64]
  have h1 : (a % 18446744073709551616).toNat < 2 ^ 64 := by omega
  have h2 : (b % 18446744073709551616).toNat < 2 ^ 64 := by omega
  have := Nat.xor_lt_two_pow h1 h2
  omega
/-! Words as rows of bits. -/
def u (a : Int) : Nat := (a % 18446744073709551616).toNat
def bit (a : Int) (i : Nat) : Bool := (u a).testBit i
def InR (a : Int) : Prop := 0 ≤ a ∧ a < 18446744073709551616
theorem u_lt (a : Int) : u a < 2 ^ 64 := by unfold u; omega
theorem u_of {a : Int} (h : InR a) : (u a : Int) = a := by unfold u; unfold InR at h; omega
theorem u_cast (n : Nat) (h : n < 2 ^ 64) : u (n : Int) = n := by unfold u; omega
theorem bits_eq {a b : Int} (ha : InR a) (hb : InR b) (h : ∀ i, bit a i = bit b i) : a = b := by
  rw [← u_of ha, ← u_of hb, Nat.eq_of_testBit_eq h]
theorem eq_bits {a b : Int} (ha : InR a) (hb : InR b) : a = b ↔ ∀ i, bit a i = bit b i := ⟨fun h i => by rw [h], bits_eq ha hb⟩
theorem bit0 (i : Nat) : bit 0 i = false := by show (u 0).testBit i = false; rw [show u 0 = 0 from rfl]; simp
theorem inR0 : InR 0 := by unfold InR; omega
theorem eq0_bits {a : Int} (ha : InR a) : a = 0 ↔ ∀ i, bit a i = false := by rw [eq_bits ha inR0]; simp only [bit0]
theorem inR_nat {n : Nat} (h : n < 2 ^ 64) : InR (n : Int) := by unfold InR; omega
theorem inR_wrap (a : Int) : InR (IntKind.wrap .u64 a) := by unfold InR; rw [wrap_u64]; omega
theorem iand_n (a b : Int) : iand .u64 a b = ((u a &&& u b : Nat) : Int) := iand_u64 a b
theorem ixor_n (a b : Int) : ixor .u64 a b = ((u a ^^^ u b : Nat) : Int) := ixor_u64 a b
theorem ior_n (a b : Int) : ior .u64 a b = ((u a ||| u b : Nat) : Int) := by
  unfold ior
  rw [BitVec.toNat_or, ofInt64, ofInt64, wrap_u64]
  have := Nat.or_lt_two_pow (u_lt a) (u_lt b)
  unfold u at this ⊢
  omega
theorem iandn_n (a b : Int) : iandn .u64 a b = ((BitVec.ofInt 64 a &&& ~~~BitVec.ofInt 64 b).toNat : Int) := by
  unfold iandn
  rw [wrap_u64]
  have := (BitVec.ofInt 64 a &&& ~~~BitVec.ofInt 64 b).isLt
  show (((BitVec.ofInt 64 a &&& ~~~BitVec.ofInt 64 b).toNat : Int)) % 18446744073709551616 = _
  omega
theorem inR_iand (a b : Int) : InR (iand .u64 a b) := by unfold iand; exact inR_wrap _
theorem inR_ior (a b : Int) : InR (ior .u64 a b) := by unfold ior; exact inR_wrap _
theorem inR_ixor (a b : Int) : InR (ixor .u64 a b) := by unfold ixor; exact inR_wrap _
theorem inR_iandn (a b : Int) : InR (iandn .u64 a b) := by unfold iandn; exact inR_wrap _
theorem bit_iand (a b : Int) (i : Nat) : bit (iand .u64 a b) i = (bit a i && bit b i) := by
  unfold bit
  rw [iand_n, u_cast _ (Nat.and_lt_two_pow _ (u_lt b)), Nat.testBit_and]
theorem bit_ior (a b : Int) (i : Nat) : bit (ior .u64 a b) i = (bit a i || bit b i) := by
  unfold bit
  rw [ior_n, u_cast _ (Nat.or_lt_two_pow (u_lt a) (u_lt b)), Nat.testBit_or]
theorem bit_ixor (a b : Int) (i : Nat) : bit (ixor .u64 a b) i = (bit a i ^^ bit b i) := by
  unfold bit
  rw [ixor_n, u_cast _ (Nat.xor_lt_two_pow (u_lt a) (u_lt b)), Nat.testBit_xor]
theorem bv_bit (a : Int) (i : Nat) : (BitVec.ofInt 64 a).getLsbD i = bit a i := by
  show (BitVec.ofInt 64 a).toNat.testBit i = _
  have := ofInt64 a
  rw [show (BitVec.ofInt 64 a).toNat = (a % 18446744073709551616).toNat from this]; rfl
theorem bit_hi (a : Int) {i : Nat} (h : 64 ≤ i) : bit a i = false :=
  Nat.testBit_lt_two_pow (Nat.lt_of_lt_of_le (u_lt a) (Nat.pow_le_pow_right (by omega) h))
theorem bit_iandn (a b : Int) (i : Nat) : bit (iandn .u64 a b) i = (bit a i && !bit b i) := by
  have h : bit (iandn .u64 a b) i = (BitVec.ofInt 64 a &&& ~~~BitVec.ofInt 64 b).getLsbD i := by
    rw [iandn_n]
    unfold bit
    rw [u_cast _ (BitVec.isLt _)]
    rfl
  rw [h, BitVec.getLsbD_and, BitVec.getLsbD_not, bv_bit, bv_bit]
  by_cases hi : i < 64
  · simp [hi]
  · rw [bit_hi a (by omega)]; simp

def tbl0 : List UInt8 := [0, 1, 2, 2, 3, 3, 3, 3, 4, 4, 4, 4, 4, 4, 4, 4, 5, 5, 5, 5, 5, 5, 5, 5, 5, 5, 5, 5, 5, 5, 5, 5, 6, 6, 6, 6, 6, 6, 6, 6, 6, 6, 6, 6, 6, 6, 6, 6, 6, 6, 6, 6, 6, 6, 6, 6, 6, 6, 6, 6, 6, 6, 6, 6, 7, 7, 7, 7, 7, 7, 7, 7, 7, 7, 7, 7, 7, 7, 7, 7, 7, 7, 7, 7, 7, 7, 7, 7, 7, 7, 7, 7, 7, 7, 7, 7, 7, 7, 7, 7, 7, 7, 7, 7, 7, 7, 7, 7, 7, 7, 7, 7, 7, 7, 7, 7, 7, 7, 7, 7, 7, 7, 7, 7, 7, 7, 7, 7, 8, 8, 8, 8, 8, 8, 8, 8, 8, 8, 8, 8, 8, 8, 8, 8, 8, 8, 8, 8, 8, 8, 8, 8, 8, 8, 8, 8, 8, 8, 8, 8, 8, 8, 8, 8, 8, 8, 8, 8, 8, 8, 8, 8, 8, 8, 8, 8, 8, 8, 8, 8, 8, 8, 8, 8, 8, 8, 8, 8, 8, 8, 8, 8, 8, 8, 8, 8, 8, 8, 8, 8, 8, 8, 8, 8, 8, 8, 8, 8, 8, 8, 8, 8, 8, 8, 8, 8, 8, 8, 8, 8, 8, 8, 8, 8, 8, 8, 8, 8, 8, 8, 8, 8, 8, 8, 8, 8, 8, 8, 8, 8, 8, 8, 8, 8, 8, 8, 8, 8, 8, 8, 8, 8, 8, 8, 8, 8]
def len64S (x : Int) : Option Int :=
  (bif (decide (x ≥ 4294967296)) then
    (bif (decide ((ishr .u64 x 32) ≥ 65536)) then
      (bif (decide ((ishr .u64 (ishr .u64 x 32) 16) ≥ 256)) then
        (bif (tt 1 ((decide (0 ≤ (IntKind.wrap .u8 (ishr .u64 (ishr .u64 (ishr .u64 x 32) 16) 8)))) && (decide ((IntKind.wrap .u8 (ishr .u64 (ishr .u64 (ishr .u64 x 32) 16) 8)) < 256)))) then some (IntKind.wrap .i64 (56 + (IntKind.wrap .i64 ((tbl0.getD (Int.toNat (IntKind.wrap .u8 (ishr .u64 (ishr .u64 (ishr .u64 x 32) 16) 8))) 0).toNat : Int)))) else none)
      else
        (bif (tt 1 ((decide (0 ≤ (IntKind.wrap .u8 (ishr .u64 (ishr .u64 x 32) 16)))) && (decide ((IntKind.wrap .u8 (ishr .u64 (ishr .u64 x 32) 16)) < 256)))) then some (IntKind.wrap .i64 (48 + (IntKind.wrap .i64 ((tbl0.getD (Int.toNat (IntKind.wrap .u8 (ishr .u64 (ishr .u64 x 32) 16))) 0).toNat : Int)))) else none))
    else
      (bif (decide ((ishr .u64 x 32) ≥ 256)) then
        (bif (tt 1 ((decide (0 ≤ (IntKind.wrap .u8 (ishr .u64 (ishr .u64 x 32) 8)))) && (decide ((IntKind.wrap .u8 (ishr .u64 (ishr .u64 x 32) 8)) < 256)))) then some (IntKind.wrap .i64 (40 + (IntKind.wrap .i64 ((tbl0.getD (Int.toNat (IntKind.wrap .u8 (ishr .u64 (ishr .u64 x 32) 8))) 0).toNat : Int)))) else none)
      else
        (bif (tt 1 ((decide (0 ≤ (IntKind.wrap .u8 (ishr .u64 x 32)))) && (decide ((IntKind.wrap .u8 (ishr .u64 x 32)) < 256)))) then some (IntKind.wrap .i64 (32 + (IntKind.wrap .i64 ((tbl0.getD (Int.toNat (IntKind.wrap .u8 (ishr .u64 x 32))) 0).toNat : Int)))) else none)))
  else
    (bif (decide (x ≥ 65536)) then
      (bif (decide ((ishr .u64 x 16) ≥ 256)) then
        (bif (tt 1 ((decide (0 ≤ (IntKind.wrap .u8 (ishr .u64 (ishr .u64 x 16) 8)))) && (decide ((IntKind.wrap .u8 (ishr .u64 (ishr .u64 x 16) 8)) < 256)))) then some (IntKind.wrap .i64 (24 + (IntKind.wrap .i64 ((tbl0.getD (Int.toNat (IntKind.wrap .u8 (ishr .u64 (ishr .u64 x 16) 8))) 0).toNat : Int)))) else none)
      else
        (bif (tt 1 ((decide (0 ≤ (IntKind.wrap .u8 (ishr .u64 x 16)))) && (decide ((IntKind.wrap .u8 (ishr .u64 x 16)) < 256)))) then some (IntKind.wrap .i64 (16 + (IntKind.wrap .i64 ((tbl0.getD (Int.toNat (IntKind.wrap .u8 (ishr .u64 x 16))) 0).toNat : Int)))) else none))
    else
      (bif (decide (x ≥ 256)) then
        (bif (tt 1 ((decide (0 ≤ (IntKind.wrap .u8 (ishr .u64 x 8)))) && (decide ((IntKind.wrap .u8 (ishr .u64 x 8)) < 256)))) then some (IntKind.wrap .i64 (8 + (IntKind.wrap .i64 ((tbl0.getD (Int.toNat (IntKind.wrap .u8 (ishr .u64 x 8))) 0).toNat : Int)))) else none)
      else
        (bif (tt 1 ((decide (0 ≤ (IntKind.wrap .u8 x))) && (decide ((IntKind.wrap .u8 x) < 256)))) then some (IntKind.wrap .i64 (0 + (IntKind.wrap .i64 ((tbl0.getD (Int.toNat (IntKind.wrap .u8 x)) 0).toNat : Int)))) else none))))
/-! ## The length of a number -/
def BL (n k : Nat) : Prop := n < 2 ^ k ∧ (k = 0 ∨ 2 ^ (k - 1) ≤ n)
theorem BL_uniq {n k k' : Nat} (h : BL n k) (h' : BL n k') : k = k' := by
  have key : ∀ {a b : Nat}, BL n a → BL n b → ¬ a < b := by
    intro a b ha hb hlt
    rcases hb.2 with e | e
    · omega
    · have : 2 ^ a ≤ 2 ^ (b - 1) := Nat.pow_le_pow_right (by omega) (by omega)
      have := ha.1
      omega
  have := key h h'; have := key h' h; omega
theorem tbl_ok : ∀ i, i < 256 → BL i (tbl0.getD i 0).toNat := by
  have h : ((List.range 256).all fun i => Nat.blt i (2 ^ (tbl0.getD i 0).toNat) && (Nat.beq (tbl0.getD i 0).toNat 0 || Nat.ble (2 ^ ((tbl0.getD i 0).toNat - 1)) i)) = true := by decide +kernel
  intro i hi
  have := List.all_eq_true.1 h i (by simpa using hi)
  simp only [Bool.and_eq_true, Bool.or_eq_true] at this
  exact ⟨Nat.le_of_ble_eq_true this.1, this.2.imp Nat.eq_of_beq_eq_true Nat.le_of_ble_eq_true⟩
theorem tbl_le : ∀ i, i < 256 → (tbl0.getD i 0).toNat ≤ 8 := by
  have h : ((List.range 256).all fun i => Nat.ble (tbl0.getD i 0).toNat 8) = true := by decide +kernel
  intro i hi
  exact Nat.le_of_ble_eq_true (List.all_eq_true.1 h i (by simpa using hi))
theorem BL_shift {n s k : Nat} (h : BL (n / 2 ^ s) k) (h1 : s = 0 ∨ 1 ≤ n / 2 ^ s) : BL n (s + k) := by
  have hp : 0 < 2 ^ s := Nat.pow_pos (by omega)
  have a1 := h.1
  have e1 : n < 2 ^ (s + k) := by
    rw [Nat.pow_add, Nat.mul_comm]
    exact (Nat.div_lt_iff_lt_mul hp).1 a1
  refine ⟨e1, ?_⟩
  rcases h.2 with e | e
  · rcases h1 with h1 | h1
    · left; omega
    · subst e; rw [Nat.pow_zero] at a1; omega
  · by_cases hk : k = 0
    · subst hk
      rcases h1 with h1 | h1
      · left; omega
      · rw [Nat.pow_zero] at a1; omega
    · right
      rw [show s + k - 1 = s + (k - 1) from by omega, Nat.pow_add, Nat.mul_comm]
      exact (Nat.le_div_iff_mul_le hp).1 e
theorem leaf (x : Int) (s : Nat) (y : Int) (hx : InR x) (hy : y = x / ((2 ^ s : Nat) : Int)) (hs : s ≤ 56) (h : y < 256) (h1 : s = 0 ∨ 1 ≤ y) :
    ∃ L : Nat, (bif (tt 1 ((decide (0 ≤ (IntKind.wrap .u8 y))) && (decide ((IntKind.wrap .u8 y) < 256)))) then some (IntKind.wrap .i64 ((s : Int) + (IntKind.wrap .i64 ((tbl0.getD (Int.toNat (IntKind.wrap .u8 y)) 0).toNat : Int)))) else none) = some (L : Int) ∧ L ≤ 64 ∧ BL x.toNat L := by
  have y0 : 0 ≤ y := by rw [hy]; exact Int.ediv_nonneg hx.1 (Int.natCast_nonneg _)
  have hw : IntKind.wrap .u8 y = y := by
    have : IntKind.wrap .u8 y = y % 256 := by simp [IntKind.wrap, IntKind.signed, IntKind.bits]
    omega
  rw [hw, decide_eq_true y0, decide_eq_true h, tt_eq]
  have hlt : y.toNat < 256 := by omega
  have ht := tbl_le y.toNat hlt
  have hb := tbl_ok y.toNat hlt
  have hyn : y.toNat = x.toNat / 2 ^ s := by
    obtain ⟨m, rfl⟩ : ∃ m : Nat, x = (m : Int) := ⟨x.toNat, (Int.toNat_of_nonneg hx.1).symm⟩
    rw [hy, ← Int.natCast_ediv, Int.toNat_natCast, Int.toNat_natCast]
  generalize (tbl0.getD y.toNat 0).toNat = t at ht hb ⊢
  refine ⟨s + t, ?_, by omega, BL_shift (by rw [← hyn]; exact hb) (h1.imp id (fun h => by omega))⟩
  simp only [Bool.and_self, cond_true]
  congr 1
  rw [wrap_i64 (t : Int)]
  rw [if_neg (by omega), wrap_i64, if_neg (by omega)]
  omega
theorem shr_n (x : Int) (k : Nat) (hk : k ≤ 64) : ishr .u64 x (k : Int) = x / ((2 ^ k : Nat) : Int) := by
  unfold ishr
  rw [show IntKind.bits .u64 = 64 from rfl, show (min ((k : Int).toNat) 64) = k from by omega]
  have h : ((2 : Int) ^ k) = ((2 ^ k : Nat) : Int) := by rw [Int.natCast_pow]; rfl
  rw [h, Int.fdiv_eq_ediv_of_nonneg _ (Int.natCast_nonneg _)]
theorem shr32 (x : Int) : ishr .u64 x 32 = x / 4294967296 := shr_n x 32 (by omega)
theorem shr16 (x : Int) : ishr .u64 x 16 = x / 65536 := shr_n x 16 (by omega)
theorem shr8 (x : Int) : ishr .u64 x 8 = x / 256 := shr_n x 8 (by omega)
theorem len_some (x : Int) (hx : InR x) : ∃ L : Nat, len64S x = some (L : Int) ∧ L ≤ 64 ∧ BL x.toNat L := by
  have h56 : ((2 ^ 56 : Nat) : Int) = 72057594037927936 := rfl
  have h48 : ((2 ^ 48 : Nat) : Int) = 281474976710656 := rfl
  have h40 : ((2 ^ 40 : Nat) : Int) = 1099511627776 := rfl
  have h32 : ((2 ^ 32 : Nat) : Int) = 4294967296 := rfl
  have h24 : ((2 ^ 24 : Nat) : Int) = 16777216 := rfl
  have h16 : ((2 ^ 16 : Nat) : Int) = 65536 := rfl
  have h8 : ((2 ^ 8 : Nat) : Int) = 256 := rfl
  have h0 : ((2 ^ 0 : Nat) : Int) = 1 := rfl
  have hx' := hx
  unfold InR at hx'
  unfold len64S
  simp only [shr32, shr16, shr8]
  by_cases c1 : x ≥ 4294967296
  · rw [decide_eq_true c1, cond_true]
    by_cases c2 : x / 4294967296 ≥ 65536
    · rw [decide_eq_true c2, cond_true]
      by_cases c3 : x / 4294967296 / 65536 ≥ 256
      · rw [decide_eq_true c3, cond_true]
        exact leaf x 56 _ hx (by rw [h56]; omega) (by omega) (by omega) (.inr (by omega))
      · rw [decide_eq_false c3, cond_false]
        exact leaf x 48 _ hx (by rw [h48]; omega) (by omega) (by omega) (.inr (by omega))
    · rw [decide_eq_false c2, cond_false]
      by_cases c3 : x / 4294967296 ≥ 256
      · rw [decide_eq_true c3, cond_true]
        exact leaf x 40 _ hx (by rw [h40]; omega) (by omega) (by omega) (.inr (by omega))
      · rw [decide_eq_false c3, cond_false]
        exact leaf x 32 _ hx (by rw [h32]) (by omega) (by omega) (.inr (by omega))
  · rw [decide_eq_false c1, cond_false]
    by_cases c2 : x ≥ 65536
    · rw [decide_eq_true c2, cond_true]
      by_cases c3 : x / 65536 ≥ 256
      · rw [decide_eq_true c3, cond_true]
        exact leaf x 24 _ hx (by rw [h24]; omega) (by omega) (by omega) (.inr (by omega))
      · rw [decide_eq_false c3, cond_false]
        exact leaf x 16 _ hx (by rw [h16]) (by omega) (by omega) (.inr (by omega))
    · rw [decide_eq_false c2, cond_false]
      by_cases c3 : x ≥ 256
      · rw [decide_eq_true c3, cond_true]
        exact leaf x 8 _ hx (by rw [h8]) (by omega) (by omega) (.inr (by omega))
      · rw [decide_eq_false c3, cond_false]
        exact leaf x 0 _ hx (by rw [h0]; omega) (by omega) (by omega) (.inl rfl)
end Go.GX

namespace Go.GX
set_option linter.unusedVariables false
set_option linter.unusedSimpArgs false
/-! ## Numbers of which some bits are known -/
abbrev Tn := Int × Int × Unit
def RT (t : Tn) : Prop := InR t.1 ∧ InR t.2.1
def len (n : Nat) : Nat := if n = 0 then 0 else Nat.log2 n + 1
theorem BL_len (n : Nat) : BL n (len n) := by
  unfold len
  by_cases h : n = 0
  · rw [if_pos h]; subst h; exact ⟨by decide, .inl rfl⟩
  · rw [if_neg h]
    exact ⟨Nat.lt_log2_self, .inr (Nat.log2_self_le h)⟩
theorem len_le {n : Nat} (h : n < 2 ^ 64) : len n ≤ 64 := by
  have hb := BL_len n
  rcases hb.2 with e | e
  · omega
  · have : ¬ 64 ≤ len n - 1 := by
      intro hh
      have := Nat.pow_le_pow_right (show 0 < 2 by omega) hh
      omega
    omega
def hasT (t : Tn) (n : Int) : Bool := decide (iandn .u64 n t.2.1 = iandn .u64 t.1 t.2.1)
theorem hasT_iff {t : Tn} {n : Int} : hasT t n = true ↔ ∀ i, bit t.2.1 i = false → bit n i = bit t.1 i := by
  unfold hasT
  rw [decide_eq_true_eq, eq_bits (inR_iandn _ _) (inR_iandn _ _)]
  constructor
  · intro h i hi
    have := h i
    rw [bit_iandn, bit_iandn, hi] at this
    simpa using this
  · intro h i
    rw [bit_iandn, bit_iandn]
    cases hi : bit t.2.1 i
    · rw [h i hi]
    · simp
def mayT (t : Tn) : Prop := ∀ i, (bit t.1 i && bit t.2.1 i) = false
theorem mayB {t : Tn} : decide (iand .u64 t.1 t.2.1 = 0) = true ↔ mayT t := by
  unfold mayT
  rw [decide_eq_true_eq, eq0_bits (inR_iand _ _)]
  exact forall_congr' fun i => by rw [bit_iand]
theorem hasT_self (t : Tn) : hasT t t.1 = true := hasT_iff.2 fun i _ => rfl
def knw (v u : Int) : Tn := (iandn .u64 v u, u, ())
theorem mayT_knw (v u : Int) : mayT (knw v u) := fun i => by
  show (bit (iandn .u64 v u) i && bit u i) = false
  rw [bit_iandn]; cases bit u i <;> simp
/-! ### sums -/
def addT (a b : Tn) : Tn :=
  knw (IntKind.wrap .u64 (a.1 + b.1)) (ior .u64 (ior .u64 (ixor .u64 (IntKind.wrap .u64 (a.1 + b.1)) (IntKind.wrap .u64 ((IntKind.wrap .u64 ((IntKind.wrap .u64 (a.1 + b.1)) + a.2.1)) + b.2.1))) a.2.1) b.2.1)
def subT (a b : Tn) : Tn :=
  knw (IntKind.wrap .u64 (a.1 - b.1)) (ior .u64 (ior .u64 (ixor .u64 (IntKind.wrap .u64 ((IntKind.wrap .u64 (a.1 - b.1)) + a.2.1)) (IntKind.wrap .u64 ((IntKind.wrap .u64 (a.1 - b.1)) - b.2.1))) a.2.1) b.2.1)
theorem shl_n (b : Int) {i : Nat} (h : i ≤ 64) : ishl .u64 b (i : Int) = IntKind.wrap .u64 (b * ((2 ^ i : Nat) : Int)) := by
  unfold ishl
  rw [show IntKind.bits .u64 = 64 from rfl, show (min ((i : Int).toNat) 64) = i by omega]
  rw [show ((2 : Int) ^ i) = ((2 ^ i : Nat) : Int) by rw [Int.natCast_pow]; rfl]
theorem and1 (x : Int) : iand .u64 x 1 = x % 2 := iand_low .u64 x 1 2 1 rfl rfl (by decide)
/-! ### products, bit by bit of the left one -/
/-- what bit i of the left one adds -/
def mulS (a b : Tn) (i : Nat) (r : Tn) : Tn :=
  if (a.1 / ((2 ^ i : Nat) : Int)) % 2 = 1 then addT r (0, ishl .u64 b.2.1 (i : Int), ())
  else if (a.2.1 / ((2 ^ i : Nat) : Int)) % 2 = 1 then addT r (0, ior .u64 (ishl .u64 b.1 (i : Int)) (ishl .u64 b.2.1 (i : Int)), ())
  else r
def mulR (a b : Tn) : Nat → Tn
  | 0 => (0, 0, ())
  | i + 1 => mulS a b i (mulR a b i)
def mulL (a : Tn) : Nat := len (u a.1 ||| u a.2.1)
def mulT (a b : Tn) : Tn := addT (IntKind.wrap .u64 (a.1 * b.1), 0, ()) (mulR a b (mulL a))
end Go.GX

namespace Go.GX
set_option linter.unusedVariables false
set_option linter.unusedSimpArgs false
/-! ## Sums, differences and products of numbers of two tnums -/
def Sb (x X : Int) : Prop := ∀ i, bit x i = true → bit X i = true
theorem mod_mono {x X : Int} (h : Sb x X) (k : Nat) : u x % 2 ^ k ≤ u X % 2 ^ k := by
  have : u X % 2 ^ k = u x % 2 ^ k ||| u X % 2 ^ k := by
    apply Nat.eq_of_testBit_eq
    intro i
    rw [Nat.testBit_or, Nat.testBit_mod_two_pow, Nat.testBit_mod_two_pow]
    by_cases hi : i < k
    · have := h i
      unfold bit at this
      cases h1 : (u x).testBit i <;> cases h2 : (u X).testBit i <;> simp_all
    · simp [hi]
  rw [this]; exact Nat.left_le_or
def cry (i : Nat) (x y : Int) : Bool := decide (2 ^ i ≤ u x % 2 ^ i + u y % 2 ^ i)
theorem bv_toNat (x : Int) : (BitVec.ofInt 64 x).toNat = u x := ofInt64 x
theorem bit_add (x y : Int) {i : Nat} (hi : i < 64) : bit (IntKind.wrap .u64 (x + y)) i = (bit x i ^^ (bit y i ^^ cry i x y)) := by
  rw [← bv_bit, show BitVec.ofInt 64 (IntKind.wrap .u64 (x + y)) = BitVec.ofInt 64 (x + y) from ofInt_wrap .u64 _, BitVec.ofInt_add, BitVec.getLsbD_add hi, bv_bit, bv_bit]
  congr 2
theorem cry_mono {x y X Y : Int} (h1 : Sb x X) (h2 : Sb y Y) (i : Nat) (h : cry i x y = true) : cry i X Y = true := by
  unfold cry at *
  rw [decide_eq_true_eq] at *
  have := mod_mono h1 i; have := mod_mono h2 i
  omega
theorem u_wrap (x : Int) : u (IntKind.wrap .u64 x) = u x := by unfold u; rw [wrap_u64]; omega
theorem bit_wrap (x : Int) (i : Nat) : bit (IntKind.wrap .u64 x) i = bit x i := by unfold bit; rw [u_wrap]
theorem u_ior (x y : Int) : u (ior .u64 x y) = u x ||| u y := by rw [ior_n, u_cast _ (Nat.or_lt_two_pow (u_lt x) (u_lt y))]
/-- parts that share no bit -/
theorem add_or {x y : Int} (h : ∀ i, (bit x i && bit y i) = false) : u (x + y) = u (ior .u64 x y) := by
  have h1 : BitVec.ofInt 64 x + BitVec.ofInt 64 y = BitVec.ofInt 64 x ||| BitVec.ofInt 64 y := by
    apply BitVec.add_eq_or_of_and_eq_zero
    apply BitVec.eq_of_getLsbD_eq
    intro i hi
    rw [BitVec.getLsbD_and, bv_bit, bv_bit, h i]; simp
  rw [← bv_toNat, BitVec.ofInt_add, h1, BitVec.toNat_or, bv_toNat, bv_toNat, u_ior]
theorem u_congr_add {x y z : Int} (h : u x = u y) : u (x + z) = u (y + z) := by unfold u at *; omega
theorem u_congr_add2 {x y z w : Int} (h : u x = u y) (h' : u z = u w) : u (x + z) = u (y + w) := by unfold u at *; omega
theorem has_lo {a : Tn} {x : Int} (ma : mayT a) (h : hasT a x = true) : Sb a.1 x := fun i hi => by
  have := ma i
  rw [hi] at this
  rw [hasT_iff.1 h i (by simpa using this)]; exact hi
theorem has_hi {a : Tn} {x : Int} (h : hasT a x = true) : Sb x (ior .u64 a.1 a.2.1) := fun i hi => by
  rw [bit_ior]
  cases hm : bit a.2.1 i
  · rw [← hasT_iff.1 h i hm, hi]; rfl
  · simp
theorem add_has {a b : Tn} {x y : Int} (ma : mayT a) (mb : mayT b) (hx : hasT a x = true) (hy : hasT b y = true) : hasT (addT a b) (IntKind.wrap .u64 (x + y)) = true := by
  refine hasT_iff.2 fun i hi => ?_
  unfold addT knw at hi ⊢
  dsimp only at hi ⊢
  rw [bit_iandn, hi, Bool.not_false, Bool.and_true]
  by_cases h64 : i < 64
  · rw [bit_ior, bit_ior, bit_ixor] at hi
    simp only [Bool.or_eq_false_iff] at hi
    obtain ⟨⟨h1, h2⟩, h3⟩ := hi
    have hS : bit (IntKind.wrap .u64 (IntKind.wrap .u64 (IntKind.wrap .u64 (a.1 + b.1) + a.2.1) + b.2.1)) i = bit (IntKind.wrap .u64 (ior .u64 a.1 a.2.1 + ior .u64 b.1 b.2.1)) i := by
      unfold bit
      congr 1
      rw [u_wrap, u_wrap]
      have e1 : u (IntKind.wrap .u64 (IntKind.wrap .u64 (a.1 + b.1) + a.2.1) + b.2.1) = u ((a.1 + a.2.1) + (b.1 + b.2.1)) := by
        unfold u; rw [wrap_u64, wrap_u64]; omega
      rw [e1]
      exact u_congr_add2 (add_or ma) (add_or mb)
    rw [hS, bit_add _ _ h64, bit_add _ _ h64, bit_ior, bit_ior, h2, h3] at h1
    rw [bit_add _ _ h64, bit_add _ _ h64, hasT_iff.1 hx i h2, hasT_iff.1 hy i h3]
    have c1 := cry_mono (has_lo ma hx) (has_lo mb hy) i
    have c2 := cry_mono (has_hi hx) (has_hi hy) i
    revert h1 c1 c2
    cases bit a.1 i <;> cases bit b.1 i <;> cases cry i a.1 b.1 <;> cases cry i x y <;> cases cry i (ior .u64 a.1 a.2.1) (ior .u64 b.1 b.2.1) <;> simp
  · rw [bit_hi _ (by omega), bit_hi _ (by omega)]
/-! ### differences -/
def brw (i : Nat) (x y : Int) : Bool := decide (u x % 2 ^ i < u y % 2 ^ i)
theorem bit_sub (x y : Int) {i : Nat} (hi : i < 64) : bit (IntKind.wrap .u64 (x - y)) i = (bit x i ^^ (bit y i ^^ brw i x y)) := by
  have h := bit_add (IntKind.wrap .u64 (x - y)) y hi
  have e : bit (IntKind.wrap .u64 (IntKind.wrap .u64 (x - y) + y)) i = bit x i := by
    unfold bit; congr 1; unfold u; rw [wrap_u64, wrap_u64]; omega
  rw [e] at h
  have hc : cry i (IntKind.wrap .u64 (x - y)) y = brw i x y := by
    unfold cry brw
    rw [u_wrap, decide_eq_decide]
    have hd : (2 ^ i) ∣ 2 ^ 64 := Nat.pow_dvd_pow 2 (by omega)
    have hx : u x % 2 ^ i = (u (x - y) % 2 ^ i + u y % 2 ^ i) % 2 ^ i := by
      have : u x = (u (x - y) + u y) % 2 ^ 64 := by unfold u; omega
      rw [this, Nat.mod_mod_of_dvd _ hd, Nat.add_mod]
    have h0 : 0 < 2 ^ i := Nat.pow_pos (by omega)
    have h1 := Nat.mod_lt (u (x - y)) h0
    have h2 := Nat.mod_lt (u y) h0
    rw [hx]
    generalize u (x - y) % 2 ^ i = d at *
    generalize u y % 2 ^ i = b at *
    generalize 2 ^ i = p at *
    by_cases hc : p ≤ d + b
    · rw [Nat.mod_eq_sub_mod hc, Nat.mod_eq_of_lt (by omega)]; omega
    · rw [Nat.mod_eq_of_lt (by omega)]; omega
  rw [hc] at h
  rw [h]
  cases bit (IntKind.wrap .u64 (x - y)) i <;> cases bit y i <;> cases brw i x y <;> rfl
theorem brw_mono {x y X Y : Int} (h1 : Sb X x) (h2 : Sb y Y) (i : Nat) (h : brw i x y = true) : brw i X Y = true := by
  unfold brw at *
  rw [decide_eq_true_eq] at *
  have := mod_mono h1 i; have := mod_mono h2 i
  omega
theorem sub_has {a b : Tn} {x y : Int} (ma : mayT a) (mb : mayT b) (hx : hasT a x = true) (hy : hasT b y = true) : hasT (subT a b) (IntKind.wrap .u64 (x - y)) = true := by
  refine hasT_iff.2 fun i hi => ?_
  unfold subT knw at hi ⊢
  dsimp only at hi ⊢
  rw [bit_iandn, hi, Bool.not_false, Bool.and_true]
  by_cases h64 : i < 64
  · rw [bit_ior, bit_ior, bit_ixor] at hi
    simp only [Bool.or_eq_false_iff] at hi
    obtain ⟨⟨h1, h2⟩, h3⟩ := hi
    have hA : bit (IntKind.wrap .u64 (IntKind.wrap .u64 (a.1 - b.1) + a.2.1)) i = bit (IntKind.wrap .u64 (ior .u64 a.1 a.2.1 - b.1)) i := by
      unfold bit; congr 1
      rw [u_wrap, u_wrap]
      have e1 : u (IntKind.wrap .u64 (a.1 - b.1) + a.2.1) = u ((a.1 + a.2.1) + -b.1) := by unfold u; rw [wrap_u64]; omega
      rw [e1, u_congr_add (add_or ma)]; rfl
    have hB : bit (IntKind.wrap .u64 (IntKind.wrap .u64 (a.1 - b.1) - b.2.1)) i = bit (IntKind.wrap .u64 (a.1 - ior .u64 b.1 b.2.1)) i := by
      unfold bit; congr 1
      rw [u_wrap, u_wrap]
      have e0 := add_or mb
      unfold u at e0 ⊢
      rw [wrap_u64]; omega
    rw [hA, hB, bit_sub _ _ h64, bit_sub _ _ h64, bit_ior, bit_ior, h2, h3] at h1
    rw [bit_sub _ _ h64, bit_sub _ _ h64, hasT_iff.1 hx i h2, hasT_iff.1 hy i h3]
    have sa : Sb a.1 (ior .u64 a.1 a.2.1) := fun j hj => by rw [bit_ior, hj]; rfl
    have sb : Sb b.1 (ior .u64 b.1 b.2.1) := fun j hj => by rw [bit_ior, hj]; rfl
    have slf : ∀ z : Int, Sb z z := fun z j hj => hj
    -- the least borrow, the number's, the plain one's, the greatest
    have c1 : brw i (ior .u64 a.1 a.2.1) b.1 = true → brw i x y = true := brw_mono (has_hi hx) (has_lo mb hy) i
    have c2 : brw i x y = true → brw i a.1 (ior .u64 b.1 b.2.1) = true := brw_mono (has_lo ma hx) (has_hi hy) i
    have c3 : brw i (ior .u64 a.1 a.2.1) b.1 = true → brw i a.1 b.1 = true := brw_mono sa (slf _) i
    have c4 : brw i a.1 b.1 = true → brw i a.1 (ior .u64 b.1 b.2.1) = true := brw_mono (slf _) sb i
    revert h1 c1 c2 c3 c4
    cases bit a.1 i <;> cases bit b.1 i <;> cases brw i a.1 b.1 <;> cases brw i x y <;> cases brw i (ior .u64 a.1 a.2.1) b.1 <;> cases brw i a.1 (ior .u64 b.1 b.2.1) <;> simp
  · rw [bit_hi _ (by omega), bit_hi _ (by omega)]
end Go.GX

namespace Go.GX
set_option linter.unusedVariables false
set_option linter.unusedSimpArgs false
/-! ### products -/
theorem bit_shl (p : Int) {i k : Nat} (hk : k < 64) : bit (IntKind.wrap .u64 (p * ((2 ^ i : Nat) : Int))) k = (decide (i ≤ k) && bit p (k - i)) := by
  have e : u (p * ((2 ^ i : Nat) : Int)) = (u p * 2 ^ i) % 2 ^ 64 := by
    have h : (p * ((2 ^ i : Nat) : Int)) % 18446744073709551616 = ((p % 18446744073709551616) * ((2 ^ i : Nat) : Int)) % 18446744073709551616 := by
      have e1 := Int.mul_emod p ((2 ^ i : Nat) : Int) 18446744073709551616
      have e2 := Int.mul_emod (p % 18446744073709551616) ((2 ^ i : Nat) : Int) 18446744073709551616
      rw [Int.emod_emod] at e2
      rw [e1, e2]
    unfold u
    rw [h]
    have h0 : 0 ≤ p % 18446744073709551616 := Int.emod_nonneg _ (by omega)
    obtain ⟨m, hm⟩ : ∃ m : Nat, p % 18446744073709551616 = (m : Int) := ⟨_, (Int.toNat_of_nonneg h0).symm⟩
    rw [hm, ← Int.natCast_mul, Int.toNat_natCast]
    have : ((m * 2 ^ i : Nat) : Int) % 18446744073709551616 = ((m * 2 ^ i % 18446744073709551616 : Nat) : Int) := by rw [Int.natCast_emod]; rfl
    rw [this, Int.toNat_natCast]
  rw [bit_wrap]
  unfold bit
  rw [e, Nat.testBit_mod_two_pow, Nat.testBit_mul_two_pow]
  simp [hk]
theorem shl_sb {p q : Int} (h : Sb p q) {i : Nat} (hi : i ≤ 64) : Sb (IntKind.wrap .u64 (p * ((2 ^ i : Nat) : Int))) (ishl .u64 q (i : Int)) := by
  intro k hk
  by_cases h64 : k < 64
  · rw [bit_shl _ h64] at hk
    rw [shl_n _ hi, bit_shl _ h64]
    rw [Bool.and_eq_true] at hk ⊢
    exact ⟨hk.1, h _ hk.2⟩
  · rw [bit_hi _ (by omega)] at hk; cases hk
theorem has0 {m t : Int} (h : Sb t m) : hasT (0, m, ()) t = true := hasT_iff.2 fun i hi => by
  have hi : bit m i = false := hi
  show bit t i = bit 0 i
  rw [bit0]
  cases ht : bit t i
  · rfl
  · rw [h i ht] at hi; cases hi
theorem may0 (m : Int) : mayT (0, m, ()) := fun i => by
  show (bit 0 i && bit m i) = false
  rw [bit0]; rfl
theorem bit_div {a : Int} (h : InR a) (i : Nat) : (a / ((2 ^ i : Nat) : Int)) % 2 = (if bit a i = true then 1 else 0) := by
  have hu := u_of h
  unfold bit
  rw [Nat.testBit_eq_decide_div_mod_eq]
  have : a / ((2 ^ i : Nat) : Int) % 2 = ((u a / 2 ^ i % 2 : Nat) : Int) := by
    rw [Int.natCast_emod, Int.natCast_ediv, hu]; rfl
  rw [this]
  have := Nat.mod_two_eq_zero_or_one (u a / 2 ^ i)
  rcases this with e | e <;> rw [e] <;> simp
def xb (a : Int) (i : Nat) : Int := if bit a i = true then 1 else 0
/-- the lowest bits, one more -/
theorem low_succ (a : Int) (n : Nat) : ((u a % 2 ^ (n + 1) : Nat) : Int) = ((u a % 2 ^ n : Nat) : Int) + xb a n * ((2 ^ n : Nat) : Int) := by
  rw [Nat.mod_pow_succ]
  unfold xb bit
  rw [Nat.testBit_eq_decide_div_mod_eq]
  have := Nat.mod_two_eq_zero_or_one (u a / 2 ^ n)
  rcases this with e | e <;> rw [e] <;> simp
def dN (a b : Tn) (x y : Int) (n : Nat) : Int := ((u x % 2 ^ n : Nat) : Int) * y - ((u a.1 % 2 ^ n : Nat) : Int) * b.1
theorem dN_succ (a b : Tn) (x y : Int) (n : Nat) : dN a b x y (n + 1) = dN a b x y n + (xb x n * y - xb a.1 n * b.1) * ((2 ^ n : Nat) : Int) := by
  unfold dN
  rw [low_succ, low_succ]
  generalize ((2 ^ n : Nat) : Int) = p
  generalize ((u x % 2 ^ n : Nat) : Int) = q
  generalize ((u a.1 % 2 ^ n : Nat) : Int) = r
  generalize xb x n = s
  generalize xb a.1 n = t
  rw [Int.add_mul, Int.add_mul, Int.sub_mul, Int.mul_right_comm s p y, Int.mul_right_comm t p b.1]
  omega
/-- a number of a tnum less the bits that are known -/
theorem rest_sb {b : Tn} {y : Int} (hb : RT b) (hy : InR y) (mb : mayT b) (h : hasT b y = true) : Sb (y - b.1) b.2.1 := by
  have h1 : u ((iandn .u64 y b.1) + b.1) = u (ior .u64 (iandn .u64 y b.1) b.1) := add_or fun i => by rw [bit_iandn]; cases bit b.1 i <;> simp
  have h2 : ior .u64 (iandn .u64 y b.1) b.1 = y := bits_eq (inR_ior _ _) hy fun i => by
    rw [bit_ior, bit_iandn]
    have := has_lo mb h i
    cases e : bit b.1 i
    · simp
    · rw [this e]; simp
  rw [h2] at h1
  have hd := inR_iandn y b.1
  intro i hi
  have hyb : bit (y - b.1) i = bit (iandn .u64 y b.1) i := by
    unfold bit; congr 1
    unfold u at h1 ⊢; omega
  rw [hyb, bit_iandn, Bool.and_eq_true] at hi
  cases e : bit b.2.1 i
  · rw [hasT_iff.1 h i e] at hi
    simp [hi.1] at hi
  · rfl
theorem mayT_mulR (a b : Tn) : ∀ n, mayT (mulR a b n)
  | 0 => fun i => by show (bit 0 i && bit 0 i) = false; rw [bit0]; rfl
  | n + 1 => by
    rw [mulR, mulS]
    split
    · exact mayT_knw _ _
    · split
      · exact mayT_knw _ _
      · exact mayT_mulR a b n
theorem mulR_has {a b : Tn} {x y : Int} (ha : RT a) (hb : RT b) (hyr : InR y) (ma : mayT a) (mb : mayT b) (hx : hasT a x = true) (hy : hasT b y = true) :
    ∀ n, n ≤ 64 → hasT (mulR a b n) (IntKind.wrap .u64 (dN a b x y n)) = true
  | 0, _ => by
    have : dN a b x y 0 = 0 := by unfold dN; simp [Nat.mod_one]
    rw [this]; exact hasT_self (0, 0, ())
  | n + 1, hn => by
    have ih := mulR_has ha hb hyr ma mb hx hy n (by omega)
    have mm := mayT_mulR a b n
    rw [dN_succ, mulR, mulS, bit_div ha.1, bit_div ha.2]
    have key : ∀ m t : Int, Sb (IntKind.wrap .u64 t) m → hasT (addT (mulR a b n) (0, m, ())) (IntKind.wrap .u64 (dN a b x y n + t)) = true := fun m t hs => by
      have := add_has mm (may0 m) ih (has0 hs)
      have e : IntKind.wrap .u64 (IntKind.wrap .u64 (dN a b x y n) + IntKind.wrap .u64 t) = IntKind.wrap .u64 (dN a b x y n + t) := by
        simp only [wrap_u64]; omega
      rwa [e] at this
    cases h1 : bit a.1 n
    · have z1 : xb a.1 n = 0 := by unfold xb; rw [h1]; rfl
      rw [if_neg (by simp)]
      cases h2 : bit a.2.1 n
      · have hxn : bit x n = false := by rw [hasT_iff.1 hx n h2, h1]
        have z2 : xb x n = 0 := by unfold xb; rw [hxn]; rfl
        rw [if_neg (by simp), z1, z2]
        rw [show (0 * y - 0 * b.1) * ((2 ^ n : Nat) : Int) = 0 by simp, Int.add_zero]
        exact ih
      · rw [if_pos (by simp), z1]
        apply key
        intro k hk
        have hyS : Sb (xb x n * y) (ior .u64 b.1 b.2.1) := by
          unfold xb
          split
          · rw [Int.one_mul]; exact has_hi hy
          · rw [Int.zero_mul]; intro j hj; rw [bit0] at hj; cases hj
        rw [show (xb x n * y - 0 * b.1) = xb x n * y by simp] at hk
        have := shl_sb hyS (show n ≤ 64 by omega) k hk
        by_cases h64 : k < 64
        · rw [shl_n _ (by omega), bit_shl _ h64, bit_ior] at this
          rw [bit_ior, shl_n _ (by omega), shl_n _ (by omega), bit_shl _ h64, bit_shl _ h64]
          revert this
          cases decide (n ≤ k) <;> cases bit b.1 (k - n) <;> cases bit b.2.1 (k - n) <;> simp
        · rw [bit_hi _ (by omega)] at this; cases this
    · have hxn : bit x n = true := has_lo ma hx n h1
      have z1 : xb a.1 n = 1 := by unfold xb; rw [h1]; rfl
      have z2 : xb x n = 1 := by unfold xb; rw [hxn]; rfl
      rw [if_pos (by simp), z1, z2]
      apply key
      rw [show (1 * y - 1 * b.1) = y - b.1 by omega]
      exact shl_sb (rest_sb hb hyr mb hy) (by omega)
theorem mul_has {a b : Tn} {x y : Int} (ha : RT a) (hb : RT b) (hxr : InR x) (hyr : InR y) (ma : mayT a) (mb : mayT b) (hx : hasT a x = true) (hy : hasT b y = true) : hasT (mulT a b) (IntKind.wrap .u64 (x * y)) = true := by
  unfold mulT
  have hor : u a.1 ||| u a.2.1 < 2 ^ 64 := Nat.or_lt_two_pow (u_lt _) (u_lt _)
  have hL : mulL a ≤ 64 := len_le hor
  have hb2 : u a.1 ||| u a.2.1 < 2 ^ mulL a := (BL_len _).1
  have h := mulR_has ha hb hyr ma mb hx hy (mulL a) hL
  have hxlt : u x < 2 ^ mulL a := by
    have : u (ior .u64 a.1 a.2.1) = u x ||| u (ior .u64 a.1 a.2.1) := by
      apply Nat.eq_of_testBit_eq
      intro i
      rw [Nat.testBit_or]
      have := has_hi hx i
      unfold bit at this
      cases e : (u x).testBit i
      · simp
      · rw [this e]; rfl
    rw [u_ior] at this
    have := @Nat.left_le_or (u x) (u a.1 ||| u a.2.1)
    omega
  have halt : u a.1 < 2 ^ mulL a := by have := @Nat.left_le_or (u a.1) (u a.2.1); omega
  have hd : dN a b x y (mulL a) = x * y - a.1 * b.1 := by
    unfold dN
    rw [Nat.mod_eq_of_lt hxlt, Nat.mod_eq_of_lt halt, u_of hxr, u_of ha.1]
  rw [hd] at h
  have mk : mayT (IntKind.wrap .u64 (a.1 * b.1), 0, ()) := fun i => by
    show (bit (IntKind.wrap .u64 (a.1 * b.1)) i && bit 0 i) = false
    rw [bit0]; simp
  have := add_has mk (mayT_mulR a b (mulL a)) (hasT_self _) h
  have e : IntKind.wrap .u64 (IntKind.wrap .u64 (a.1 * b.1) + IntKind.wrap .u64 (x * y - a.1 * b.1)) = IntKind.wrap .u64 (x * y) := by
    simp only [wrap_u64]; omega
  rwa [e] at this
end Go.GX
