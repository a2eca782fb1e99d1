import Derived.Test.YtlakcjlgjmeefaaGreatGc
/-! An executor for translated code over abstract states, and its soundness. -/
namespace Go.GX
set_option linter.unusedSimpArgs false
set_option linter.unusedVariables false
set_option linter.unusedSectionVars false
open Go.RowKit (Below)
section
variable [DefL]
def ptrPk (p : PA) : Ty × List Cell0 := (.ptr, [.ptr (some p)])
def isPk (p : PA) : Ty × List Cell0 → Bool
  | (.ptr, [.ptr (some q)]) => decide (q = p)
  | _ => false
theorem isPk_eq {p : PA} {c : Ty × List Cell0} (h : isPk p c = true) : c = ptrPk p := by
  unfold isPk at h
  split at h
  · rw [of_decide_eq_true h]; rfl
  · cases h
def isPks : List PA → List (Ty × List Cell0) → Bool
  | [], [] => true
  | p :: r, c :: s => isPk p c && isPks r s
  | _, _ => false
theorem isPks_eq : ∀ {l : List PA} {m : List (Ty × List Cell0)}, isPks l m = true → m = l.map ptrPk
  | [], [], _ => rfl
  | [], _ :: _, h => by cases h
  | _ :: _, [], h => by cases h
  | p :: r, c :: s, h => by
    obtain ⟨h1, h2⟩ := Bool.and_eq_true_iff.1 h
    rw [isPk_eq h1, isPks_eq h2]; rfl
theorem VL0_ptrs {φ ψ : Phi} {l : List PA} (h : ∀ p ∈ l, ψ p.id = φ p.id) {vs : List Value} (hv : VL0 φ (l.map ptrPk) vs) : VL0 ψ (l.map ptrPk) vs := by
  refine ⟨hv.1, fun i c hc => ?_⟩
  obtain ⟨v, hi, hr⟩ := hv.2 i c hc
  refine ⟨v, hi, ?_⟩
  rw [List.getElem?_map, Option.map_eq_some_iff] at hc
  obtain ⟨p, hp, rfl⟩ := hc
  have hpm := h p (List.mem_of_getElem? hp)
  unfold VC0 ptrPk at hr ⊢
  rw [if_neg (by simp [GX.isAgg])] at hr ⊢
  obtain ⟨c, hc, ad, had, hvv⟩ := (show ∃ c, [Cell0.ptr (some p)] = [c] ∧ CR0 φ (.ptr (some p)) v by
    obtain ⟨c, hc, hcr⟩ := hr
    cases hc
    exact ⟨_, rfl, hcr⟩)
  refine ⟨_, rfl, ad, ?_, hvv⟩
  rw [← had]
  unfold addr
  rw [hpm]
inductive It where
  | sl (s : Nat) (t : Ty)
  | ow (s c : Nat) (t : Ty)
  | bl (i : Nat) (t : Ty)
  | pt (s : Nat) (p : PA)
  | ob (i : Nat) (D : Dk)
  | nl (s : Nat)
  | fv (s f : Nat) (p q : List PA)
  | rb (i : Nat) (t : Ty)
  | ro (i : Nat) (D : Dk)
@[reducible] def It.den : It → Type
  | .sl _ t => t.den
  | .ow _ _ t => List t.den
  | .bl _ t => t.den
  | .pt _ _ => Unit
  | .ob _ D => D.den
  | .nl _ => Unit
  | .fv _ _ _ _ => Unit
  | .rb _ t => t.den
  | .ro _ D => D.den
@[reducible] def XD : List It → Type
  | [] => Unit
  | i :: r => i.den × XD r
def mkS (n nxt : Nat) : (l : List It) → XD l → St
  | [], _ => ⟨.lf, n, [], nxt, true⟩
  | .sl s t :: r, x => let S := mkS n nxt r x.2; ⟨S.tm.set s (⟨t, x.1⟩, true), n, S.mem, nxt, true⟩
  | .ow s c t :: r, x => let S := mkS n nxt r x.2; ⟨S.tm.set s (⟨.slice, some ⟨c, [], 0, x.1.length, none⟩⟩, true), n, (c, ⟨t, x.1.length, x.1, true⟩) :: S.mem, nxt, true⟩
  | .bl i t :: r, x => let S := mkS n nxt r x.2; ⟨S.tm, n, (i, ⟨t, 1, [x.1], true⟩) :: S.mem, nxt, true⟩
  | .pt s p :: r, x => let S := mkS n nxt r x.2; ⟨S.tm.set s (⟨.ptr, some p⟩, true), n, S.mem, nxt, true⟩
  | .ob i D :: r, x => let S := mkS n nxt r x.2; ⟨S.tm, n, ((i, ⟨D.ty, 1, [D.mk x.1], true⟩) :: D.blks x.1) ++ S.mem, nxt, true⟩
  | .nl s :: r, x => let S := mkS n nxt r x.2; ⟨S.tm.set s (⟨.ptr, none⟩, true), n, S.mem, nxt, true⟩
  | .fv s f p q :: r, x => let S := mkS n nxt r x.2; ⟨S.tm.set s (⟨.func, FV.fn f (p.map ptrPk) (q.map ptrPk)⟩, true), n, S.mem, nxt, true⟩
  | .rb i t :: r, x => let S := mkS n nxt r x.2; ⟨S.tm, n, (i, ⟨t, 1, [x.1], false⟩) :: S.mem, nxt, true⟩
  | .ro i D :: r, x => let S := mkS n nxt r x.2; ⟨S.tm, n, ((i, ⟨D.ty, 1, [D.mkI x.1], false⟩) :: D.blksR x.1) ++ S.mem, nxt, true⟩
def extS : (l : List It) → St → Option (XD l × Bool × List Nat)
  | [], _ => some ((), true, [])
  | .sl s t :: r, st => match st.tm.get s, extS r st with
    | some (v, c), some (y, d, u) => match asT t (coeV t v) with | some x => some ((x, y), c && d, u) | none => none
    | _, _ => none
  | .ow s c t :: r, st => match st.tm.get s, extS r st with
    | some (⟨.slice, none⟩, e), some (y, d, u) => some (([], y), e && d, u)
    | some (⟨.slice, some q⟩, e), some (y, d, u) => match q.path, Mem.getC st.mem q.id with
      | [], some b => if h : b.t = t then bif u.contains q.id then none else
          some ((h ▸ sec (dflt b.t) b.row q.start q.len, y), e && (!(Nat.beq q.start MARK) && (b.wr && (decide (q.start + q.len ≤ b.n) && ((match q.cap with | some k => decide (q.start + k ≤ b.n) | none => true) && d)))), q.id :: u) else none
      | _, _ => none
    | _, _ => none
  | .bl i t :: r, st => match Mem.getC st.mem i, extS r st with
    | some b, some (y, d, u) => if h : b.t = t then bif u.contains i then none else some ((h ▸ b.row.getD 0 (dflt b.t), y), b.wr && (Nat.beq b.n 1 && d), i :: u) else none
    | _, _ => none
  | .ro i D :: r, st => match Mem.getC st.mem i, extS r st with
    | some b, some (y, d, u) => match obRdI st.mem i D b with
      | some (x, c, v) => bif anyIn v u then none else some ((x, y), c && d, v ++ u)
      | none => none
    | _, _ => none
  | .rb i t :: r, st => match Mem.getC st.mem i, extS r st with
    | some b, some (y, d, u) => if h : b.t = t then bif u.contains i then none else some ((h ▸ b.row.getD 0 (dflt b.t), y), Nat.beq b.n 1 && d, i :: u) else none
    | _, _ => none
  | .pt s p :: r, st => match st.tm.get s, extS r st with
    | some (⟨.ptr, some p'⟩, c), some (y, d, u) => if p' = p then some (((), y), c && d, u) else none
    | _, _ => none
  | .ob i D :: r, st => match Mem.getC st.mem i, extS r st with
    | some b, some (y, d, u) => match obRd st.mem i D b with
      | some (x, c, v) => bif anyIn v u then none else some ((x, y), c && d, v ++ u)
      | none => none
    | _, _ => none
  | .nl s :: r, st => match st.tm.get s, extS r st with
    | some (⟨.ptr, none⟩, c), some (y, d, u) => some (((), y), c && d, u)
    | _, _ => none
  | .fv s f p q :: r, st => match st.tm.get s, extS r st with
    | some (⟨.func, FV.fn g a b⟩, c), some (y, d, u) => bif Nat.beq g f && (isPks p a && isPks q b) then some (((), y), c && d, u) else none
    | _, _ => none
def nmS : List It → List Nat
  | [] => []
  | .ow _ c _ :: r => c :: nmS r
  | .bl i _ :: r => i :: nmS r
  | .rb i _ :: r => i :: nmS r
  | .ob i D :: r => i :: (D.nms ++ nmS r)
  | .ro i D :: r => i :: (D.nms ++ nmS r)
  | _ :: r => nmS r
def owS : List It → List Nat
  | [] => []
  | .ow _ c _ :: r => c :: owS r
  | .ob _ D :: r => D.nms ++ owS r
  | .ro _ D :: r => D.nms ++ owS r
  | _ :: r => owS r
def blS : List It → List Nat
  | [] => []
  | .bl i _ :: r => i :: blS r
  | .rb i _ :: r => i :: blS r
  | .ob i _ :: r => i :: blS r
  | .ro i _ :: r => i :: blS r
  | _ :: r => blS r
def ptS : List It → List Nat
  | [] => []
  | .pt _ p :: r => p.id :: ptS r
  | .fv _ _ p q :: r => p.map (·.id) ++ (q.map (·.id) ++ ptS r)
  | _ :: r => ptS r
def okS (kp nxt : Nat) (l : List It) : Bool :=
  noDup (nmS l) && ((nmS l).all (fun i => Nat.blt i nxt) && ((owS l).all (fun i => Nat.ble kp i) && ((ptS l).all (fun i => Nat.blt i kp || (blS l).contains i) && Nat.ble kp nxt)))
def plainIt : It → Bool
  | .sl _ t => valT t
  | .bl _ t => valT t
  | .rb _ t => valT t
  | .ow _ _ t => valT t
  | .pt _ _ => true
  | .ob _ D => D.plain
  | .ro _ D => D.plain
  | .nl _ => true
  | .fv _ _ _ _ => true
theorem owS_sub : ∀ {l : List It} {i : Nat}, i ∈ owS l → i ∈ nmS l
  | .ow s c t :: r, i, h => by
    simp only [owS, nmS, List.mem_cons] at h ⊢
    rcases h with h | h
    · exact .inl h
    · exact .inr (owS_sub h)
  | .sl _ _ :: r, i, h => by simp only [owS, nmS] at h ⊢; exact owS_sub h
  | .bl j _ :: r, i, h => by simp only [owS, nmS, List.mem_cons] at h ⊢; exact .inr (owS_sub h)
  | .rb j _ :: r, i, h => by simp only [owS, nmS, List.mem_cons] at h ⊢; exact .inr (owS_sub h)
  | .pt _ _ :: r, i, h => by simp only [owS, nmS] at h ⊢; exact owS_sub h
  | .nl _ :: r, i, h => by simp only [owS, nmS] at h ⊢; exact owS_sub h
  | .fv _ _ _ _ :: r, i, h => by simp only [owS, nmS] at h ⊢; exact owS_sub h
  | .ob j D :: r, i, h => by
    simp only [owS, nmS, List.mem_cons, List.mem_append] at h ⊢
    rcases h with h | h
    · exact .inr (.inl h)
    · exact .inr (.inr (owS_sub h))
  | .ro j D :: r, i, h => by
    simp only [owS, nmS, List.mem_cons, List.mem_append] at h ⊢
    rcases h with h | h
    · exact .inr (.inl h)
    · exact .inr (.inr (owS_sub h))
theorem blS_sub : ∀ {l : List It} {i : Nat}, i ∈ blS l → i ∈ nmS l
  | .ow s c t :: r, i, h => by simp only [blS, nmS, List.mem_cons] at h ⊢; exact .inr (blS_sub h)
  | .sl _ _ :: r, i, h => by simp only [blS, nmS] at h ⊢; exact blS_sub h
  | .bl j _ :: r, i, h => by
    simp only [blS, nmS, List.mem_cons] at h ⊢
    rcases h with h | h
    · exact .inl h
    · exact .inr (blS_sub h)
  | .rb j _ :: r, i, h => by
    simp only [blS, nmS, List.mem_cons] at h ⊢
    rcases h with h | h
    · exact .inl h
    · exact .inr (blS_sub h)
  | .pt _ _ :: r, i, h => by simp only [blS, nmS] at h ⊢; exact blS_sub h
  | .nl _ :: r, i, h => by simp only [blS, nmS] at h ⊢; exact blS_sub h
  | .fv _ _ _ _ :: r, i, h => by simp only [blS, nmS] at h ⊢; exact blS_sub h
  | .ob j D :: r, i, h => by
    simp only [blS, nmS, List.mem_cons, List.mem_append] at h ⊢
    rcases h with h | h
    · exact .inl h
    · exact .inr (.inr (blS_sub h))
  | .ro j D :: r, i, h => by
    simp only [blS, nmS, List.mem_cons, List.mem_append] at h ⊢
    rcases h with h | h
    · exact .inl h
    · exact .inr (.inr (blS_sub h))
theorem nm_disj : ∀ {l : List It} {i : Nat}, noDup (nmS l) = true → i ∈ owS l → i ∉ blS l
  | .ow s c t :: r, i, hd, h => by
    obtain ⟨h1, h2⟩ := noDup_cons hd
    simp only [owS, blS, List.mem_cons] at h ⊢
    rcases h with rfl | h
    · exact fun hb => h1 (blS_sub hb)
    · exact nm_disj h2 h
  | .sl _ _ :: r, i, hd, h => by simp only [owS, blS] at h ⊢; exact nm_disj hd h
  | .bl j _ :: r, i, hd, h => by
    obtain ⟨h1, h2⟩ := noDup_cons hd
    simp only [owS, blS, List.mem_cons, not_or] at h ⊢
    exact ⟨fun e => h1 (e ▸ owS_sub h), nm_disj h2 h⟩
  | .rb j _ :: r, i, hd, h => by
    obtain ⟨h1, h2⟩ := noDup_cons hd
    simp only [owS, blS, List.mem_cons, not_or] at h ⊢
    exact ⟨fun e => h1 (e ▸ owS_sub h), nm_disj h2 h⟩
  | .pt _ _ :: r, i, hd, h => by simp only [owS, blS] at h ⊢; exact nm_disj hd h
  | .nl _ :: r, i, hd, h => by simp only [owS, blS] at h ⊢; exact nm_disj hd h
  | .fv _ _ _ _ :: r, i, hd, h => by simp only [owS, blS] at h ⊢; exact nm_disj hd h
  | .ob j D :: r, i, hd, h => by
    obtain ⟨h1, h2⟩ := noDup_cons hd
    obtain ⟨_, h4, h5⟩ := noDup_append h2
    simp only [owS, blS, List.mem_cons, List.mem_append, not_or] at h ⊢
    rcases h with h | h
    · exact ⟨fun e => h1 (e ▸ List.mem_append_left _ h), fun hb => h5 i h (blS_sub hb)⟩
    · exact ⟨fun e => h1 (e ▸ List.mem_append_right _ (owS_sub h)), nm_disj h4 h⟩
  | .ro j D :: r, i, hd, h => by
    obtain ⟨h1, h2⟩ := noDup_cons hd
    obtain ⟨_, h4, h5⟩ := noDup_append h2
    simp only [owS, blS, List.mem_cons, List.mem_append, not_or] at h ⊢
    rcases h with h | h
    · exact ⟨fun e => h1 (e ▸ List.mem_append_left _ h), fun hb => h5 i h (blS_sub hb)⟩
    · exact ⟨fun e => h1 (e ▸ List.mem_append_right _ (owS_sub h)), nm_disj h4 h⟩
theorem mem_owS {s c : Nat} {t : Ty} : ∀ {l : List It}, It.ow s c t ∈ l → c ∈ owS l
  | i :: r, h => by
    rcases List.mem_cons.1 h with h | h
    · subst h; simp [owS]
    · have := mem_owS h
      cases i <;> simp [owS, this]
theorem mem_blS {c : Nat} {t : Ty} : ∀ {l : List It}, It.bl c t ∈ l → c ∈ blS l
  | i :: r, h => by
    rcases List.mem_cons.1 h with h | h
    · subst h; simp [blS]
    · have := mem_blS h
      cases i <;> simp [blS, this]
theorem mem_rbS {c : Nat} {t : Ty} : ∀ {l : List It}, It.rb c t ∈ l → c ∈ blS l
  | i :: r, h => by
    rcases List.mem_cons.1 h with h | h
    · subst h; simp [blS]
    · have := mem_rbS h
      cases i <;> simp [blS, this]
theorem mem_obS {i : Nat} {D : Dk} : ∀ {l : List It}, It.ob i D ∈ l → i ∈ blS l ∧ ∀ c ∈ D.nms, c ∈ owS l
  | j :: r, h => by
    rcases List.mem_cons.1 h with h | h
    · subst h; exact ⟨by simp [blS], fun c hc => by simp [owS, hc]⟩
    · obtain ⟨h1, h2⟩ := mem_obS h
      cases j <;> refine ⟨by simp [blS, h1], fun c hc => by simp [owS, h2 c hc]⟩
theorem mem_roS {i : Nat} {D : Dk} : ∀ {l : List It}, It.ro i D ∈ l → i ∈ blS l ∧ ∀ c ∈ D.nms, c ∈ owS l
  | j :: r, h => by
    rcases List.mem_cons.1 h with h | h
    · subst h; exact ⟨by simp [blS], fun c hc => by simp [owS, hc]⟩
    · obtain ⟨h1, h2⟩ := mem_roS h
      cases j <;> refine ⟨by simp [blS, h1], fun c hc => by simp [owS, h2 c hc]⟩
theorem mem_ptS {s : Nat} {p : PA} : ∀ {l : List It}, It.pt s p ∈ l → p.id ∈ ptS l
  | i :: r, h => by
    rcases List.mem_cons.1 h with h | h
    · subst h; simp [ptS]
    · have := mem_ptS h
      cases i <;> simp [ptS, this]
theorem mem_ptF {s f : Nat} {p q : List PA} : ∀ {l : List It}, It.fv s f p q ∈ l → ∀ x, x ∈ p ∨ x ∈ q → x.id ∈ ptS l
  | i :: r, h, x, hx => by
    rcases List.mem_cons.1 h with h | h
    · subst h
      simp only [ptS, List.mem_append, List.mem_map]
      rcases hx with hx | hx
      · exact .inl ⟨x, hx, rfl⟩
      · exact .inr (.inl ⟨x, hx, rfl⟩)
    · have := mem_ptF h x hx
      cases i <;> simp [ptS, this]
section
variable {base : Nat} {φ : Phi} {st : St} {a : Act} {w : World}
def slotPh (φ : Phi) (st : St) (a : Act) (s : Nat) (t : Ty) : Option Phys :=
  match st.tm.get s with
  | some (⟨.slice, some q⟩, _) => match φ q.id, a.tmps.getD s undef with
    | some ph, .slice (some _) _ c => if 0 < c then some ⟨ph.blk, ph.off + q.start * size t, t, c⟩ else none
    | _, _ => none
  | _ => none
def ownAd (φ : Phi) (st : St) (a : Act) (w : World) : List It → Nat → Option Phys
  | [], _ => none
  | .ow s c t :: r, i => if i = c then slotPh φ st a s t else ownAd φ st a w r i
  | .ob j D :: r, i => if i ∈ D.nms then obPh φ st.mem w j D i else ownAd φ st a w r i
  | .ro j D :: r, i => if i ∈ D.nms then obPhI φ st.mem w j D i else ownAd φ st a w r i
  | _ :: r, i => ownAd φ st a w r i
theorem ownAd_mem : ∀ {l : List It}, noDup (nmS l) = true → ∀ s c t, It.ow s c t ∈ l → ownAd φ st a w l c = slotPh φ st a s t
  | [], _, s, c, t, h => by simp at h
  | .ow s' c' t' :: r, hd, s, c, t, h => by
    obtain ⟨h1, h2⟩ := noDup_cons hd
    simp only [List.mem_cons, It.ow.injEq] at h
    rcases h with ⟨rfl, rfl, rfl⟩ | h
    · simp [ownAd]
    · have hc : c ∈ nmS r := owS_sub (mem_owS h)
      simp only [ownAd]
      rw [if_neg (fun e => by rw [e] at hc; exact h1 hc)]
      exact ownAd_mem h2 s c t h
  | .sl _ _ :: r, hd, s, c, t, h => by
    have h : It.ow s c t ∈ r := by simpa using h
    simp only [ownAd]; exact ownAd_mem (l := r) hd s c t h
  | .bl _ _ :: r, hd, s, c, t, h => by
    have h : It.ow s c t ∈ r := by simpa using h
    simp only [ownAd]; exact ownAd_mem (l := r) (noDup_cons hd).2 s c t h
  | .rb _ _ :: r, hd, s, c, t, h => by
    have h : It.ow s c t ∈ r := by simpa using h
    simp only [ownAd]; exact ownAd_mem (l := r) (noDup_cons hd).2 s c t h
  | .pt _ _ :: r, hd, s, c, t, h => by
    have h : It.ow s c t ∈ r := by simpa using h
    simp only [ownAd]; exact ownAd_mem (l := r) hd s c t h
  | .nl _ :: r, hd, s, c, t, h => by
    have h : It.ow s c t ∈ r := by simpa using h
    simp only [ownAd]; exact ownAd_mem (l := r) hd s c t h
  | .fv _ _ _ _ :: r, hd, s, c, t, h => by
    have h : It.ow s c t ∈ r := by simpa using h
    simp only [ownAd]; exact ownAd_mem (l := r) hd s c t h
  | .ob j D :: r, hd, s, c, t, h => by
    have h : It.ow s c t ∈ r := by simpa using h
    obtain ⟨h1, h2⟩ := noDup_cons hd
    obtain ⟨_, h4, h5⟩ := noDup_append h2
    have hc : c ∈ nmS r := owS_sub (mem_owS h)
    simp only [ownAd]
    rw [if_neg (fun e => h5 c e hc)]
    exact ownAd_mem h4 s c t h
  | .ro j D :: r, hd, s, c, t, h => by
    have h : It.ow s c t ∈ r := by simpa using h
    obtain ⟨h1, h2⟩ := noDup_cons hd
    obtain ⟨_, h4, h5⟩ := noDup_append h2
    have hc : c ∈ nmS r := owS_sub (mem_owS h)
    simp only [ownAd]
    rw [if_neg (fun e => h5 c e hc)]
    exact ownAd_mem h4 s c t h
theorem ownAd_ob : ∀ {l : List It}, noDup (nmS l) = true → ∀ i D, It.ob i D ∈ l → ∀ c ∈ D.nms, ownAd φ st a w l c = obPh φ st.mem w i D c
  | [], _, i, D, h, _, _ => by simp at h
  | .ow s' c' t' :: r, hd, i, D, h, c, hc => by
    have h : It.ob i D ∈ r := by simpa using h
    obtain ⟨h1, h2⟩ := noDup_cons hd
    have hcn : c ∈ nmS r := owS_sub ((mem_obS h).2 c hc)
    simp only [ownAd]
    rw [if_neg (fun e => by rw [e] at hcn; exact h1 hcn)]
    exact ownAd_ob h2 i D h c hc
  | .sl _ _ :: r, hd, i, D, h, c, hc => by
    have h : It.ob i D ∈ r := by simpa using h
    simp only [ownAd]; exact ownAd_ob (l := r) hd i D h c hc
  | .bl _ _ :: r, hd, i, D, h, c, hc => by
    have h : It.ob i D ∈ r := by simpa using h
    simp only [ownAd]; exact ownAd_ob (l := r) (noDup_cons hd).2 i D h c hc
  | .rb _ _ :: r, hd, i, D, h, c, hc => by
    have h : It.ob i D ∈ r := by simpa using h
    simp only [ownAd]; exact ownAd_ob (l := r) (noDup_cons hd).2 i D h c hc
  | .pt _ _ :: r, hd, i, D, h, c, hc => by
    have h : It.ob i D ∈ r := by simpa using h
    simp only [ownAd]; exact ownAd_ob (l := r) hd i D h c hc
  | .nl _ :: r, hd, i, D, h, c, hc => by
    have h : It.ob i D ∈ r := by simpa using h
    simp only [ownAd]; exact ownAd_ob (l := r) hd i D h c hc
  | .fv _ _ _ _ :: r, hd, i, D, h, c, hc => by
    have h : It.ob i D ∈ r := by simpa using h
    simp only [ownAd]; exact ownAd_ob (l := r) hd i D h c hc
  | .ob j D' :: r, hd, i, D, h, c, hc => by
    obtain ⟨h1, h2⟩ := noDup_cons hd
    obtain ⟨_, h4, h5⟩ := noDup_append h2
    simp only [List.mem_cons, It.ob.injEq] at h
    simp only [ownAd]
    rcases h with ⟨rfl, rfl⟩ | h
    · rw [if_pos hc]
    · have hcn : c ∈ nmS r := owS_sub ((mem_obS h).2 c hc)
      rw [if_neg (fun e => h5 c e hcn)]
      exact ownAd_ob h4 i D h c hc
  | .ro j D' :: r, hd, i, D, h, c, hc => by
    have h : It.ob i D ∈ r := by simpa using h
    obtain ⟨h1, h2⟩ := noDup_cons hd
    obtain ⟨_, h4, h5⟩ := noDup_append h2
    have hcn : c ∈ nmS r := owS_sub ((mem_obS h).2 c hc)
    simp only [ownAd]
    rw [if_neg (fun e => h5 c e hcn)]
    exact ownAd_ob h4 i D h c hc
theorem ownAd_ro : ∀ {l : List It}, noDup (nmS l) = true → ∀ i D, It.ro i D ∈ l → ∀ c ∈ D.nms, ownAd φ st a w l c = obPhI φ st.mem w i D c
  | [], _, i, D, h, _, _ => by simp at h
  | .ow s' c' t' :: r, hd, i, D, h, c, hc => by
    have h : It.ro i D ∈ r := by simpa using h
    obtain ⟨h1, h2⟩ := noDup_cons hd
    have hcn : c ∈ nmS r := owS_sub ((mem_roS h).2 c hc)
    simp only [ownAd]
    rw [if_neg (fun e => by rw [e] at hcn; exact h1 hcn)]
    exact ownAd_ro h2 i D h c hc
  | .sl _ _ :: r, hd, i, D, h, c, hc => by
    have h : It.ro i D ∈ r := by simpa using h
    simp only [ownAd]; exact ownAd_ro (l := r) hd i D h c hc
  | .bl _ _ :: r, hd, i, D, h, c, hc => by
    have h : It.ro i D ∈ r := by simpa using h
    simp only [ownAd]; exact ownAd_ro (l := r) (noDup_cons hd).2 i D h c hc
  | .rb _ _ :: r, hd, i, D, h, c, hc => by
    have h : It.ro i D ∈ r := by simpa using h
    simp only [ownAd]; exact ownAd_ro (l := r) (noDup_cons hd).2 i D h c hc
  | .pt _ _ :: r, hd, i, D, h, c, hc => by
    have h : It.ro i D ∈ r := by simpa using h
    simp only [ownAd]; exact ownAd_ro (l := r) hd i D h c hc
  | .nl _ :: r, hd, i, D, h, c, hc => by
    have h : It.ro i D ∈ r := by simpa using h
    simp only [ownAd]; exact ownAd_ro (l := r) hd i D h c hc
  | .fv _ _ _ _ :: r, hd, i, D, h, c, hc => by
    have h : It.ro i D ∈ r := by simpa using h
    simp only [ownAd]; exact ownAd_ro (l := r) hd i D h c hc
  | .ro j D' :: r, hd, i, D, h, c, hc => by
    obtain ⟨h1, h2⟩ := noDup_cons hd
    obtain ⟨_, h4, h5⟩ := noDup_append h2
    simp only [List.mem_cons, It.ro.injEq] at h
    simp only [ownAd]
    rcases h with ⟨rfl, rfl⟩ | h
    · rw [if_pos hc]
    · have hcn : c ∈ nmS r := owS_sub ((mem_roS h).2 c hc)
      rw [if_neg (fun e => h5 c e hcn)]
      exact ownAd_ro h4 i D h c hc
  | .ob j D' :: r, hd, i, D, h, c, hc => by
    have h : It.ro i D ∈ r := by simpa using h
    obtain ⟨h1, h2⟩ := noDup_cons hd
    obtain ⟨_, h4, h5⟩ := noDup_append h2
    have hcn : c ∈ nmS r := owS_sub ((mem_roS h).2 c hc)
    simp only [ownAd]
    rw [if_neg (fun e => h5 c e hcn)]
    exact ownAd_ro h4 i D h c hc
theorem ownAd_lt (hm : ∀ i ph, φ i = some ph → ph.blk < w.heap.size) : ∀ {l : List It} {i : Nat} {ph : Phys}, ownAd φ st a w l i = some ph → ph.blk < w.heap.size
  | [], i, ph, h => by cases h
  | .ow s c t :: r, i, ph, h => by
    simp only [ownAd] at h
    by_cases e : i = c
    · rw [if_pos e] at h
      unfold slotPh at h
      split at h
      · split at h
        · rename_i ph0 _ _ _ h0 _
          split at h
          · cases h; exact hm _ ph0 h0
          · cases h
        · cases h
      · cases h
    · rw [if_neg e] at h; exact ownAd_lt hm h
  | .sl _ _ :: r, i, ph, h => by simp only [ownAd] at h; exact ownAd_lt hm h
  | .bl _ _ :: r, i, ph, h => by simp only [ownAd] at h; exact ownAd_lt hm h
  | .rb _ _ :: r, i, ph, h => by simp only [ownAd] at h; exact ownAd_lt hm h
  | .pt _ _ :: r, i, ph, h => by simp only [ownAd] at h; exact ownAd_lt hm h
  | .nl _ :: r, i, ph, h => by simp only [ownAd] at h; exact ownAd_lt hm h
  | .fv _ _ _ _ :: r, i, ph, h => by simp only [ownAd] at h; exact ownAd_lt hm h
  | .ob j D :: r, i, ph, h => by
    simp only [ownAd] at h
    split at h
    · exact obPh_lt hm h
    · exact ownAd_lt hm h
  | .ro j D :: r, i, ph, h => by
    simp only [ownAd] at h
    split at h
    · exact obPhI_lt hm h
    · exact ownAd_lt hm h
def nwPhi (φ : Phi) (st : St) (a : Act) (w : World) (kp : Nat) (L : List It) : Phi :=
  ⟨fun i => if i ∈ owS L then ownAd φ st a w L i else if i < kp ∨ i ∈ blS L then φ i else none, φ.imm, φ.lo⟩
theorem CR_imm' {φ ψ : Phi} (h : φ.imm = ψ.imm) {t : Ty} (ht : valT t = true) {x : t.den} {c : Cell} {i : Nat} (hc : (flat t x)[i]? = some c) {v : Value} (hr : CR φ c v) : CR ψ c v :=
  CR_imm (fun k o hk => by rw [← h]; exact hk) (val_cells ht c (List.mem_of_getElem? hc)) hr
theorem extS_suffix (hr : Rel base φ st a w) {kp nxt : Nat} {L : List It} (hnd : noDup (nmS L) = true) (hkp : ∀ c ∈ owS L, kp ≤ c) (hpt : ∀ i ∈ ptS L, i < kp ∨ i ∈ blS L) :
    ∀ {l : List It} {x : XD l} {u : List Nat}, (∀ i ∈ l, i ∈ L) → noDup (nmS l) = true → (∀ i ∈ l, plainIt i = true) → extS l st = some (x, true, u) →
      TmR (nwPhi φ st a w kp L) (mkS st.n nxt l x).tm a.tmps ∧
      (∀ i b, Mem.get (mkS st.n nxt l x).mem i = some b → i ∈ nmS l ∧ ((nwPhi φ st a w kp L i = none ∧ b.n = 0) ∨ ∃ ph, nwPhi φ st a w kp L i = some ph ∧ BlkRel base (nwPhi φ st a w kp L) ph b w ∧
        ∃ i0 b0 ph0, i0 ∈ u ∧ Mem.get st.mem i0 = some b0 ∧ (b.wr = true → b0.wr = true) ∧ φ i0 = some ph0 ∧ ph0.blk = ph.blk)) ∧
      (∀ i j b b' ph ph', Mem.get (mkS st.n nxt l x).mem i = some b → Mem.get (mkS st.n nxt l x).mem j = some b' → i ≠ j → b.wr = true → nwPhi φ st a w kp L i = some ph → nwPhi φ st a w kp L j = some ph' → ph.blk ≠ ph'.blk)
  | [], x, u, _, _, _, h => by
    refine ⟨fun s v c hs => ?_, fun i b hi => ?_, fun i j b b' ph ph' hi => ?_⟩
    · simp [mkS, Tr.get] at hs
    · simp [mkS, Mem.get] at hi
    · simp [mkS, Mem.get] at hi
  | .sl s t :: r, x, u, hsub, hd, hpl, h => by
    simp only [extS] at h
    split at h
    · rename_i v c y d u' hs he
      split at h
      · rename_i z hz
        simp only [Option.some.injEq, Prod.mk.injEq] at h
        obtain ⟨rfl, hok, rfl⟩ := h
        obtain ⟨rfl, rfl⟩ := and_split hok
        obtain ⟨h1, h2, h3⟩ := extS_suffix hr hnd hkp hpt (l := r) (nxt := nxt) (fun i hi => hsub i (by simp [hi])) hd (fun i hi => hpl i (by simp [hi])) he
        refine ⟨fun s' v' c' hs' => ?_, h2, h3⟩
        simp only [mkS] at hs'
        rcases Tr.get_set hs' with ⟨rfl, hh⟩ | ⟨_, hh⟩
        · cases hh
          refine ⟨fun _ => ?_, fun e => (by cases e)⟩
          have hv := coeV_ok (t := t) ((hr.tm _ _ _ hs).1 rfl)
          rw [asT_eq hz] at hv
          exact valV_ok (φ := φ) (ψ := nwPhi φ st a w kp L) (fun _ _ h => h) (by have := hpl (.sl s' t) (by simp); simp only [plainIt] at this; simp [valV, this]) hv
        · exact h1 s' v' c' hh
      · cases h
    · cases h
  | .pt s p :: r, x, u, hsub, hd, hpl, h => by
    simp only [extS] at h
    split at h
    · rename_i p' c y d u' hs he
      split at h
      · rename_i hpp
        subst hpp
        simp only [Option.some.injEq, Prod.mk.injEq] at h
        obtain ⟨rfl, hok, rfl⟩ := h
        obtain ⟨rfl, rfl⟩ := and_split hok
        obtain ⟨h1, h2, h3⟩ := extS_suffix hr hnd hkp hpt (l := r) (nxt := nxt) (fun i hi => hsub i (by simp [hi])) hd (fun i hi => hpl i (by simp [hi])) he
        refine ⟨fun s' v' c' hs' => ?_, h2, h3⟩
        simp only [mkS] at hs'
        rcases Tr.get_set hs' with ⟨rfl, hh⟩ | ⟨_, hh⟩
        · cases hh
          refine ⟨fun _ => ?_, fun e => (by cases e)⟩
          obtain ⟨ad, had, hav⟩ := VR_ptr.1 ((hr.tm _ _ _ hs).1 rfl)
          refine VR_ptr.2 ⟨ad, ?_, hav⟩
          have hin : p'.id ∈ ptS L := mem_ptS (hsub (.pt s' p') (by simp))
          have hnw : nwPhi φ st a w kp L p'.id = φ p'.id := by
            show (if p'.id ∈ owS L then _ else if p'.id < kp ∨ p'.id ∈ blS L then φ p'.id else none) = _
            rw [if_neg, if_pos (hpt _ hin)]
            intro ho
            rcases hpt _ hin with h | h
            · have := hkp _ ho; omega
            · exact nm_disj hnd ho h
          unfold addr at had ⊢
          rw [hnw]; exact had
        · exact h1 s' v' c' hh
      · cases h
    · cases h
  | .bl i t :: r, x, u, hsub, hd, hpl, h => by
    simp only [extS] at h
    split at h
    · rename_i b y d u' hb he
      split at h
      · rename_i hbt
        cases hc : u'.contains i <;> rw [hc] at h
        · simp only [cond_false, Option.some.injEq, Prod.mk.injEq] at h
          obtain ⟨rfl, hok, rfl⟩ := h
          obtain ⟨hb, hbnt⟩ := Mem.getC_spec hb
          obtain ⟨hwr, hok⟩ := and_split hok
          obtain ⟨hn1, rfl⟩ := and_split hok
          obtain ⟨bt, bn, brow, bwr⟩ := b
          simp only at hbt hwr hn1 hbnt
          subst hbt
          have hn1 := Nat.eq_of_beq_eq_true hn1
          subst hn1; subst hwr
          obtain ⟨hnin, hd'⟩ := noDup_cons hd
          have hiu : i ∉ u' := by intro hm; rw [show u'.contains i = true from by simpa using hm] at hc; cases hc
          obtain ⟨h1, h2, h3⟩ := extS_suffix hr hnd hkp hpt (l := r) (nxt := nxt) (fun i hi => hsub i (by simp [hi])) hd' (fun i hi => hpl i (by simp [hi])) he
          have hmemL : i ∈ blS L := mem_blS (hsub (.bl i bt) (by simp))
          have hnw : nwPhi φ st a w kp L i = φ i := by
            show (if i ∈ owS L then _ else if i < kp ∨ i ∈ blS L then φ i else none) = _
            rw [if_neg (fun ho => nm_disj hnd ho hmemL), if_pos (.inr hmemL)]
          have hT : valT bt = true := hpl (.bl i bt) (by simp)
          have hnew : (φ i = none ∧ (1 : Nat) = 0) ∨ ∃ ph, φ i = some ph ∧ BlkRel base φ ph ⟨bt, 1, brow, true⟩ w := by
            rcases hr.mem.blk i _ hb with ⟨_, h0⟩ | h
            · simp at h0
            · exact .inr h
          obtain ⟨ph, hph, hbr⟩ := hnew.resolve_left (fun h => by omega)
          have hbr' : BlkRel base (nwPhi φ st a w kp L) ph ⟨bt, 1, [brow.getD 0 (dflt bt)], true⟩ w := by
            obtain ⟨cs, el, fr, g1, g2, g3⟩ := hbr.cells hbnt
            refine ⟨hbr.t, fun _ => ⟨(g3 rfl).1, (g3 rfl).2.2.1⟩, MpRel.plain hbnt _, fun _ => ⟨cs, el, fr, g1, fun k c hk => ?_, fun _ => g3 rfl⟩⟩
            have hk' : (flat (.arr 1 bt) brow)[k]? = some c := by
              have e1 : flat (.arr 1 bt) brow = flat bt (brow.getD 0 (dflt bt)) := by simp [flat, List.range_succ]
              rw [e1, ← flat_one]; exact hk
            obtain ⟨v, hv, hx⟩ := g2 k c hk'
            exact ⟨v, hv, CR_imm' (φ := φ) (ψ := nwPhi φ st a w kp L) (t := .arr 1 bt) rfl (by simpa [valT] using hT) hk' hx⟩
          refine ⟨h1, fun j b hj => ?_, fun j k b b' p p' hj hk hjk hw hp hp' => ?_⟩
          · simp only [mkS, Mem.get_cons] at hj
            by_cases e : j = i
            · rw [if_pos e] at hj; cases hj; subst e
              exact ⟨by simp [nmS], .inr ⟨ph, hnw.trans hph, hbr', j, _, ph, by simp, hb, fun _ => rfl, hph, rfl⟩⟩
            · rw [if_neg e] at hj
              obtain ⟨g1, g2⟩ := h2 j b hj
              refine ⟨by simp [nmS, g1], g2.imp id (fun ⟨ph, k1, k2, i0, b0, ph0, k3, k4⟩ => ⟨ph, k1, k2, i0, b0, ph0, by simp [k3], k4⟩)⟩
          · simp only [mkS, Mem.get_cons] at hj hk
            have other : ∀ j b p, Mem.get (mkS st.n nxt r y).mem j = some b → nwPhi φ st a w kp L j = some p → p.blk ≠ ph.blk := by
              intro j b p hj hp
              rcases (h2 j b hj).2 with ⟨g, _⟩ | ⟨ph', k1, _, i0, b0, ph0, k3, k4, k5, k6, k7⟩
              · rw [hp] at g; cases g
              · rw [hp] at k1; cases k1
                rw [← k7]
                exact (hr.mem.apart i i0 _ b0 ph ph0 hb k4 (fun e => hiu (e ▸ k3)) rfl hph k6).symm
            by_cases e1 : j = i
            · subst e1
              rw [if_neg (fun e => hjk e.symm)] at hk
              rw [hnw, hph] at hp; cases hp
              exact (other k b' p' hk hp').symm
            · rw [if_neg e1] at hj
              by_cases e2 : k = i
              · subst e2
                rw [hnw, hph] at hp'; cases hp'
                exact other j b p hj hp
              · rw [if_neg e2] at hk
                exact h3 j k b b' p p' hj hk hjk hw hp hp'
        · cases h
      · cases h
    · cases h
  | .rb i t :: r, x, u, hsub, hd, hpl, h => by
    simp only [extS] at h
    split at h
    · rename_i b y d u' hb he
      split at h
      · rename_i hbt
        cases hc : u'.contains i <;> rw [hc] at h
        · simp only [cond_false, Option.some.injEq, Prod.mk.injEq] at h
          obtain ⟨rfl, hok, rfl⟩ := h
          obtain ⟨hb, hbnt⟩ := Mem.getC_spec hb
          obtain ⟨hn1, rfl⟩ := and_split hok
          obtain ⟨bt, bn, brow, bwr⟩ := b
          simp only at hbt hn1 hbnt
          subst hbt
          have hn1 := Nat.eq_of_beq_eq_true hn1
          subst hn1
          obtain ⟨hnin, hd'⟩ := noDup_cons hd
          have hiu : i ∉ u' := by intro hm; rw [show u'.contains i = true from by simpa using hm] at hc; cases hc
          obtain ⟨h1, h2, h3⟩ := extS_suffix hr hnd hkp hpt (l := r) (nxt := nxt) (fun i hi => hsub i (by simp [hi])) hd' (fun i hi => hpl i (by simp [hi])) he
          have hmemL : i ∈ blS L := mem_rbS (hsub (.rb i bt) (by simp))
          have hnw : nwPhi φ st a w kp L i = φ i := by
            show (if i ∈ owS L then _ else if i < kp ∨ i ∈ blS L then φ i else none) = _
            rw [if_neg (fun ho => nm_disj hnd ho hmemL), if_pos (.inr hmemL)]
          have hT : valT bt = true := hpl (.rb i bt) (by simp)
          have hnew : (φ i = none ∧ (1 : Nat) = 0) ∨ ∃ ph, φ i = some ph ∧ BlkRel base φ ph ⟨bt, 1, brow, bwr⟩ w := by
            rcases hr.mem.blk i _ hb with ⟨_, h0⟩ | h
            · simp at h0
            · exact .inr h
          obtain ⟨ph, hph, hbr⟩ := hnew.resolve_left (fun h => by omega)
          have hbr' : BlkRel base (nwPhi φ st a w kp L) ph ⟨bt, 1, [brow.getD 0 (dflt bt)], false⟩ w := by
            obtain ⟨cs, el, fr, g1, g2, g3⟩ := hbr.cells hbnt
            refine ⟨hbr.t, fun e => (by cases e), MpRel.plain hbnt _, fun _ => ⟨cs, el, fr, g1, fun k c hk => ?_, fun e => (by cases e)⟩⟩
            have hk' : (flat (.arr 1 bt) brow)[k]? = some c := by
              have e1 : flat (.arr 1 bt) brow = flat bt (brow.getD 0 (dflt bt)) := by simp [flat, List.range_succ]
              rw [e1, ← flat_one]; exact hk
            obtain ⟨v, hv, hx⟩ := g2 k c hk'
            exact ⟨v, hv, CR_imm' (φ := φ) (ψ := nwPhi φ st a w kp L) (t := .arr 1 bt) rfl (by simpa [valT] using hT) hk' hx⟩
          refine ⟨h1, fun j b hj => ?_, fun j k b b' p p' hj hk hjk hw hp hp' => ?_⟩
          · simp only [mkS, Mem.get_cons] at hj
            by_cases e : j = i
            · rw [if_pos e] at hj; cases hj; subst e
              exact ⟨by simp [nmS], .inr ⟨ph, hnw.trans hph, hbr', j, _, ph, by simp, hb, fun e => (by cases e), hph, rfl⟩⟩
            · rw [if_neg e] at hj
              obtain ⟨g1, g2⟩ := h2 j b hj
              refine ⟨by simp [nmS, g1], g2.imp id (fun ⟨ph, k1, k2, i0, b0, ph0, k3, k4⟩ => ⟨ph, k1, k2, i0, b0, ph0, by simp [k3], k4⟩)⟩
          · simp only [mkS, Mem.get_cons] at hj hk
            have other : ∀ j b p, Mem.get (mkS st.n nxt r y).mem j = some b → b.wr = true → nwPhi φ st a w kp L j = some p → p.blk ≠ ph.blk := by
              intro j b p hj hw hp
              rcases (h2 j b hj).2 with ⟨g, _⟩ | ⟨ph', k1, _, i0, b0, ph0, k3, k4, k5, k6, k7⟩
              · rw [hp] at g; cases g
              · rw [hp] at k1; cases k1
                rw [← k7]
                exact hr.mem.apart i0 i b0 _ ph0 ph k4 hb (fun e => hiu (e ▸ k3)) (k5 hw) k6 hph
            by_cases e1 : j = i
            · subst e1
              rw [if_pos rfl] at hj
              cases hj
              cases hw
            · rw [if_neg e1] at hj
              by_cases e2 : k = i
              · subst e2
                rw [hnw, hph] at hp'; cases hp'
                exact other j b p hj hw hp
              · rw [if_neg e2] at hk
                exact h3 j k b b' p p' hj hk hjk hw hp hp'
        · cases h
      · cases h
    · cases h
  | .fv s f p q :: r, x, u, hsub, hd, hpl, h => by
    simp only [extS] at h
    split at h
    · rename_i g av bv c y d u' hs he
      cases hb : Nat.beq g f && (isPks p av && isPks q bv) <;> rw [hb] at h
      · cases h
      obtain ⟨hb1, hb23⟩ := and_split hb
      obtain ⟨hb2, hb3⟩ := and_split hb23
      have hgf := Nat.eq_of_beq_eq_true hb1
      have hav := isPks_eq hb2
      have hbv := isPks_eq hb3
      subst hgf; subst hav; subst hbv
      simp only [cond_true, Option.some.injEq, Prod.mk.injEq] at h
      obtain ⟨rfl, hok, rfl⟩ := h
      obtain ⟨rfl, rfl⟩ := and_split hok
      obtain ⟨h1, h2, h3⟩ := extS_suffix hr hnd hkp hpt (l := r) (nxt := nxt) (fun i hi => hsub i (by simp [hi])) hd (fun i hi => hpl i (by simp [hi])) he
      refine ⟨fun s' v' c' hs' => ?_, h2, h3⟩
      simp only [mkS] at hs'
      rcases Tr.get_set hs' with ⟨rfl, hh⟩ | ⟨_, hh⟩
      · cases hh
        refine ⟨fun _ => ?_, fun e => (by cases e)⟩
        have hid : ∀ x, x ∈ p ∨ x ∈ q → nwPhi φ st a w kp L x.id = φ x.id := by
          intro x hx
          have hin : x.id ∈ ptS L := mem_ptF (hsub (.fv s' g p q) (by simp)) x hx
          show (if x.id ∈ owS L then _ else if x.id < kp ∨ x.id ∈ blS L then φ x.id else none) = _
          rw [if_neg, if_pos (hpt _ hin)]
          intro ho
          rcases hpt _ hin with h | h
          · have := hkp _ ho; omega
          · exact nm_disj hnd ho h
        obtain ⟨xa, xb, hv, g1, g2⟩ := VR_func.1 ((hr.tm _ _ _ hs).1 rfl)
        exact VR_func.2 ⟨xa, xb, hv, VL0_ptrs (fun x hx => hid x (.inl hx)) g1, VL0_ptrs (fun x hx => hid x (.inr hx)) g2⟩
      · exact h1 s' v' c' hh
    · cases h
  | .nl s :: r, x, u, hsub, hd, hpl, h => by
    simp only [extS] at h
    split at h
    · rename_i c y d u' hs he
      simp only [Option.some.injEq, Prod.mk.injEq] at h
      obtain ⟨rfl, hok, rfl⟩ := h
      obtain ⟨rfl, rfl⟩ := and_split hok
      obtain ⟨h1, h2, h3⟩ := extS_suffix hr hnd hkp hpt (l := r) (nxt := nxt) (fun i hi => hsub i (by simp [hi])) hd (fun i hi => hpl i (by simp [hi])) he
      refine ⟨fun s' v' c' hs' => ?_, h2, h3⟩
      simp only [mkS] at hs'
      rcases Tr.get_set hs' with ⟨rfl, hh⟩ | ⟨_, hh⟩
      · cases hh
        exact ⟨fun _ => VR_nilptr.2 (VR_nilptr.1 ((hr.tm _ _ _ hs).1 rfl)), fun e => (by cases e)⟩
      · exact h1 s' v' c' hh
    · cases h
  | .ob i D :: r, x, u, hsub, hd, hpl, h => by
    simp only [extS] at h
    split at h
    · rename_i b y d u' hb he
      split at h
      · rename_i x' c v hrd
        cases hc : anyIn v u' <;> rw [hc] at h
        · simp only [cond_false, Option.some.injEq, Prod.mk.injEq] at h
          obtain ⟨rfl, hok, rfl⟩ := h
          obtain ⟨rfl, rfl⟩ := and_split hok
          obtain ⟨g1, g2⟩ := noDup_cons hd
          obtain ⟨g3, g4, g5⟩ := noDup_append g2
          obtain ⟨h1, h2, h3⟩ := extS_suffix hr hnd hkp hpt (l := r) (nxt := nxt) (fun i hi => hsub i (by simp [hi])) g4 (fun i hi => hpl i (by simp [hi])) he
          have hin : It.ob i D ∈ L := hsub (.ob i D) (by simp)
          obtain ⟨hbL, hoL⟩ := mem_obS hin
          have hnwi : nwPhi φ st a w kp L i = φ i := by
            show (if i ∈ owS L then _ else if i < kp ∨ i ∈ blS L then φ i else none) = _
            rw [if_neg (fun ho => nm_disj hnd ho hbL), if_pos (.inr hbL)]
          have hA := ob_sound (ψ := nwPhi φ st a w kp L) hr.mem rfl hb hrd (hpl (.ob i D) (by simp)) g3 hnwi (fun c hc => by
            show (if c ∈ owS L then ownAd φ st a w L c else _) = _
            rw [if_pos (hoL c hc)]
            exact ownAd_ob hnd i D hin c hc)
          have hB : MemAt base φ (nwPhi φ st a w kp L) st.mem w u' (mkS st.n nxt r y).mem := ⟨fun i b hi => (h2 i b hi).2, h3⟩
          have hAB := hA.append hr.mem (anyIn_f hc) hB
          refine ⟨h1, fun j b hj => ⟨?_, hAB.at_ j b hj⟩, hAB.apart⟩
          simp only [mkS, Mem.get_append] at hj
          simp only [nmS, List.mem_cons, List.mem_append]
          split at hj
          · rename_i z hz
            simp only [Mem.get_cons] at hz
            by_cases e : j = i
            · exact .inl e
            · rw [if_neg e] at hz; exact .inr (.inl (Dk.get_blks hz))
          · exact .inr (.inr (h2 j b hj).1)
        · cases h
      · cases h
    · cases h
  | .ro i D :: r, x, u, hsub, hd, hpl, h => by
    simp only [extS] at h
    split at h
    · rename_i b y d u' hb he
      split at h
      · rename_i x' c v hrd
        cases hc : anyIn v u' <;> rw [hc] at h
        · simp only [cond_false, Option.some.injEq, Prod.mk.injEq] at h
          obtain ⟨rfl, hok, rfl⟩ := h
          obtain ⟨rfl, rfl⟩ := and_split hok
          obtain ⟨g1, g2⟩ := noDup_cons hd
          obtain ⟨g3, g4, g5⟩ := noDup_append g2
          obtain ⟨h1, h2, h3⟩ := extS_suffix hr hnd hkp hpt (l := r) (nxt := nxt) (fun i hi => hsub i (by simp [hi])) g4 (fun i hi => hpl i (by simp [hi])) he
          have hin : It.ro i D ∈ L := hsub (.ro i D) (by simp)
          obtain ⟨hbL, hoL⟩ := mem_roS hin
          have hnwi : nwPhi φ st a w kp L i = φ i := by
            show (if i ∈ owS L then _ else if i < kp ∨ i ∈ blS L then φ i else none) = _
            rw [if_neg (fun ho => nm_disj hnd ho hbL), if_pos (.inr hbL)]
          have hA := obI_sound (ψ := nwPhi φ st a w kp L) hr.mem rfl hb hrd (hpl (.ro i D) (by simp)) g3 hnwi (fun c hc => by
            show (if c ∈ owS L then ownAd φ st a w L c else _) = _
            rw [if_pos (hoL c hc)]
            exact ownAd_ro hnd i D hin c hc)
          have hB : MemAt base φ (nwPhi φ st a w kp L) st.mem w u' (mkS st.n nxt r y).mem := ⟨fun i b hi => (h2 i b hi).2, h3⟩
          have hAB := hA.append hr.mem (anyIn_f hc) hB
          refine ⟨h1, fun j b hj => ⟨?_, hAB.at_ j b hj⟩, hAB.apart⟩
          simp only [mkS, Mem.get_append] at hj
          simp only [nmS, List.mem_cons, List.mem_append]
          split at hj
          · rename_i z hz
            simp only [Mem.get_cons] at hz
            by_cases e : j = i
            · exact .inl e
            · rw [if_neg e] at hz; exact .inr (.inl (Dk.get_blksR hz))
          · exact .inr (.inr (h2 j b hj).1)
        · cases h
      · cases h
    · cases h
  | .ow s c t :: r, x, u, hsub, hd, hpl, h => by
    simp only [extS] at h
    obtain ⟨hnin, hd'⟩ := noDup_cons hd
    have hcL : c ∈ owS L := mem_owS (hsub (.ow s c t) (by simp))
    have hnw : nwPhi φ st a w kp L c = slotPh φ st a s t := by
      show (if c ∈ owS L then ownAd φ st a w L c else _) = _
      rw [if_pos hcL]
      exact ownAd_mem hnd s c t (hsub (.ow s c t) (by simp))
    have hT : valT t = true := hpl (.ow s c t) (by simp)
    split at h
    · rename_i e y d u' hs he
      simp only [Option.some.injEq, Prod.mk.injEq] at h
      obtain ⟨rfl, hok, rfl⟩ := h
      obtain ⟨rfl, rfl⟩ := and_split hok
      obtain ⟨h1, h2, h3⟩ := extS_suffix hr hnd hkp hpt (l := r) (nxt := nxt) (fun i hi => hsub i (by simp [hi])) hd' (fun i hi => hpl i (by simp [hi])) he
      have hv := VR_nilslice.1 ((hr.tm _ _ _ hs).1 rfl)
      have hnone : nwPhi φ st a w kp L c = none := by rw [hnw]; unfold slotPh; rw [hs]
      refine ⟨fun s' v' c' hs' => ?_, fun j b hj => ?_, fun j k b b' p p' hj hk hjk hw hp hp' => ?_⟩
      · simp only [mkS] at hs'
        rcases Tr.get_set hs' with ⟨rfl, hh⟩ | ⟨_, hh⟩
        · cases hh
          exact ⟨fun _ => VR_slice.2 (.inl ⟨rfl, rfl, hv⟩), fun e => (by cases e)⟩
        · exact h1 s' v' c' hh
      · simp only [mkS, Mem.get_cons] at hj
        by_cases e : j = c
        · rw [if_pos e] at hj; cases hj; subst e
          exact ⟨by simp [nmS], .inl ⟨hnone, rfl⟩⟩
        · rw [if_neg e] at hj
          obtain ⟨g1, g2⟩ := h2 j b hj
          exact ⟨by simp [nmS, g1], g2⟩
      · simp only [mkS, Mem.get_cons] at hj hk
        by_cases e1 : j = c
        · subst e1; rw [hnone] at hp; cases hp
        · by_cases e2 : k = c
          · subst e2; rw [hnone] at hp'; cases hp'
          · rw [if_neg e1] at hj; rw [if_neg e2] at hk
            exact h3 j k b b' p p' hj hk hjk hw hp hp'
    · rename_i q e y d u' hs he
      split at h
      · rename_i b hqp hb
        obtain ⟨hb, hbnt⟩ := Mem.getC_spec hb
        split at h
        · rename_i hbt
          cases hc : u'.contains q.id <;> rw [hc] at h
          · simp only [cond_false, Option.some.injEq, Prod.mk.injEq] at h
            obtain ⟨rfl, hok, rfl⟩ := h
            rw [Bool.and_eq_true, Bool.and_eq_true, Bool.and_eq_true, Bool.and_eq_true, Bool.and_eq_true] at hok
            obtain ⟨hok1, hmk, hwr, hle, hcap, hok2⟩ := hok
            have hnv : ¬ VD q := VD.start (by simpa using hmk)
            subst hok1 hok2
            have hle := of_decide_eq_true hle
            obtain ⟨bt, bn, brow, bwr⟩ := b
            simp only at hbt hwr hle hcap
            subst hbt
            subst hwr
            have hiu : q.id ∉ u' := by intro hm; rw [show u'.contains q.id = true from by simpa using hm] at hc; cases hc
            obtain ⟨h1, h2, h3⟩ := extS_suffix hr hnd hkp hpt (l := r) (nxt := nxt) (fun i hi => hsub i (by simp [hi])) hd' (fun i hi => hpl i (by simp [hi])) he
            have hvv := VR_slice.1 ((hr.tm _ _ _ hs).1 rfl)
            have empty : slotPh φ st a s bt = none → q.len = 0 → (SR (nwPhi φ st a w kp L) ⟨c, [], 0, (sec (dflt bt) brow q.start q.len).length, none⟩ (a.tmps.getD s undef)) →
                TmR (nwPhi φ st a w kp L) (mkS st.n nxt (.ow s c bt :: r) (sec (dflt bt) brow q.start q.len, y)).tm a.tmps ∧
                (∀ i b, Mem.get (mkS st.n nxt (.ow s c bt :: r) (sec (dflt bt) brow q.start q.len, y)).mem i = some b → i ∈ nmS (.ow s c bt :: r) ∧ ((nwPhi φ st a w kp L i = none ∧ b.n = 0) ∨ ∃ ph, nwPhi φ st a w kp L i = some ph ∧ BlkRel base (nwPhi φ st a w kp L) ph b w ∧
                  ∃ i0 b0 ph0, i0 ∈ q.id :: u' ∧ Mem.get st.mem i0 = some b0 ∧ (b.wr = true → b0.wr = true) ∧ φ i0 = some ph0 ∧ ph0.blk = ph.blk)) ∧
                (∀ i j b b' ph ph', Mem.get (mkS st.n nxt (.ow s c bt :: r) (sec (dflt bt) brow q.start q.len, y)).mem i = some b → Mem.get (mkS st.n nxt (.ow s c bt :: r) (sec (dflt bt) brow q.start q.len, y)).mem j = some b' → i ≠ j → b.wr = true → nwPhi φ st a w kp L i = some ph → nwPhi φ st a w kp L j = some ph' → ph.blk ≠ ph'.blk) := by
              intro hsp hl0 hsr
              have hnone : nwPhi φ st a w kp L c = none := by rw [hnw]; exact hsp
              refine ⟨fun s' v' c' hs' => ?_, fun j b hj => ?_, fun j k b b' p p' hj hk hjk hw hp hp' => ?_⟩
              · simp only [mkS] at hs'
                rcases Tr.get_set hs' with ⟨rfl, hh⟩ | ⟨_, hh⟩
                · cases hh
                  exact ⟨fun _ => VR_slice.2 hsr, fun e => (by cases e)⟩
                · exact h1 s' v' c' hh
              · simp only [mkS, Mem.get_cons] at hj
                by_cases e : j = c
                · rw [if_pos e] at hj; cases hj; subst e
                  exact ⟨by simp [nmS], .inl ⟨hnone, by simp only [length_sec]; exact hl0⟩⟩
                · rw [if_neg e] at hj
                  obtain ⟨g1, g2⟩ := h2 j b hj
                  exact ⟨by simp [nmS, g1], g2.imp id (fun ⟨ph, k1, k2, i0, b0, ph0, k3, k4⟩ => ⟨ph, k1, k2, i0, b0, ph0, by simp [k3], k4⟩)⟩
              · simp only [mkS, Mem.get_cons] at hj hk
                by_cases e1 : j = c
                · subst e1; rw [hnone] at hp; cases hp
                · by_cases e2 : k = c
                  · subst e2; rw [hnone] at hp'; cases hp'
                  · rw [if_neg e1] at hj; rw [if_neg e2] at hk
                    exact h3 j k b b' p p' hj hk hjk hw hp hp'
            rcases hvv with ⟨hl0, _, hv⟩ | ⟨ad, cc, hv, hlc, hck, hcn, had⟩
            · exact empty (by unfold slotPh; rw [hs]; simp only; rw [hv]; cases φ q.id <;> rfl) hl0 (.inl ⟨by simp only [length_sec]; exact hl0, rfl, hv⟩)
            · rcases Nat.eq_zero_or_pos cc with h0 | hpos
              · have hl0 : q.len = 0 := by omega
                refine empty (by unfold slotPh; rw [hs]; simp only; rw [hv]; cases φ q.id <;> simp [h0]) hl0 (.inr ⟨ad, cc, ?_, ?_, fun k hk => (by cases hk), fun _ hc _ => (by omega), fun hc _ => (by omega)⟩)
                · simp only [length_sec]; exact hv
                · simp only [length_sec]; exact hlc
              · have ha := had hpos hnv
                obtain ⟨ph, hph⟩ := addr_phys ha
                simp only at hph
                have hbr := hr.mem.blkAt hb hph
                obtain ⟨cs, el, fr, g1, g2, g3⟩ := hbr.cells hbnt
                obtain ⟨hbs, rfl, him, hbcap, hsz⟩ := g3 rfl
                have hsp : slotPh φ st a s bt = some ⟨ph.blk, ph.off + q.start * size bt, bt, cc⟩ := by
                  unfold slotPh; rw [hs]; simp only; rw [hph, hv]; simp only; rw [if_pos hpos]
                have hsome : nwPhi φ st a w kp L c = some ⟨ph.blk, ph.off + q.start * size bt, bt, cc⟩ := hnw.trans hsp
                have hcap2 : q.start + cc ≤ ph.cap := by
                  cases hqc : q.cap with
                  | none =>
                    obtain ⟨ph', hp', _, he'⟩ := hcn hqc hpos hnv
                    rw [hph] at hp'; cases hp'
                    omega
                  | some k =>
                    have := hck k hqc
                    rw [hqc] at hcap
                    simp only [decide_eq_true_eq] at hcap
                    simp only at hbcap
                    omega
                have hadd : ad = ⟨ph.blk, ph.off + q.start * size bt, none⟩ := by
                  unfold addr at ha
                  have h00 : offs bt [] = some 0 := by cases bt <;> rfl
                  simp only [hph, hqp, List.nil_append, hbr.t] at ha
                  simp only [offs, h00, Option.map_some, Nat.add_zero, Option.some.injEq] at ha
                  exact ha.symm
                have hnb : BlkRel base (nwPhi φ st a w kp L) ⟨ph.blk, ph.off + q.start * size bt, bt, cc⟩ ⟨bt, (sec (dflt bt) brow q.start q.len).length, sec (dflt bt) brow q.start q.len, true⟩ w := by
                  refine ⟨rfl, fun _ => ⟨hbs, him⟩, MpRel.plain hbnt _, fun _ => ⟨cs, el, (0, 0), g1, fun k d hk => ?_, fun _ => ⟨hbs, rfl, him, by simp only [length_sec]; exact hlc, ?_⟩⟩⟩
                  · have hk0 : (flat (.arr q.len bt) (sec (dflt bt) brow q.start q.len))[k]? = some d := by
                      have hk' : (flat (.arr (sec (dflt bt) brow q.start q.len).length bt) (sec (dflt bt) brow q.start q.len))[k]? = some d := hk
                      rwa [length_sec] at hk'
                    have hlt := (List.getElem?_eq_some_iff.1 hk0).1
                    rw [length_flat, size] at hlt
                    have hposz : 0 < size bt := by
                      rcases Nat.eq_zero_or_pos (size bt) with h0 | h0
                      · rw [h0] at hlt; omega
                      · exact h0
                    have hq : k / size bt < q.len := Nat.div_lt_of_lt_mul (by rw [Nat.mul_comm]; exact hlt)
                    have hrr : k % size bt < size bt := Nat.mod_lt _ hposz
                    have hkk : k = k / size bt * size bt + k % size bt := by rw [Nat.mul_comm]; exact (Nat.div_add_mod k (size bt)).symm
                    have hk1 := hk0
                    rw [flat, hkk, get_flatMap_const _ (size bt) (fun i => length_flat bt _) _ _ _ hq hrr, getD_sec _ _ _ _ _ hq] at hk1
                    obtain ⟨v, hv', hvr⟩ := g2 ((q.start + k / size bt) * size bt + k % size bt) d (by
                      show (flat (.arr bn bt) brow)[_]? = some d
                      rw [flat, get_flatMap_const _ (size bt) (fun i => length_flat bt _) _ _ _ (by omega) hrr]; exact hk1)
                    refine ⟨v, ?_, CR_imm' (φ := φ) (ψ := nwPhi φ st a w kp L) (t := bt) rfl hT hk1 hvr⟩
                    rw [← hv']
                    congr 1
                    show ph.off + q.start * size bt + k = _
                    rw [Nat.add_mul]; omega
                  · simp only at hsz ⊢
                    have : (q.start + cc) * size bt ≤ ph.cap * size bt := Nat.mul_le_mul_right _ hcap2
                    rw [Nat.add_mul] at this
                    omega
                refine ⟨fun s' v' c' hs' => ?_, fun j b hj => ?_, fun j k b b' p p' hj hk hjk hw hp hp' => ?_⟩
                · simp only [mkS] at hs'
                  rcases Tr.get_set hs' with ⟨rfl, hh⟩ | ⟨_, hh⟩
                  · cases hh
                    refine ⟨fun _ => VR_slice.2 (.inr ⟨ad, cc, by simp only [length_sec]; exact hv, by simp only [length_sec]; exact hlc, fun k hk => (by cases hk), fun _ _ _ => ⟨_, hsome, rfl, by simp⟩, fun _ _ => ?_⟩), fun e => (by cases e)⟩
                    unfold addr
                    simp only [hsome]
                    have h00 : offs bt [] = some 0 := by cases bt <;> rfl
                    simp [offs, h00, hadd]
                  · exact h1 s' v' c' hh
                · simp only [mkS, Mem.get_cons] at hj
                  by_cases e : j = c
                  · rw [if_pos e] at hj; cases hj; subst e
                    exact ⟨by simp [nmS], .inr ⟨_, hsome, hnb, q.id, _, ph, by simp, hb, fun _ => rfl, hph, rfl⟩⟩
                  · rw [if_neg e] at hj
                    obtain ⟨k1, k2⟩ := h2 j b hj
                    exact ⟨by simp [nmS, k1], k2.imp id (fun ⟨ph, k1, k2, i0, b0, ph0, k3, k4⟩ => ⟨ph, k1, k2, i0, b0, ph0, by simp [k3], k4⟩)⟩
                · simp only [mkS, Mem.get_cons] at hj hk
                  have other : ∀ j b p, Mem.get (mkS st.n nxt r y).mem j = some b → nwPhi φ st a w kp L j = some p → p.blk ≠ ph.blk := by
                    intro j b p hj hp
                    rcases (h2 j b hj).2 with ⟨g, _⟩ | ⟨ph', k1, _, i0, b0, ph0, k3, k4, k5, k6, k7⟩
                    · rw [hp] at g; cases g
                    · rw [hp] at k1; cases k1
                      rw [← k7]
                      exact (hr.mem.apart q.id i0 _ b0 ph ph0 hb k4 (fun e => hiu (e ▸ k3)) rfl hph k6).symm
                  by_cases e1 : j = c
                  · subst e1
                    rw [if_neg (fun e => hjk e.symm)] at hk
                    rw [hsome] at hp; cases hp
                    exact (other k b' p' hk hp').symm
                  · rw [if_neg e1] at hj
                    by_cases e2 : k = c
                    · subst e2
                      rw [hsome] at hp'; cases hp'
                      exact other j b p hj hp
                    · rw [if_neg e2] at hk
                      exact h3 j k b b' p p' hj hk hjk hw hp hp'
          · cases h
        · cases h
      · cases h
    · cases h
theorem mkS_n {n nxt : Nat} : ∀ {l : List It} {x : XD l}, (mkS n nxt l x).n = n ∧ (mkS n nxt l x).nxt = nxt ∧ (mkS n nxt l x).ok = true
  | [], _ => ⟨rfl, rfl, rfl⟩
  | .sl _ _ :: _, _ | .ow _ _ _ :: _, _ | .bl _ _ :: _, _ | .rb _ _ :: _, _ | .pt _ _ :: _, _ | .ob _ _ :: _, _ | .ro _ _ :: _, _ | .nl _ :: _, _ | .fv _ _ _ _ :: _, _ => ⟨rfl, rfl, rfl⟩
theorem extS_ok (hr : Rel base φ st a w) {kp nxt : Nat} {L : List It} (hok : okS kp nxt L = true) (hpl : L.all plainIt = true) {x : XD L} {u : List Nat} (h : extS L st = some (x, true, u)) :
    ∃ ψ, Phi.leK kp φ ψ ∧ Rel base ψ (mkS st.n nxt L x) a w := by
  unfold okS at hok
  rw [Bool.and_eq_true, Bool.and_eq_true, Bool.and_eq_true, Bool.and_eq_true] at hok
  obtain ⟨hnd, hlt, hkp, hpt, hkn⟩ := hok
  rw [List.all_eq_true] at hlt hkp hpt hpl
  have hkp' : ∀ c ∈ owS L, kp ≤ c := fun c hc => Nat.le_of_ble_eq_true (hkp c hc)
  have hpt' : ∀ i ∈ ptS L, i < kp ∨ i ∈ blS L := fun i hi => by
    have := hpt i hi
    simp only [Bool.or_eq_true, List.contains_eq_mem, decide_eq_true_eq] at this
    exact this.imp (fun h => Nat.le_of_ble_eq_true h) id
  have hlt' : ∀ i ∈ nmS L, i < nxt := fun i hi => Nat.le_of_ble_eq_true (hlt i hi)
  have hkn' : kp ≤ nxt := Nat.le_of_ble_eq_true hkn
  obtain ⟨h1, h2, h3⟩ := extS_suffix hr (nxt := nxt) hnd hkp' hpt' (l := L) (fun _ h => h) hnd hpl h
  have hdom : ∀ i p, nwPhi φ st a w kp L i = some p → i < nxt ∧ p.blk < w.heap.size := by
    intro i p hp
    have hp : (if i ∈ owS L then ownAd φ st a w L i else if i < kp ∨ i ∈ blS L then φ i else none) = some p := hp
    by_cases ho : i ∈ owS L
    · rw [if_pos ho] at hp
      exact ⟨hlt' i (owS_sub ho), ownAd_lt (fun i ph h => (hr.mem.fresh i ph h).2) hp⟩
    · rw [if_neg ho] at hp
      by_cases hb : i < kp ∨ i ∈ blS L
      · rw [if_pos hb] at hp
        refine ⟨?_, (hr.mem.fresh i p hp).2⟩
        rcases hb with hb | hb
        · omega
        · exact hlt' i (blS_sub hb)
      · rw [if_neg hb] at hp; cases hp
  refine ⟨nwPhi φ st a w kp L, ⟨fun i p hi hp => ?_, fun _ _ h => h, fun _ _ h => .inl h, rfl⟩, h1, ?_, ⟨fun i b hi => ?_, fun i j b b' p p' hi hj hij hw hp hp' => h3 i j b b' p p' hi hj hij hw hp hp', fun i p hp => ?_, hr.mem.lo, hr.mem.base, hr.mem.imm⟩, hr.defers⟩
  · show (if i ∈ owS L then _ else if i < kp ∨ i ∈ blS L then φ i else none) = some p
    rw [if_neg (fun ho => by have := hkp' i ho; omega), if_pos (.inl hi)]
    exact hp
  · rw [mkS_n.1]; exact hr.n
  · rcases (h2 i b hi).2 with h | ⟨ph, k1, k2, _⟩
    · exact .inl h
    · exact .inr ⟨ph, k1, k2⟩
  · rw [mkS_n.2.1]; exact hdom i p hp
end
inductive Runs {α β : Type} (f : α → Option (α ⊕ β)) : Nat → α → β → Prop where
  | stop {x : α} {y : β} : f x = some (.inr y) → Runs f 1 x y
  | next {n : Nat} {x x' : α} {y : β} : f x = some (.inl x') → Runs f n x' y → Runs f (n + 1) x y
theorem Runs.det {α β : Type} {f : α → Option (α ⊕ β)} : ∀ {n m : Nat} {x : α} {y z : β}, Runs f n x y → Runs f m x z → y = z
  | _, _, _, _, _, .stop h, .stop k => by rw [h] at k; cases k; rfl
  | _, _, _, _, _, .stop h, .next k _ => by rw [h] at k; cases k
  | _, _, _, _, _, .next h _, .stop k => by rw [h] at k; cases k
  | _, _, _, _, _, .next h h', .next k k' => by rw [h] at k; cases k; exact Runs.det h' k'
open Classical in
noncomputable def wh {α β : Type} (f : α → Option (α ⊕ β)) (x : α) : Option β := if h : ∃ y m, Runs f m x y then some (Classical.choose h) else none
theorem wh_runs {α β : Type} {f : α → Option (α ⊕ β)} {x : α} {y : β} (h : wh f x = some y) : ∃ m, Runs f m x y := by
  unfold wh at h
  split at h
  · rename_i hh
    cases h
    exact Classical.choose_spec hh
  · cases h
theorem wh_of {α β : Type} {f : α → Option (α ⊕ β)} {x : α} {y : β} {m : Nat} (h : Runs f m x y) : wh f x = some y := by
  unfold wh
  have hh : ∃ y m, Runs f m x y := ⟨y, m, h⟩
  rw [dif_pos hh]
  obtain ⟨m', h'⟩ := Classical.choose_spec hh
  rw [h'.det h]
theorem wh_stop {α β : Type} {f : α → Option (α ⊕ β)} {x : α} {y : β} (h : f x = some (.inr y)) : wh f x = some y := wh_of (.stop h)
theorem wh_next {α β : Type} {f : α → Option (α ⊕ β)} {x x' : α} (h : f x = some (.inl x')) : wh f x = wh f x' := by
  cases hw : wh f x' with
  | some y =>
    obtain ⟨m, hm⟩ := wh_runs hw
    exact wh_of (.next h hm)
  | none =>
    cases hx : wh f x with
    | none => rfl
    | some y =>
      obtain ⟨m, hm⟩ := wh_runs hx
      cases hm with
      | stop k => rw [h] at k; cases k
      | next k k' => rw [h] at k; cases k; rw [wh_of k'] at hw; cases hw
abbrev Ways := List (X × List It)
@[reducible] def YD : Ways → Type
  | [] => Unit
  | [(_, l)] => XD l
  | (_, l) :: r => XD l ⊕ YD r
def XD.dflt : (l : List It) → XD l
  | [] => ()
  | .sl _ t :: r => (GX.dflt t, XD.dflt r)
  | .ow _ _ _ :: r => ([], XD.dflt r)
  | .bl _ t :: r => (GX.dflt t, XD.dflt r)
  | .rb _ t :: r => (GX.dflt t, XD.dflt r)
  | .pt _ _ :: r => ((), XD.dflt r)
  | .ob _ D :: r => (D.dflt, XD.dflt r)
  | .ro _ D :: r => (D.dflt, XD.dflt r)
  | .nl _ :: r => ((), XD.dflt r)
  | .fv _ _ _ _ :: r => ((), XD.dflt r)
def isL {α β : Type} : α ⊕ β → Bool
  | .inl _ => true
  | .inr _ => false
def getL {α β : Type} (d : α) : α ⊕ β → α
  | .inl x => x
  | .inr _ => d
def getR {α β : Type} (d : β) : α ⊕ β → β
  | .inl _ => d
  | .inr y => y
def YD.dflt : (l : Ways) → YD l
  | [] => ()
  | [(_, l)] => XD.dflt l
  | (_, l) :: _ :: _ => .inl (XD.dflt l)
def setOk (s : St) (ok : Bool) : St := ⟨s.tm, s.n, s.mem, s.nxt, ok⟩
def altsY (n nxt : Nat) (ok : Bool) : (l : Ways) → YD l → List (Bool × X × St)
  | [], _ => []
  | [(e, l)], y => [(true, e, setOk (mkS n nxt l y) ok)]
  | (e, l) :: r :: q, y => (isL y, e, setOk (mkS n nxt l (getL (XD.dflt l) y)) ok) :: altsY n nxt ok (r :: q) (getR (YD.dflt (r :: q)) y)
def sameX : X → X → Bool
  | .normal, .normal => true
  | .exit i, .exit j => Nat.beq i j
  | .ret, .ret => true
  | .goto i, .goto j => Nat.beq i j
  | .pan t n, .pan t' n' => Nat.beq t t' && decide (n = n')
  | _, _ => false
theorem sameX_eq {x y : X} (h : sameX x y = true) : x = y := by
  cases x <;> cases y <;> simp [sameX] at h <;> first | rfl | rw [h] | rw [h.1, h.2]
def leafY (e : X) (s : St) : (l : Ways) → Option (YD l × Bool)
  | [] => none
  | [(e', l)] => bif sameX e e' then (match extS l s with | some (x, c, _) => some (x, c) | none => none) else none
  | (e', l) :: r :: q => bif sameX e e' then (match extS l s with | some (x, c, _) => some (.inl x, c) | none => none) else (match leafY e s (r :: q) with | some (y, c) => some (.inr y, c) | none => none)
def leafR (n : Nat) (hd : List It) (ys : Ways) (e : X) (s : St) : Option (XD hd ⊕ YD ys) :=
  match e with
  | .normal => match extS hd s with
    | some (x, c, _) => bif c && (s.ok && Nat.beq s.n n) then some (.inl x) else none
    | none => none
  | e => match leafY e s ys with
    | some (y, c) => bif c && (s.ok && Nat.beq s.n n) then some (.inr y) else none
    | none => none
theorem leafR_spec {n : Nat} {hd : List It} {ys : Ways} {e : X} {s : St} {r : XD hd ⊕ YD ys} (h : leafR n hd ys e s = some r) :
    s.ok = true ∧ s.n = n ∧ ((e = .normal ∧ ∃ x u, extS hd s = some (x, true, u) ∧ r = .inl x) ∨ (e ≠ .normal ∧ ∃ y, leafY e s ys = some (y, true) ∧ r = .inr y)) := by
  unfold leafR at h
  split at h
  · split at h
    · rename_i y c u hx
      cases hc : c && (s.ok && Nat.beq s.n n) <;> rw [hc] at h
      · cases h
      · rw [Bool.and_eq_true, Bool.and_eq_true] at hc
        cases h
        exact ⟨hc.2.1, Nat.eq_of_beq_eq_true hc.2.2, .inl ⟨rfl, y, u, by rw [hx, hc.1], rfl⟩⟩
    · cases h
  · rename_i hne
    split at h
    · rename_i y c hx
      cases hc : c && (s.ok && Nat.beq s.n n) <;> rw [hc] at h
      · cases h
      · rw [Bool.and_eq_true, Bool.and_eq_true] at hc
        cases h
        exact ⟨hc.2.1, Nat.eq_of_beq_eq_true hc.2.2, .inr ⟨hne, y, by rw [hx, hc.1], rfl⟩⟩
    · cases h
def outB (id : Nat) : X → X
  | .exit j => bif Nat.beq j id then .normal else .exit j
  | x => x
def okY (kp nxt : Nat) (ys : Ways) : Bool := ys.all fun p => okS kp nxt p.2 && (p.2.all plainIt && !(sameX p.1 .normal))
theorem leafY_ok {base : Nat} {φ : Phi} {a : Act} {w : World} {s : St} {kp n nxt : Nat} {e : X} (hr : Rel base φ s a w) (hn : s.n = n) : ∀ {ys : Ways} {y : YD ys}, okY kp nxt ys = true → leafY e s ys = some (y, true) →
    ∃ st', (∀ id, pickA ((altsY n nxt true ys y).map fun p => (p.1, outB id p.2.1, p.2.2)) = some (outB id e, st')) ∧ ∃ ψ, Phi.leK kp φ ψ ∧ Rel base ψ st' a w
  | [], y, _, h => by cases h
  | [(e', l)], y, hy, h => by
    simp only [leafY] at h
    cases hs : sameX e e' <;> rw [hs] at h
    · cases h
    · simp only [cond_true] at h
      have := sameX_eq hs
      subst this
      split at h
      · rename_i x c u hx
        simp only [Option.some.injEq, Prod.mk.injEq] at h
        obtain ⟨rfl, rfl⟩ := h
        simp only [okY, List.all_cons, Bool.and_eq_true] at hy
        obtain ⟨ψ, h1, h2⟩ := extS_ok hr hy.1.1 hy.1.2.1 hx
        rw [hn] at h2
        exact ⟨setOk (mkS n nxt l x) true, fun id => rfl, ψ, h1, ⟨h2.tm, h2.n, h2.mem, h2.defers⟩⟩
      · cases h
  | (e', l) :: r :: q, y, hy, h => by
    have hy0 := hy
    simp only [okY, List.all_cons, Bool.and_eq_true] at hy
    simp only [leafY] at h
    cases hs : sameX e e' <;> rw [hs] at h
    · simp only [cond_false] at h
      split at h
      · rename_i y' c hx
        simp only [Option.some.injEq, Prod.mk.injEq] at h
        obtain ⟨rfl, rfl⟩ := h
        obtain ⟨st', h1, h2⟩ := leafY_ok (ys := r :: q) hr hn (by unfold okY; rw [List.all_cons, Bool.and_eq_true, Bool.and_eq_true, Bool.and_eq_true]; exact hy.2) hx
        exact ⟨st', fun id => by simp only [altsY, List.map_cons, isL, pickA, getR]; exact h1 id, h2⟩
      · cases h
    · simp only [cond_true] at h
      have := sameX_eq hs
      subst this
      split at h
      · rename_i x c u hx
        simp only [Option.some.injEq, Prod.mk.injEq] at h
        obtain ⟨rfl, rfl⟩ := h
        obtain ⟨ψ, h1, h2⟩ := extS_ok hr hy.1.1 hy.1.2.1 hx
        rw [hn] at h2
        exact ⟨setOk (mkS n nxt l x) true, fun id => rfl, ψ, h1, ⟨h2.tm, h2.n, h2.mem, h2.defers⟩⟩
      · cases h
theorem loop_ok {P : Program} {C : Cx} (hC : CxOK P C) {kp n nxt : Nat} {body : Code} (hL : LOK P C kp body) {hd : List It} {ys : Ways} (hok : okS kp nxt hd = true) (hpl : hd.all plainIt = true) (hys : okY kp nxt ys = true)
    {f : XD hd → Option (XD hd ⊕ YD ys)} (hround : ∀ x r, f x = some r → codeT C body (mkS n nxt hd x) (leafR n hd ys) = some r)
    {base : Nat} : ∀ (m : Nat) (x : XD hd) (y : YD ys), Runs f m x y → ∀ {φ : Phi} {a : Act} {w : World}, Rel base φ (mkS n nxt hd x) a w →
      Code.rounds P body (fun e a' w' => ∃ x' st', (∀ id, pickA ((altsY n nxt true ys y).map fun p => (p.1, outB id p.2.1, p.2.2)) = some (outB id x', st')) ∧ EX x' e ∧ ∃ ψ, Phi.leK kp φ ψ ∧ Rel base ψ st' a' w' ∧ Below base w w') m a w := by
  have hcode : ∀ {r : XD hd ⊕ YD ys} {x : XD hd} {φ : Phi} {a : Act} {w : World} {Q}, f x = some r → Rel base φ (mkS n nxt hd x) a w → Goes P kp base φ w r (leafR n hd ys) Q → body.wp P Q a w :=
    fun hf hr hg => codeT_ok hC hL (fun x s h => (leafR_spec h).1) (hround _ _ hf) hr hg
  intro m
  induction m with
  | zero => intro x y h; cases h
  | succ m ih =>
    intro x y h φ a w hr
    rw [rounds_succ]
    cases h with
    | stop hf =>
      refine hcode hf hr ?_
      intro e e' s ψ a' w' he h1 h2 h3 h4
      obtain ⟨_, hsn, hh⟩ := leafR_spec h4
      rcases hh with ⟨_, x', u, _, hx⟩ | ⟨hne, y', hy, hx⟩
      · cases hx
      · cases hx
        obtain ⟨st', k1, χ, k2, k3⟩ := leafY_ok h2 hsn hys hy
        rcases EX_of he with ⟨rfl, rfl⟩ | ⟨j, rfl, rfl⟩ | ⟨rfl, rfl⟩ | ⟨j, rfl, rfl⟩ | ⟨_, _, rfl, rfl⟩
        · exact absurd rfl hne
        · exact ⟨_, st', k1, rfl, χ, Phi.leK_trans h1 k2, k3, h3⟩
        · exact ⟨_, st', k1, trivial, χ, Phi.leK_trans h1 k2, k3, h3⟩
        · exact ⟨_, st', k1, rfl, χ, Phi.leK_trans h1 k2, k3, h3⟩
        · exact ⟨_, st', k1, rfl, χ, Phi.leK_trans h1 k2, k3, h3⟩
    | next hf hn =>
      refine hcode hf hr ?_
      intro e e' s ψ a' w' he h1 h2 h3 h4
      obtain ⟨_, hsn, hh⟩ := leafR_spec h4
      rcases hh with ⟨rfl, x', u, hx, hxx⟩ | ⟨hne, y', hy, hx⟩
      · cases hxx
        have hen : e' = .normal := by cases e' <;> simp [EX] at he; rfl
        subst hen
        obtain ⟨χ, k2, k3⟩ := extS_ok h2 hok hpl hx
        rw [hsn] at k3
        show Code.rounds P body _ m a' w'
        refine rounds_mono ?_ (ih _ _ hn k3)
        rintro e a2 w2 ⟨x2, st2, q1, q2, ψ2, q3, q4, q5⟩
        exact ⟨x2, st2, q1, q2, ψ2, Phi.leK_trans h1 (Phi.leK_trans k2 q3), q4, h3.trans q5⟩
      · cases hx
def orc (n nxt id : Nat) (hd : List It) (ys : Ways) (lv : XD hd → YD ys) (lk : XD hd → Bool) : St → List (Bool × X × St) := fun st =>
  match extS hd st with
  | some (x, c, _) => (altsY n nxt (lk x && (c && (st.ok && Nat.beq st.n n))) ys (lv x)).map fun p => (p.1, outB id p.2.1, p.2.2)
  | none => []
theorem pick_ok {n nxt id : Nat} {ok : Bool} {e : X} {st : St} : ∀ {ys : Ways} {y : YD ys}, pickA ((altsY n nxt ok ys y).map fun p => (p.1, outB id p.2.1, p.2.2)) = some (e, st) → st.ok = ok ∧ pickA ((altsY n nxt true ys y).map fun p => (p.1, outB id p.2.1, p.2.2)) = some (e, setOk st true)
  | [], _, h => by cases h
  | [(e', l)], y, h => by
    simp only [altsY, List.map_cons, pickA, Option.some.injEq, Prod.mk.injEq] at h ⊢
    obtain ⟨rfl, rfl⟩ := h
    exact ⟨rfl, rfl, rfl⟩
  | (e', l) :: r :: q, y, h => by
    simp only [altsY, List.map_cons] at h ⊢
    cases hb : isL y <;> rw [hb] at h
    · simp only [pickA] at h ⊢
      exact pick_ok (ys := r :: q) h
    · simp only [pickA, Option.some.injEq, Prod.mk.injEq] at h ⊢
      obtain ⟨rfl, rfl⟩ := h
      exact ⟨rfl, rfl, rfl⟩
theorem orc_ok {P : Program} {C : Cx} (hC : CxOK P C) {kp n nxt id : Nat} {body : Code} (hL : LOK P C kp body) {hd : List It} {ys : Ways} (hok : okS kp nxt hd = true) (hpl : hd.all plainIt = true) (hys : okY kp nxt ys = true)
    {f : XD hd → Option (XD hd ⊕ YD ys)} (hround : ∀ x r, f x = some r → codeT C body (mkS n nxt hd x) (leafR n hd ys) = some r) {lv : XD hd → YD ys} {lk : XD hd → Bool} (hl : ∀ x, lk x = true → ∃ m, Runs f m x (lv x))
    {st st' : St} {x : X} (h : pickA (orc n nxt id hd ys lv lk st) = some (x, st')) : CodeOK P kp (.block id (.loop body)) st x st' := by
  unfold orc at h
  split at h
  · rename_i v c u hx
    obtain ⟨h1, h2⟩ := pick_ok h
    refine ⟨fun hk => ?_, fun hk base φ a w hr => ?_⟩
    · rw [h1, Bool.and_eq_true, Bool.and_eq_true, Bool.and_eq_true] at hk
      exact hk.2.2.1
    · rw [h1, Bool.and_eq_true, Bool.and_eq_true, Bool.and_eq_true] at hk
      obtain ⟨hlk, hc, hso, hsn⟩ := hk
      subst hc
      have hsn := Nat.eq_of_beq_eq_true hsn
      obtain ⟨χ, k1, k2⟩ := extS_ok hr hok hpl hx
      rw [hsn] at k2
      obtain ⟨m, hm⟩ := hl v hlk
      refine wp_block (wp_loop_rounds m (rounds_mono ?_ (loop_ok hC hL hok hpl hys hround m v _ hm k2)))
      rintro e a' w' ⟨x', s2, q1, q2, ψ, q3, q4, q5⟩
      have := q1 id
      rw [h2] at this
      simp only [Option.some.injEq, Prod.mk.injEq] at this
      obtain ⟨rfl, hs2⟩ := this
      have hres : ∃ ψ, Phi.leK kp φ ψ ∧ Rel base ψ st' a' w' ∧ Below base w w' := by
        refine ⟨ψ, Phi.leK_trans k1 q3, ?_, q5⟩
        rw [← hs2] at q4
        exact ⟨q4.tm, q4.n, q4.mem, q4.defers⟩
      rcases EX_of q2 with ⟨rfl, rfl⟩ | ⟨j, rfl, rfl⟩ | ⟨rfl, rfl⟩ | ⟨j, rfl, rfl⟩ | ⟨_, _, rfl, rfl⟩
      · exact ⟨trivial, hres⟩
      · simp only [outB, Exit.inBlock]
        by_cases e : j = id
        · subst e
          rw [if_pos rfl, show Nat.beq j j = true from Nat.beq_refl j]
          exact ⟨trivial, hres⟩
        · rw [if_neg (fun h => e h), show Nat.beq j id = false from by rw [Bool.eq_false_iff]; intro h; exact e (Nat.eq_of_beq_eq_true h)]
          exact ⟨rfl, hres⟩
      · exact ⟨trivial, hres⟩
      · exact ⟨rfl, hres⟩
      · exact ⟨rfl, hres⟩
  · cases h
def leafJ (n : Nat) (ys : Ways) (e : X) (s : St) : Option (YD ys) :=
  match leafY e s ys with
  | some (y, c) => bif c && (s.ok && Nat.beq s.n n) then some y else none
  | none => none
def okJ (kp nxt : Nat) (ys : Ways) : Bool := ys.all fun p => okS kp nxt p.2 && p.2.all plainIt
theorem leafY_okJ {base : Nat} {φ : Phi} {a : Act} {w : World} {s : St} {kp n nxt : Nat} {e : X} (hr : Rel base φ s a w) (hn : s.n = n) : ∀ {ys : Ways} {y : YD ys}, okJ kp nxt ys = true → leafY e s ys = some (y, true) →
    ∃ st', pickA (altsY n nxt true ys y) = some (e, st') ∧ ∃ ψ, Phi.leK kp φ ψ ∧ Rel base ψ st' a w
  | [], y, _, h => by cases h
  | [(e', l)], y, hy, h => by
    simp only [leafY] at h
    cases hs : sameX e e' <;> rw [hs] at h
    · cases h
    · simp only [cond_true] at h
      have := sameX_eq hs
      subst this
      split at h
      · rename_i x c u hx
        simp only [Option.some.injEq, Prod.mk.injEq] at h
        obtain ⟨rfl, rfl⟩ := h
        simp only [okJ, List.all_cons, Bool.and_eq_true] at hy
        obtain ⟨ψ, h1, h2⟩ := extS_ok hr hy.1.1 hy.1.2 hx
        rw [hn] at h2
        exact ⟨setOk (mkS n nxt l x) true, rfl, ψ, h1, ⟨h2.tm, h2.n, h2.mem, h2.defers⟩⟩
      · cases h
  | (e', l) :: r :: q, y, hy, h => by
    have hy0 := hy
    simp only [okJ, List.all_cons, Bool.and_eq_true] at hy
    simp only [leafY] at h
    cases hs : sameX e e' <;> rw [hs] at h
    · simp only [cond_false] at h
      split at h
      · rename_i y' c hx
        simp only [Option.some.injEq, Prod.mk.injEq] at h
        obtain ⟨rfl, rfl⟩ := h
        obtain ⟨st', h1, h2⟩ := leafY_okJ (ys := r :: q) hr hn (by unfold okJ; rw [List.all_cons, Bool.and_eq_true, Bool.and_eq_true]; exact hy.2) hx
        exact ⟨st', by simp only [altsY, isL, pickA, getR]; exact h1, h2⟩
      · cases h
    · simp only [cond_true] at h
      have := sameX_eq hs
      subst this
      split at h
      · rename_i x c u hx
        simp only [Option.some.injEq, Prod.mk.injEq] at h
        obtain ⟨rfl, rfl⟩ := h
        obtain ⟨ψ, h1, h2⟩ := extS_ok hr hy.1.1 hy.1.2 hx
        rw [hn] at h2
        exact ⟨setOk (mkS n nxt l x) true, rfl, ψ, h1, ⟨h2.tm, h2.n, h2.mem, h2.defers⟩⟩
      · cases h
def orj (n nxt : Nat) (hd : List It) (ys : Ways) (lv : XD hd → YD ys) (lk : XD hd → Bool) : St → List (Bool × X × St) := fun st =>
  match extS hd st with
  | some (x, c, _) => altsY n nxt (lk x && (c && (st.ok && Nat.beq st.n n))) ys (lv x)
  | none => []
theorem pick_okJ {n nxt : Nat} {ok : Bool} {e : X} {st : St} : ∀ {ys : Ways} {y : YD ys}, pickA (altsY n nxt ok ys y) = some (e, st) → st.ok = ok ∧ pickA (altsY n nxt true ys y) = some (e, setOk st true)
  | [], _, h => by cases h
  | [(e', l)], y, h => by
    simp only [altsY, pickA, Option.some.injEq, Prod.mk.injEq] at h ⊢
    obtain ⟨rfl, rfl⟩ := h
    exact ⟨rfl, rfl, rfl⟩
  | (e', l) :: r :: q, y, h => by
    simp only [altsY] at h ⊢
    cases hb : isL y <;> rw [hb] at h
    · simp only [pickA] at h ⊢
      exact pick_okJ (ys := r :: q) h
    · simp only [pickA, Option.some.injEq, Prod.mk.injEq] at h ⊢
      obtain ⟨rfl, rfl⟩ := h
      exact ⟨rfl, rfl, rfl⟩
theorem orj_ok {P : Program} {C : Cx} (hC : CxOK P C) {kp n nxt : Nat} {b : Code} (hL : LOK P C kp b) {hd : List It} {ys : Ways} (hok : okS kp nxt hd = true) (hpl : hd.all plainIt = true) (hys : okJ kp nxt ys = true)
    {f : XD hd → Option (YD ys)} (hrun : ∀ x, codeT C b (mkS n nxt hd x) (leafJ n ys) = f x)
    {st st' : St} {x : X} (h : pickA (orj n nxt hd ys (fun x => (f x).getD (YD.dflt ys)) (fun x => (f x).isSome) st) = some (x, st')) : CodeOK P kp b st x st' := by
  unfold orj at h
  split at h
  · rename_i v c u hx
    obtain ⟨h1, h2⟩ := pick_okJ h
    refine ⟨fun hk => ?_, fun hk base φ a w hr => ?_⟩
    · rw [h1, Bool.and_eq_true, Bool.and_eq_true, Bool.and_eq_true] at hk
      exact hk.2.2.1
    · rw [h1, Bool.and_eq_true, Bool.and_eq_true, Bool.and_eq_true] at hk
      obtain ⟨hlk, hc, hso, hsn⟩ := hk
      subst hc
      have hsn := Nat.eq_of_beq_eq_true hsn
      obtain ⟨χ, k1, k2⟩ := extS_ok hr hok hpl hx
      rw [hsn] at k2
      have hlk : (f v).isSome = true := hlk
      have h2 : pickA (altsY n nxt true ys ((f v).getD (YD.dflt ys))) = some (x, setOk st' true) := h2
      cases hf : f v with
      | none => rw [hf] at hlk; cases hlk
      | some y =>
        rw [hf] at h2
        simp only [Option.getD_some] at h2
        refine codeT_ok hC hL (k := leafJ n ys) (r := y) (fun x s hs => ?_) ((hrun v).trans hf) k2 ?_
        · unfold leafJ at hs
          split at hs
          · rename_i y' c hy'
            cases hcc : c && (s.ok && Nat.beq s.n n) <;> rw [hcc] at hs
            · cases hs
            · rw [Bool.and_eq_true, Bool.and_eq_true] at hcc
              exact hcc.2.1
          · cases hs
        · intro e e' s ψ a' w' he g1 g2 g3 g4
          unfold leafJ at g4
          split at g4
          · rename_i y' c hy'
            cases hcc : c && (s.ok && Nat.beq s.n n) <;> rw [hcc] at g4
            · cases g4
            · simp only [cond_true, Option.some.injEq] at g4
              subst g4
              rw [Bool.and_eq_true, Bool.and_eq_true] at hcc
              rw [hcc.1] at hy'
              obtain ⟨st2, q1, χ2, q2, q3⟩ := leafY_okJ g2 (Nat.eq_of_beq_eq_true hcc.2.2) hys hy'
              rw [q1] at h2
              simp only [Option.some.injEq, Prod.mk.injEq] at h2
              obtain ⟨rfl, hs2⟩ := h2
              refine ⟨he, χ2, Phi.leK_trans k1 (Phi.leK_trans g1 q2), ?_, g3⟩
              rw [hs2] at q3
              exact ⟨q3.tm, q3.n, q3.mem, q3.defers⟩
          · cases g4
  · cases h
def lOf : List (Nat × (St → List (Bool × X × St))) → Nat → Option (St → List (Bool × X × St))
  | [], _ => none
  | (k, g) :: r, i => bif Nat.beq k i then some g else lOf r i
def findB (id : Nat) : List (Nat × Code) → Option Code
  | [] => none
  | (k, b) :: r => bif Nat.beq k id then some b else findB id r
theorem findB_of {id : Nat} {b : Code} : ∀ {l : List (Nat × Code)}, noDup (l.map (·.1)) = true → (id, b) ∈ l → findB id l = some b
  | (k, c) :: r, hd, h => by
    obtain ⟨h1, h2⟩ := noDup_cons hd
    rcases List.mem_cons.1 h with h | h
    · cases h; simp [findB]
    · have hne : k ≠ id := by
        intro e; subst e
        exact h1 (List.mem_map.2 ⟨_, h, rfl⟩)
      simp only [findB]
      rw [show Nat.beq k id = false from by rw [Bool.eq_false_iff]; intro h; exact hne (Nat.eq_of_beq_eq_true h)]
      exact findB_of h2 h
theorem LOK.of {P : Program} {C : Cx} {kp : Nat} {c : Code} (hd : noDup ((blocksOf c).map (·.1)) = true) {l : List (Nat × (St → List (Bool × X × St)))} (hCL : C.L = lOf l)
    (h : ∀ p ∈ l, ∀ b, findB p.1 (blocksOf c) = some b → ∀ st x st', pickA (p.2 st) = some (x, st') → CodeOK P kp (unitC p.1 b) st x st') : LOK P C kp c := by
  intro id b hb f hf st x st' hp
  rw [hCL] at hf
  have hfb := findB_of hd hb
  clear hCL
  induction l with
  | nil => cases hf
  | cons p l ih =>
    simp only [lOf] at hf
    cases he : Nat.beq p.1 id <;> rw [he] at hf
    · exact ih (fun q hq => h q (by simp [hq])) hf
    · have := Nat.eq_of_beq_eq_true he
      simp only [cond_true, Option.some.injEq] at hf
      subst this; subst hf
      exact h p (by simp) b hfb st x st' hp
end
theorem fnT_loops {P : Program} {C : Cx} (hC : CxOK P C) {fn : Func} {f : Nat} (hf : P.funcs[f]? = some fn) {t : Ty} {args : List V} {r : t.den} (hL : ∀ c, fn.body = some c → LOK P C 0 c) (h : fnT C fn t args = some r) : PureOK P f args ⟨t, r⟩ :=
  fnT_ok hC hf hL h
end Go.GX

namespace Go.GX
set_option linter.unusedSimpArgs false
set_option linter.unusedVariables false
set_option linter.unusedSectionVars false
def tt : Nat → Bool → Bool
  | 0, b => b
  | n + 1, b => tt n b && true
@[simp] theorem tt_eq (n : Nat) (b : Bool) : tt n b = b := by
  induction n with
  | zero => rfl
  | succ n ih => rw [tt, ih, Bool.and_true]
@[reducible] def AD : List Ty → Type
  | [] => Unit
  | t :: r => t.den × AD r
def asTs : (ts : List Ty) → List V → Option (AD ts)
  | [], [] => some ()
  | t :: ts, v :: l => match asT t (coeV t v), asTs ts l with | some x, some y => some (x, y) | _, _ => none
  | _, _ => none
def mkA : (ts : List Ty) → AD ts → List V
  | [], _ => []
  | t :: ts, x => ⟨t, x.1⟩ :: mkA ts x.2
def sm (ts : List Ty) (T : Ty) (v : AD ts → T.den) (k : AD ts → Bool) : Sm := fun args mem nxt =>
  match asTs ts args with
  | some x => bif valT T then some (⟨T, v x⟩, mem, nxt, k x) else none
  | none => none
theorem asTs_AR {φ : Phi} : ∀ {ts : List Ty} {args : List V} {x : AD ts}, asTs ts args = some x → ∀ {xs : List Value}, ARL φ args xs → ARL φ (mkA ts x) xs
  | [], [], x, _, xs, h => h
  | t :: ts, v :: l, x, hx, xs, h => by
    simp only [asTs] at hx
    split at hx
    · rename_i a b ha hb
      cases hx
      have ha := asT_eq ha
      match xs, h with
      | [], h => exact absurd h.1 (by simp)
      | y :: ys, h =>
        have h0 : VR φ v y := by
          obtain ⟨z, hz, hr⟩ := h.2 0 v rfl
          simp at hz; subst hz; exact hr
        have hl : ARL φ l ys := ⟨by simpa using h.1, fun i u hi => by simpa using h.2 (i + 1) u (by simpa using hi)⟩
        refine ARL.cons ?_ (asTs_AR hb hl)
        have := coeV_ok (t := t) h0
        rw [ha] at this
        exact this
    · cases hx
  | [], _ :: _, x, hx, _, _ => by cases hx
  | _ :: _, [], x, hx, _, _ => by cases hx
theorem AR_iff {φ : Phi} {args : List V} {xs : Array Value} : AR φ args xs ↔ ARL φ args xs.toList :=
  ⟨fun h => ⟨by simpa using h.1, fun i v hi => by obtain ⟨x, hx, hr⟩ := h.2 i v hi; exact ⟨x, by simpa using hx, hr⟩⟩,
   fun h => ⟨by simpa using h.1, fun i v hi => by obtain ⟨x, hx, hr⟩ := h.2 i v hi; exact ⟨x, by simpa using hx, hr⟩⟩⟩
theorem SmOK.sm {P : Program} {f : Nat} {ts : List Ty} {T : Ty} {v : AD ts → T.den} {k : AD ts → Bool} (h : ∀ x, k x = true → PureOK P f (mkA ts x) ⟨T, v x⟩) : SmOK P f (GX.sm ts T v k) := by
  intro args mem nxt u mem' nxt' hg base φ w xs hm hA
  unfold GX.sm at hg
  split at hg
  · rename_i x hx
    cases hval : valT T <;> rw [hval] at hg
    · cases hg
    simp only [cond_true, Option.some.injEq, Prod.mk.injEq] at hg
    obtain ⟨rfl, rfl, rfl, hk⟩ := hg
    refine (h x hk φ w xs hm.imm (AR_iff.2 (asTs_AR hx (AR_iff.1 hA)))).mono ?_
    rintro e w' ⟨ψ, m, n, y, rfl, h0, h3, h1, h2⟩
    obtain ⟨g1, g2⟩ := hm.back (φ0 := φ.bare w.heap.size) rfl rfl h0 h3 h2
    exact ⟨_, y, rfl, g1, g2, h2.mono hm.base, valV_ok (φ := ψ) (ψ := φ.with ψ.imm) (fun _ _ h => h) (by unfold valV; rw [hval]; rfl) h1⟩
  · cases hg
@[reducible] def CxL (Θ : Tab) (K : Kn) (L : Nat → Option (St → List (Bool × X × St))) : Cx := ⟨true, Θ, K, 100, L, fun _ => none⟩
theorem PureOK.ofS {P : Program} {C : Cx} (hC : CxOK P C) {fn : Func} {f : Nat} (hf : P.funcs[f]? = some fn) {ts : List Ty} {T : Ty} {S : AD ts → Option T.den} (hL : ∀ c, fn.body = some c → LOK P C 0 c)
    (h : ∀ x, fnT C fn T (mkA ts x) = S x) : ∀ x, (S x).isSome = true → PureOK P f (mkA ts x) ⟨T, (S x).getD (dflt T)⟩ := by
  intro x hk
  cases hs : S x with
  | none => rw [hs] at hk; cases hk
  | some y => exact fnT_loops hC hf hL ((h x).trans hs)
theorem PureOK.of1 {P : Program} {C : Cx} (hC : CxOK P C) {fn : Func} {f : Nat} (hf : P.funcs[f]? = some fn) {T : Ty} {args : List V} {s : Option T.den} (hL : ∀ c, fn.body = some c → LOK P C 0 c)
    (h : fnT C fn T args = s) : s.isSome = true → PureOK P f args ⟨T, s.getD (dflt T)⟩ := by
  intro hk
  cases hs : s with
  | none => rw [hs] at hk; cases hk
  | some y => exact fnT_loops hC hf hL (h.trans hs)
theorem constP {P : Program} {f : Nat} {ts : List Ty} {T : Ty} {F : AD ts → T.den} {G : AD ts → Bool} {c : T.den} [d : ∀ x, Decidable (F x = c)] (h : ∀ x, G x = true → PureOK P f (mkA ts x) ⟨T, F x⟩) :
    ∀ x, (G x && decide (F x = c)) = true → PureOK P f (mkA ts x) ⟨T, c⟩ := by
  intro x hx
  obtain ⟨h1, h2⟩ := Bool.and_eq_true_iff.1 hx
  rw [← of_decide_eq_true h2]
  exact h x h1
def bodyF (fn : Func) : Code := fn.body.getD .skip
def loopB (id : Nat) (c : Code) : Code := match findB id (blocksOf c) with | some (.loop b) => b | _ => .skip
noncomputable def whV {hd : List It} {ys : Ways} (f : XD hd → Option (XD hd ⊕ YD ys)) : XD hd → YD ys := fun x => (wh f x).getD (YD.dflt ys)
noncomputable def whK {hd : List It} {ys : Ways} (f : XD hd → Option (XD hd ⊕ YD ys)) : XD hd → Bool := fun x => (wh f x).isSome
theorem wh_run {hd : List It} {ys : Ways} {f : XD hd → Option (XD hd ⊕ YD ys)} : ∀ x, whK f x = true → ∃ m, Runs f m x (whV f x) := by
  intro x h
  unfold whK at h
  cases hs : wh f x with
  | none => rw [hs] at h; cases h
  | some y =>
    obtain ⟨m, hm⟩ := wh_runs hs
    exact ⟨m, by unfold whV; rw [hs]; exact hm⟩
section
variable [DefL]
structure Lone (P : Program) (C : Cx) (id : Nat) (c : Code) (g : St → List (Bool × X × St)) (kp : Nat := 0) : Prop where
  ok : ∀ st x st', pickA (g st) = some (x, st') → CodeOK P kp (unitC id c) st x st'
theorem Lone.of {P : Program} {C : Cx} (hC : CxOK P C) {kp n nxt id : Nat} {body : Code} (hL : LOK P C kp body) {hd : List It} {ys : Ways} {f : XD hd → Option (XD hd ⊕ YD ys)}
    (hok : (okS kp nxt hd && (hd.all plainIt && okY kp nxt ys)) = true) (hround : ∀ x, codeT C body (mkS n nxt hd x) (leafR n hd ys) = f x) (hid : Nat.blt id 1000000 = true := by kernel_rfl) : Lone P C id (.loop body) (orc n nxt id hd ys (whV f) (whK f)) kp := by
  rw [Bool.and_eq_true, Bool.and_eq_true] at hok
  exact ⟨fun st x st' h => by
    have := orc_ok hC hL hok.1 hok.2.1 hok.2.2 (fun x r hr => (hround x).trans hr) wh_run h
    unfold unitC
    rw [hid]
    exact this⟩
noncomputable def jnV {hd : List It} {ys : Ways} (f : XD hd → Option (YD ys)) : XD hd → YD ys := fun x => (f x).getD (YD.dflt ys)
noncomputable def jnK {hd : List It} {ys : Ways} (f : XD hd → Option (YD ys)) : XD hd → Bool := fun x => (f x).isSome
theorem Lone.join {P : Program} {C : Cx} (hC : CxOK P C) {kp n nxt id : Nat} {b : Code} (hid : Nat.blt id 1000000 = false) (hL : LOK P C kp b) {hd : List It} {ys : Ways} {f : XD hd → Option (YD ys)}
    (hok : (okS kp nxt hd && (hd.all plainIt && okJ kp nxt ys)) = true) (hrun : ∀ x, codeT C b (mkS n nxt hd x) (leafJ n ys) = f x) : Lone P C id b (orj n nxt hd ys (jnV f) (jnK f)) kp := by
  rw [Bool.and_eq_true, Bool.and_eq_true] at hok
  exact ⟨fun st x st' h => by
    have := orj_ok hC hL hok.1 hok.2.1 hok.2.2 hrun h
    unfold unitC
    rw [hid]
    exact this⟩
def Lall (P : Program) (C : Cx) (bs : List (Nat × Code)) (l : List (Nat × (St → List (Bool × X × St)))) (kp : Nat := 0) : Prop := match l with
  | [] => True
  | p :: r => (match findB p.1 bs with | some c => Lone P C p.1 c p.2 kp | none => True) ∧ Lall P C bs r kp
theorem Lall.LOK {P : Program} {C : Cx} {kp : Nat} {c : Code} {l : List (Nat × (St → List (Bool × X × St)))} (hCL : C.L = lOf l) (hd : noDup ((blocksOf c).map (·.1)) = true) (h : Lall P C (blocksOf c) l kp) : LOK P C kp c := by
  refine LOK.of hd hCL ?_
  clear hCL
  induction l with
  | nil => intro p hp; cases hp
  | cons q l ih =>
    intro p hp b hb st x st' hx
    rcases List.mem_cons.1 hp with rfl | hp
    · have := h.1
      rw [hb] at this
      exact this.ok st x st' hx
    · exact ih h.2 p hp b hb st x st' hx
theorem Lall.cons {P : Program} {C : Cx} {kp : Nat} {bs : List (Nat × Code)} {id : Nat} {g : St → List (Bool × X × St)} {r : List (Nat × (St → List (Bool × X × St)))} {c : Code} (hb : findB id bs = some c) (h : Lone P C id c g kp) (hr : Lall P C bs r kp) : Lall P C bs ((id, g) :: r) kp := by
  refine ⟨?_, hr⟩
  show match findB id bs with | some c => Lone P C id c g kp | none => True
  rw [hb]; exact h
theorem Lall.skip {P : Program} {C : Cx} {kp : Nat} {bs : List (Nat × Code)} {id : Nat} {g : St → List (Bool × X × St)} {r : List (Nat × (St → List (Bool × X × St)))} (hb : findB id bs = none) (hr : Lall P C bs r kp) : Lall P C bs ((id, g) :: r) kp := by
  refine ⟨?_, hr⟩
  show match findB id bs with | some c => Lone P C id c g kp | none => True
  rw [hb]; trivial
theorem LOK.void {P : Program} {C : Cx} {kp : Nat} {c : Code} (h : ∀ id, C.L id = Option.none) : LOK P C kp c := by
  intro id b hb f hf
  rw [h] at hf; cases hf
theorem LOK.fn {P : Program} {C : Cx} {kp : Nat} {fn : Func} (h : LOK P C kp (bodyF fn)) : ∀ c, fn.body = some c → LOK P C kp c := by
  intro c hc
  unfold bodyF at h; rw [hc] at h; exact h
end
end Go.GX

namespace Go.GX
set_option linter.unusedSimpArgs false
set_option linter.unusedVariables false
set_option linter.unusedSectionVars false
open Go.RowKit (Below)
end Go.GX

namespace Go.GX
set_option linter.unusedSimpArgs false
set_option linter.unusedVariables false
set_option linter.unusedSectionVars false
open Go.RowKit (Below)
def Dk.mkN (k : Nat) : (D : Dk) → D.den → D.ty.den
  | .v _, x => x
  | .own c _, x => some ⟨c + k, [], 0, x.length, none⟩
  | .mp c _ _, _ => some (c + k)
  | .pr a b, x => (a.mkN k x.1, b.mkN k x.2)
def Dk.blksN (k : Nat) : (D : Dk) → D.den → Mem
  | .v _, _ => []
  | .own c e, x => [(c + k, ⟨e, x.length, x, true⟩)]
  | .mp c K E, x => [(c + k, ⟨MT K E, 0, x, true⟩)]
  | .pr a b, x => a.blksN k x.1 ++ b.blksN k x.2
def Dk.bare : Dk → Bool
  | .v t => plainT t
  | .own _ e => plainT e && !isTup e
  | .mp _ K E => plainT K && plainT E
  | .pr a b => a.bare && b.bare
def delL (mem : Mem) : List Nat → Mem
  | [] => mem
  | i :: r => Mem.del (delL mem r) i
theorem get_delL {mem : Mem} : ∀ {u : List Nat} {i : Nat}, Mem.get (delL mem u) i = if i ∈ u then none else Mem.get mem i
  | [], i => by simp [delL]
  | j :: r, i => by
    simp only [delL, Mem.get_del, get_delL (u := r)]
    by_cases e : i = j
    · subst e; simp
    · rw [if_neg e]; simp [e]
def obMem (D : Dk) (x : D.den) : Mem := (0, ⟨D.ty, 1, [D.mk x], true⟩) :: D.blks x
inductive Sh where
  | hd
  | fa (g : Nat)
def Sh.args : Sh → PA → List V → List V
  | .hd, p, l => ⟨.ptr, some p⟩ :: l
  | .fa g, p, l => l ++ [⟨.func, FV.fn g [ptrPk p] []⟩]
def lastFn (g : Nat) : List V → Option (PA × List V)
  | [] => none
  | [⟨.func, FV.fn g' [(.ptr, [.ptr (some p)])] []⟩] => bif Nat.beq g' g then some (p, []) else none
  | v :: r => match lastFn g r with | some (p, l) => some (p, v :: l) | none => none
def Sh.split : Sh → List V → Option (PA × List V)
  | .hd, ⟨.ptr, some p⟩ :: rest => some (p, rest)
  | .hd, _ => none
  | .fa g, l => lastFn g l
theorem Sh.len (sh : Sh) (p : PA) (l : List V) : (sh.args p l).length = l.length + 1 := by
  cases sh <;> simp [Sh.args]
theorem Sh.AR {sh : Sh} {φ ψ : Phi} {p q : PA} (hq : addr ψ q = addr φ p) {l m : List V} {xs : Array Value} (hl : ∀ ys : List Value, ARL φ l ys → ARL ψ m ys) (h : AR φ (sh.args p l) xs) : AR ψ (sh.args q m) xs := by
  rw [AR_iff] at h ⊢
  cases sh with
  | hd =>
    cases hxs : xs.toList with
    | nil => rw [hxs] at h; exact absurd h.1 (by simp [Sh.args])
    | cons y ys =>
      rw [hxs] at h
      have h0 : VR φ ⟨.ptr, some p⟩ y := by
        obtain ⟨z, hz, hr⟩ := h.2 0 _ rfl
        simp at hz; subst hz; exact hr
      refine ARL.cons ?_ (hl ys ⟨by simpa [Sh.args] using h.1, fun i u hi => by simpa using h.2 (i + 1) u (by simpa [Sh.args] using hi)⟩)
      obtain ⟨ad, had, hav⟩ := VR_ptr.1 h0
      exact VR_ptr.2 ⟨ad, hq.trans had, hav⟩
  | fa g =>
    have hlen : xs.toList.length = l.length + 1 := by simpa [Sh.args] using h.1
    have hne : xs.toList ≠ [] := fun e => by rw [e] at hlen; simp at hlen
    have hsp : xs.toList = xs.toList.dropLast ++ [xs.toList.getLast hne] := (List.dropLast_concat_getLast hne).symm
    rw [hsp] at h ⊢
    have hdl : xs.toList.dropLast.length = l.length := by rw [List.length_dropLast, hlen]; rfl
    have hA := hl xs.toList.dropLast ⟨hdl, fun i u hi => by
      have hlt := (List.getElem?_eq_some_iff.1 hi).1
      obtain ⟨z, hz, hr⟩ := h.2 i u (by simp only [Sh.args]; rw [List.getElem?_append_left hlt]; exact hi)
      rw [List.getElem?_append_left (by omega)] at hz
      exact ⟨z, hz, hr⟩⟩
    refine ⟨by simp only [Sh.args, List.length_append]; rw [hA.1]; rfl, fun i u hi => ?_⟩
    simp only [Sh.args] at hi
    by_cases hlt : i < m.length
    · rw [List.getElem?_append_left hlt] at hi
      obtain ⟨z, hz, hr⟩ := hA.2 i u hi
      exact ⟨z, by rw [List.getElem?_append_left (by rw [hA.1]; exact hlt)]; exact hz, hr⟩
    · rw [List.getElem?_append_right (by omega)] at hi
      have hi0 : i - m.length = 0 := by
        have := (List.getElem?_eq_some_iff.1 hi).1
        simp at this; omega
      rw [hi0] at hi
      simp at hi
      subst hi
      refine ⟨xs.toList.getLast hne, by rw [List.getElem?_append_right (by rw [hA.1]; omega), hA.1, hi0]; rfl, ?_⟩
      obtain ⟨z, hz, hr⟩ := h.2 l.length _ (by simp only [Sh.args]; rw [List.getElem?_append_right (Nat.le_refl _)]; simp; rfl)
      rw [List.getElem?_append_right (by omega), hdl] at hz
      simp at hz; subst hz
      obtain ⟨xa, xb, hv, g1, g2⟩ := VR_func.1 hr
      refine VR_func.2 ⟨xa, xb, by simpa using hv, ⟨g1.1, fun i c hc => ?_⟩, ⟨g2.1, fun i c hc => by simp at hc⟩⟩
      obtain ⟨v, hvi, hcr⟩ := g1.2 i (ptrPk p) (by
        cases i with
        | zero => rfl
        | succ i => simp at hc)
      have hce : c = ptrPk q := by
        cases i with
        | zero => simpa using hc.symm
        | succ i => simp at hc
      subst hce
      refine ⟨v, hvi, ?_⟩
      unfold VC0 ptrPk at hcr ⊢
      rw [if_neg (by simp [GX.isAgg])] at hcr ⊢
      obtain ⟨c, hc', hcr⟩ := hcr
      cases hc'
      obtain ⟨ad, had, hvv⟩ := hcr
      exact ⟨_, rfl, ad, hq.trans had, hvv⟩
def ObjOK (P : Program) (f : Nat) (D : Dk) (rp : List Nat) (n1 : Nat) (args : List V) (x : D.den) (v : V) (x' : D.den) (sh : Sh := .hd) : Prop :=
  ∀ base φ w xs, MemRel base φ (obMem D x) n1 w → AR φ (sh.args ⟨0, rp⟩ args) xs →
    Calls P f xs w fun e w' => ∃ ψ z, e = .returned z ∧ Phi.leK 1 φ ψ ∧ MemRel base ψ (obMem D x') n1 w' ∧ Below base w w' ∧ VR ψ v z
theorem own_src {mem : Mem} {e : Ty} {q : Option SL} {y : List e.den} {u : List Nat} (h : ownRd mem e q = some (y, true, u)) : ∀ i ∈ u, ∃ b, Mem.get mem i = some b ∧ b.wr = true := by
  cases q with
  | none =>
    simp only [ownRd, Option.some.injEq, Prod.mk.injEq] at h
    obtain ⟨_, _, rfl⟩ := h
    intro i hi; cases hi
  | some q =>
    simp only [ownRd] at h
    split at h
    · rename_i b _ hb
      unfold ownB at h
      split at h
      · simp only [Option.some.injEq, Prod.mk.injEq] at h
        obtain ⟨_, hok, rfl⟩ := h
        intro i hi
        simp at hi; subst hi
        exact ⟨b, (Mem.getC_spec hb).1, (and_split (and_split hok).2).1⟩
      · cases h
    · cases h
theorem mp_src {mem : Mem} {K E : Ty} {q : Option Nat} {y : List (MT K E).den} {u : List Nat} (h : mpRd mem K E q = some (y, true, u)) : ∀ i ∈ u, ∃ b, Mem.get mem i = some b ∧ b.wr = true := by
  cases q with
  | none => cases h
  | some j =>
    simp only [mpRd] at h
    split at h
    · rename_i b hb
      split at h
      · simp only [Option.some.injEq, Prod.mk.injEq] at h
        obtain ⟨_, hok, rfl⟩ := h
        intro i hi
        simp at hi; subst hi
        exact ⟨b, hb, (and_split hok).1⟩
      · cases h
    · cases h
theorem rd_src {mem : Mem} : ∀ {D : Dk} {x0 : D.ty.den} {y : D.den} {u : List Nat}, D.rd mem x0 = some (y, true, u) → ∀ i ∈ u, ∃ b, Mem.get mem i = some b ∧ b.wr = true
  | .v _, x0, y, u, h => by
    simp only [Dk.rd, Option.some.injEq, Prod.mk.injEq] at h
    obtain ⟨_, _, rfl⟩ := h
    intro i hi; cases hi
  | .own _ e, x0, y, u, h => own_src h
  | .mp _ K E, x0, y, u, h => mp_src h
  | .pr a b, x0, y, u, h => by
    simp only [Dk.rd] at h
    split at h
    · rename_i y1 c1 u1 y2 c2 u2 ha hb
      cases hi : anyIn u1 u2 <;> rw [hi] at h
      · simp only [cond_false, Option.some.injEq, Prod.mk.injEq] at h
        obtain ⟨_, hok, rfl⟩ := h
        obtain ⟨rfl, rfl⟩ := and_split hok
        intro i hi
        rcases List.mem_append.1 hi with hi | hi
        · exact rd_src ha i hi
        · exact rd_src hb i hi
      · cases h
    · cases h
theorem get_blksN {k : Nat} : ∀ {D : Dk} {y : D.den} {i : Nat} {b : Blk}, Mem.get (D.blksN k y) i = some b → ∃ c, c ∈ D.nms ∧ i = c + k ∧ Mem.get (D.blks y) c = some b
  | .v _, y, i, b, h => by simp [Dk.blksN, Mem.get] at h
  | .own c e, y, i, b, h => by
    simp only [Dk.blksN, Mem.get_cons] at h
    by_cases e : i = c + k
    · rw [if_pos e] at h
      exact ⟨c, by simp [Dk.nms], e, by simp only [Dk.blks, Mem.get_cons, if_true]; exact h⟩
    · rw [if_neg e] at h; cases h
  | .mp c K E, y, i, b, h => by
    simp only [Dk.blksN, Mem.get_cons] at h
    by_cases e : i = c + k
    · rw [if_pos e] at h
      exact ⟨c, by simp [Dk.nms], e, by simp only [Dk.blks, Mem.get_cons, if_true]; exact h⟩
    · rw [if_neg e] at h; cases h
  | .pr a b, y, i, b', h => by
    simp only [Dk.blksN, Mem.get_append] at h
    split at h
    · rename_i x hx
      cases h
      obtain ⟨c, h1, h2, h3⟩ := get_blksN hx
      exact ⟨c, by simp [Dk.nms, h1], h2, by simp only [Dk.blks, Mem.get_append, h3]⟩
    · rename_i hx
      obtain ⟨c, h1, h2, h3⟩ := get_blksN h
      refine ⟨c, by simp [Dk.nms, h1], h2, ?_⟩
      simp only [Dk.blks, Mem.get_append]
      cases hg : Mem.get (a.blks y.1) c with
      | none => exact h3
      | some z =>
        exfalso
        have : ∀ {D : Dk} {y : D.den} {c : Nat} {z : Blk}, Mem.get (D.blks y) c = some z → ∃ z', Mem.get (D.blksN k y) (c + k) = some z' := by
          intro D
          induction D with
          | v t => intro y c z h; simp [Dk.blks, Mem.get] at h
          | own c0 e =>
            intro y c z h
            simp only [Dk.blks, Mem.get_cons] at h
            by_cases e : c = c0
            · exact ⟨_, by simp only [Dk.blksN, Mem.get_cons]; rw [if_pos (by rw [e])]⟩
            · rw [if_neg e] at h; cases h
          | mp c0 K E =>
            intro y c z h
            simp only [Dk.blks, Mem.get_cons] at h
            by_cases e : c = c0
            · exact ⟨_, by simp only [Dk.blksN, Mem.get_cons]; rw [if_pos (by rw [e])]⟩
            · rw [if_neg e] at h; cases h
          | pr a b iha ihb =>
            intro y c z h
            simp only [Dk.blks, Mem.get_append] at h
            simp only [Dk.blksN, Mem.get_append]
            cases hg : Mem.get (a.blks y.1) c with
            | some z1 =>
              obtain ⟨z', hz'⟩ := iha hg
              rw [hz']; exact ⟨_, rfl⟩
            | none =>
              rw [hg] at h
              obtain ⟨z', hz'⟩ := ihb h
              cases Mem.get (a.blksN k y.1) (c + k) with
              | some w => exact ⟨_, rfl⟩
              | none => exact ⟨z', hz'⟩
        obtain ⟨z', hz'⟩ := this hg
        rw [← h2, hx] at hz'; cases hz'
theorem CR_bare {φ ψ : Phi} {t : Ty} (ht : plainT t = true) {x : t.den} {c : Cell} {i : Nat} (hc : (flat t x)[i]? = some c) {v : Value} (hr : CR φ c v) : CR ψ c v :=
  CR_any (plain_cells ht c (List.mem_of_getElem? hc)) hr
theorem V1_bare {φ ψ : Phi} {t : Ty} (ht : plainT t = true) {x : t.den} {v : Value} (hr : V1 φ t x v) : V1 ψ t x v := by
  unfold V1 at hr ⊢
  split
  · rename_i ha
    rw [if_pos ha] at hr
    obtain ⟨l, e, h1, h2⟩ := hr
    exact ⟨l, e, h1, fun i c hi => by obtain ⟨v, hv, hx⟩ := h2 i c hi; exact ⟨v, hv, CR_bare ht hi hx⟩⟩
  · rename_i ha
    rw [if_neg ha] at hr
    obtain ⟨c, e, h1⟩ := hr
    exact ⟨c, e, CR_bare ht (i := 0) (by rw [e]; rfl) h1⟩
theorem mkN_cells {χ ψ : Phi} {k : Nat} : ∀ {D : Dk} {y : D.den}, D.bare = true → (∀ c ∈ D.nms, ψ (c + k) = χ c) → ∀ (j : Nat) d, (flat D.ty (D.mkN k y))[j]? = some d → ∃ d0, (flat D.ty (D.mk y))[j]? = some d0 ∧ ∀ v, CR χ d0 v → CR ψ d v
  | .v t, y, hb, hn, j, d, h => ⟨d, h, fun v hv => CR_bare (t := t) hb h hv⟩
  | .own c e, y, hb, hn, j, d, h => by
    cases j with
    | zero =>
      simp only [Dk.mkN, flat, List.getElem?_cons_zero, Option.some.injEq] at h
      subst h
      refine ⟨_, rfl, fun v hv => ?_⟩
      unfold CR at hv ⊢
      have hv : SR χ ⟨c, [], 0, y.length, none⟩ v := hv
      show SR ψ ⟨c + k, [], 0, y.length, none⟩ v
      have hc := hn c (by simp [Dk.nms])
      rcases hv with hv | ⟨a, cc, e1, e2, e3, e4, e5⟩
      · exact .inl hv
      · refine .inr ⟨a, cc, e1, e2, e3, fun h1 h2 _ => ?_, fun h1 _ => ?_⟩
        · obtain ⟨ph, g1, g2⟩ := e4 h1 h2 (VD.zero rfl)
          exact ⟨ph, hc.trans g1, g2⟩
        · have := e5 h1 (VD.zero rfl)
          unfold addr at this ⊢
          simp only at this ⊢
          rw [hc]; exact this
    | succ j => simp [Dk.mkN, flat] at h
  | .mp c K E, y, hb, hn, j, d, h => by
    cases j with
    | zero =>
      simp only [Dk.mkN, flat, List.getElem?_cons_zero, Option.some.injEq] at h
      subst h
      refine ⟨_, rfl, fun v hv => ?_⟩
      unfold CR at hv ⊢
      obtain ⟨ph, g1, g2⟩ := hv
      exact ⟨ph, (hn c (by simp [Dk.nms])).trans g1, g2⟩
    | succ j => simp [Dk.mkN, flat] at h
  | .pr a b, y, hb, hn, j, d, h => by
    obtain ⟨hba, hbb⟩ := and_split hb
    simp only [Dk.mkN, flat] at h
    rcases Nat.lt_or_ge j (size a.ty) with hlt | hge
    · rw [List.getElem?_append_left (by rw [length_flat]; exact hlt)] at h
      obtain ⟨d0, g1, g2⟩ := mkN_cells hba (fun c hc => hn c (by simp [Dk.nms, hc])) j d h
      exact ⟨d0, by simp only [Dk.mk, flat]; rw [List.getElem?_append_left (by rw [length_flat]; exact hlt)]; exact g1, g2⟩
    · rw [List.getElem?_append_right (by rw [length_flat]; exact hge), length_flat] at h
      obtain ⟨d0, g1, g2⟩ := mkN_cells hbb (fun c hc => hn c (by simp [Dk.nms, hc])) _ d h
      exact ⟨d0, by simp only [Dk.mk, flat]; rw [List.getElem?_append_right (by rw [length_flat]; exact hge), length_flat]; exact g1, g2⟩
theorem blks_ren {base : Nat} {χ ψ : Phi} {w : World} : ∀ {D : Dk} {y : D.den} {c : Nat} {b : Blk} {ph : Phys}, D.bare = true → Mem.get (D.blks y) c = some b → BlkRel base χ ph b w → ψ.imm ph.blk = none → BlkRel base ψ ph b w
  | .v t, y, c, b, ph, hb, h, hr, hi => by simp [Dk.blks, Mem.get] at h
  | .own c0 e, y, c, b, ph, hb, h, hr, hi => by
    simp only [Dk.blks, Mem.get_cons] at h
    by_cases e0 : c = c0
    · rw [if_pos e0] at h
      cases h
      obtain ⟨hpe, hnt⟩ := and_split hb
      have hnt : isTup e = false := by simpa using hnt
      obtain ⟨cs, el, fr, g1, g2, g3⟩ := hr.cells hnt
      exact ⟨hr.t, fun hw => ⟨(hr.own hw).1, hi⟩, MpRel.plain hnt _, fun _ => ⟨cs, el, fr, g1, fun k d hk => by
        obtain ⟨v, hv, hx⟩ := g2 k d hk
        exact ⟨v, hv, CR_bare (t := .arr y.length e) hpe hk hx⟩, fun hw => by
        obtain ⟨k1, k2, k3, k4⟩ := g3 hw
        exact ⟨k1, k2, hi, k4⟩⟩⟩
    · rw [if_neg e0] at h; cases h
  | .mp c0 K E, y, c, b, ph, hb, h, hr, hi => by
    simp only [Dk.blks, Mem.get_cons] at h
    by_cases e0 : c = c0
    · rw [if_pos e0] at h
      cases h
      obtain ⟨hK, hE⟩ := and_split hb
      refine ⟨hr.t, fun hw => ⟨(hr.own hw).1, hi⟩, ?_, fun ht => by cases ht⟩
      obtain ⟨es, clock, h1, h2, h3, h4⟩ := hr.mp
      exact ⟨es, clock, h1, h2, fun i x hx => (by
        obtain ⟨e, he, k1, k2⟩ := h3 i x hx
        exact ⟨e, he, V1_bare hK k1, V1_bare hE k2⟩), h4⟩
    · rw [if_neg e0] at h; cases h
  | .pr a b, y, c, b', ph, hb, h, hr, hi => by
    obtain ⟨hba, hbb⟩ := and_split hb
    simp only [Dk.blks, Mem.get_append] at h
    split at h
    · rename_i x hx
      cases h
      exact blks_ren hba hx hr hi
    · exact blks_ren hbb h hr hi
end Go.GX

namespace Go.GX
set_option linter.unusedSimpArgs false
set_option linter.unusedVariables false
set_option linter.unusedSectionVars false
open Go.RowKit (Below)
theorem names_get {k : Nat} : ∀ {D : Dk} {y : D.den} {c : Nat}, c ∈ D.nms → (∃ b, Mem.get (D.blksN k y) (c + k) = some b) ∧ ∃ b, Mem.get (D.blks y) c = some b
  | .v _, y, c, h => by simp [Dk.nms] at h
  | .own c0 e, y, c, h => by
    simp only [Dk.nms, List.mem_singleton] at h
    subst h
    exact ⟨⟨_, by simp only [Dk.blksN, Mem.get_cons, if_true]; rfl⟩, ⟨_, by simp only [Dk.blks, Mem.get_cons, if_true]; rfl⟩⟩
  | .mp c0 K E, y, c, h => by
    simp only [Dk.nms, List.mem_singleton] at h
    subst h
    exact ⟨⟨_, by simp only [Dk.blksN, Mem.get_cons, if_true]; rfl⟩, ⟨_, by simp only [Dk.blks, Mem.get_cons, if_true]; rfl⟩⟩
  | .pr a b, y, c, h => by
    simp only [Dk.nms, List.mem_append] at h
    simp only [Dk.blksN, Dk.blks, Mem.get_append]
    rcases h with h | h
    · obtain ⟨⟨b1, h1⟩, b2, h2⟩ := names_get (k := k) (D := a) (y := y.1) h
      exact ⟨⟨b1, by rw [h1]⟩, b2, by rw [h2]⟩
    · obtain ⟨⟨b1, h1⟩, b2, h2⟩ := names_get (k := k) (D := b) (y := y.2) h
      refine ⟨?_, ?_⟩
      · cases Mem.get (a.blksN k y.1) (c + k) with
        | some z => exact ⟨z, rfl⟩
        | none => exact ⟨b1, h1⟩
      · cases Mem.get (a.blks y.1) c with
        | some z => exact ⟨z, rfl⟩
        | none => exact ⟨b2, h2⟩
end Go.GX

namespace Go.GX
set_option linter.unusedSimpArgs false
set_option linter.unusedVariables false
set_option linter.unusedSectionVars false
open Go.RowKit (Below)
def fnO (C : Cx) (fn : Func) (D : Dk) (rp : List Nat) (n1 : Nat) (T : Ty) (args : List V) (x : D.den) (sh : Sh := .hd) : Option (T.den × D.den) :=
  match fn.body with
  | none => none
  | some c => bif Nat.ble (args.length + 1) fn.ntmps then
      codeT C c ⟨putArgs (sh.args ⟨0, rp⟩ args) 0 .lf, fn.ntmps, obMem D x, n1, true⟩ fun e s => match e with
        | .exit _ => none
        | .goto _ => none
        | .pan _ _ => none
        | _ => match resY C.Θ fn s with
          | some (v, s', c) => bif c then (match asT T v, extS [.ob 0 D] s' with
            | some y, some (x', c2, _) => bif c2 then some (y, x'.1) else none
            | _, _ => none) else none
          | none => none
    else none
theorem fnO_ok {P : Program} {C : Cx} (hC : CxOK P C) {fn : Func} {f : Nat} (hf : P.funcs[f]? = some fn) {D : Dk} {rp : List Nat} {n1 : Nat} {T : Ty} {args : List V} {x x' : D.den} {y : T.den} {sh : Sh} (hL : ∀ c, fn.body = some c → LOK P C 1 c)
    (hoS : okS 1 n1 [.ob 0 D] = true) (hpl : D.plain = true) (hT : plainT T = true) (h : fnO C fn D rp n1 T args x sh = some (y, x')) : ObjOK P f D rp n1 args x ⟨T, y⟩ x' sh := by
  intro base φ w xs hm hA
  unfold fnO at h
  split at h
  · cases h
  · rename_i c hc
    cases hb : Nat.ble (args.length + 1) fn.ntmps <;> rw [hb] at h
    · cases h
    · simp only [cond_true] at h
      have hle := Nat.le_of_ble_eq_true hb
      refine calls_of_wp hf hc (codeT_ok hC (hL c hc) (base := base) (φ := φ) (fun e s hs => ?_) h ⟨fun s u c' hs => ?_, by simp [hA.1, Sh.len]; omega, hm, rfl⟩ ?_)
      · split at hs
        · cases hs
        · cases hs
        · cases hs
        · split at hs
          · rename_i v s' c hres
            cases hk : c <;> rw [hk] at hs hres
            · cases hs
            · unfold resY at hres
              split at hres
              · simp only [Option.some.injEq, Prod.mk.injEq] at hres
                exact pubs_mono (and_split hres.2.2).2
              · cases hres
          · cases hs
      · rcases putArgs_get hs with ⟨hc', _, hg⟩ | hg
        · subst hc'
          simp only [Nat.sub_zero] at hg
          obtain ⟨x, hx, hr⟩ := hA.2 s u hg
          refine ⟨fun _ => ?_, fun e => by cases e⟩
          have hsz : s < xs.size := (Array.getElem?_eq_some_iff.1 hx).1
          rw [Array.getD_eq_getD_getElem?, Array.getElem?_append_left hsz, hx]
          exact hr
        · simp [Tr.get] at hg
      · intro e0 e s ψ a' w' he h1 hr' hb' h4
        have post : a'.defers = [] ∧ ∃ z, (results fn a'.tmps).run P w' = .ok z w' ∧ (∃ ψ z', Ending.returned z = .returned z' ∧ Phi.leK 1 φ ψ ∧ MemRel base ψ (obMem D x') n1 w' ∧ Below base w w' ∧ VR ψ ⟨T, y⟩ z') := by
          have h4 : (match resY C.Θ fn s with
              | some (v, s', c) => bif c then (match asT T v, extS [.ob 0 D] s' with
                | some y, some (x', c2, _) => bif c2 then some (y, x'.1) else none
                | _, _ => none) else none
              | none => none) = some (y, x') := by
            rcases EX_of he with ⟨rfl, rfl⟩ | ⟨j, rfl, rfl⟩ | ⟨rfl, rfl⟩ | ⟨j, rfl, rfl⟩ | ⟨_, _, rfl, rfl⟩
            · exact h4
            · cases h4
            · exact h4
            · cases h4
            · cases h4
          split at h4
          · rename_i v s' cc hres
            cases hk : cc <;> rw [hk] at h4 hres
            · cases h4
            · simp only [cond_true] at h4
              split at h4
              · rename_i y1 x1 c2 us hv hx
                cases hc2 : c2 <;> rw [hc2] at h4 hx
                · cases h4
                · simp only [cond_true, Option.some.injEq, Prod.mk.injEq] at h4
                  obtain ⟨rfl, rfl⟩ := h4
                  have hv := asT_eq hv
                  subst hv
                  obtain ⟨χ, hχ, hr2, _, z, hrun, hz⟩ := resY_ok hC.Θ hr' hres
                  obtain ⟨ψ2, g1, g2⟩ := extS_ok (kp := 1) (nxt := n1) hr2 hoS (by simp [plainIt, hpl]) hx
                  refine ⟨hr'.defers, z, hrun, ψ2, z, rfl, Phi.leK_trans h1 (Phi.leK_trans hχ.toK g1), ?_, hb', plainV_ok (φ := χ) (ψ := ψ2) (by unfold plainV; rw [hT]; rfl) hz⟩
                  have hmm := g2.mem
                  simp only [mkS, List.append_nil] at hmm
                  exact hmm
              · cases h4
          · cases h4
        rcases EX_of he with ⟨rfl, rfl⟩ | ⟨j, rfl, rfl⟩ | ⟨rfl, rfl⟩ | ⟨j, rfl, rfl⟩ | ⟨_, _, rfl, rfl⟩
        · exact post
        · cases h4
        · exact post
        · cases h4
        · cases h4
theorem ObjOK.ofS {P : Program} {C : Cx} (hC : CxOK P C) {fn : Func} {f : Nat} (hf : P.funcs[f]? = some fn) {D : Dk} {rp : List Nat} {n1 : Nat} {ts : List Ty} {T : Ty} {S : D.den → AD ts → Option (T.den × D.den)} {sh : Sh} (hL : ∀ c, fn.body = some c → LOK P C 1 c)
    (hoS : (okS 1 n1 [.ob 0 D] && (D.plain && plainT T)) = true) (h : ∀ x z, fnO C fn D rp n1 T (mkA ts z) x sh = S x z) :
    ∀ x z, (S x z).isSome = true → ObjOK P f D rp n1 (mkA ts z) x ⟨T, ((S x z).getD (dflt T, D.dflt)).1⟩ ((S x z).getD (dflt T, D.dflt)).2 sh := by
  intro x z hk
  obtain ⟨h1, h2⟩ := and_split hoS
  obtain ⟨h2, h3⟩ := and_split h2
  cases hs : S x z with
  | none => rw [hs] at hk; cases hk
  | some y => exact fnO_ok hC hf hL h1 h2 h3 ((h x z).trans hs)
end Go.GX

namespace Go.GX
set_option linter.unusedSimpArgs false
set_option linter.unusedVariables false
set_option linter.unusedSectionVars false
open Go.RowKit (Below)
def endK (Θ : Tab) (fn : Func) (T : Ty) : X → St → Option T.den := fun e s => match e with
  | .exit _ => none
  | .goto _ => none
  | .pan _ _ => none
  | _ => match resY Θ fn s with
    | some (v, _, c) => bif c then asT T v else none
    | none => none
theorem run_eqlNil {P : Program} {T eT : Nat} {a : Act} {w : World} {x : Operand} {ad : Option Addr} {n c : Nat} {T' : Nat} {dst : Option Tmp} {type : TypeId} {pos : String} {after : Array Edge} {guard : Option (Nat × Bool)}
    (hT : P.underlying T = some (.slice eT)) (hx : a.eval x = .slice ad n c) :
    (execOp a.eval ⟨dst, .binOp .eql T x (.const (.slice none 0 0)) T', type, pos, after, guard⟩).run P w = .ok (.value (.bool ad.isNone)) w := by
  have hc : a.eval (.const (.slice none 0 0)) = .slice none 0 0 := rfl
  simp only [execOp, Sem.run_bind, hx, hc, run_eqGuard_other (P := P) (op := .eql) (t := T) (ox := x) (oy := .const (.slice none 0 0)) w (a := .slice ad n c) (by simp) (by simp), Result.andThen]
  rw [run_binOp_equal (e := true) rfl (by simp) (by simp) (by simp) (by simp) (run_equal_slicenil hT)]
  simp
def clOp (b : Option Code) (k : Nat) : Oper := match b with
  | some (.seq (.region _ a _) (.seq (.seq (.region _ c _) _) _)) => ((a.toList ++ c.toList).drop k).headD ⟨none, .move (.tmp 0), 0, "", #[], none⟩
  | _ => ⟨none, .move (.tmp 0), 0, "", #[], none⟩
def clThn (b : Option Code) : Code := match b with
  | some (.seq _ (.seq (.seq _ (.cond _ t _)) _)) => t
  | _ => .skip
def clTail (b : Option Code) : Code := match b with
  | some (.seq _ (.seq _ t)) => t
  | _ => .skip
theorem clone_pure {P : Program} {C : Cx} (hC : CxOK P C) {fn : Func} {f : Nat} (hf : P.funcs[f]? = some fn) {te : Ty} {T T' eT i0 i1 : Nat} {o2 o3 o4 : Oper} {thn tail : Code}
    (hb : fn.body = some (.seq (.region i0 #[o2] false) (.seq (.seq (.region i1 #[o3, o4] false) (.cond (.tmp 4) thn .skip)) tail)))
    (h2 : o2.op = .assign (.const (.slice none 0 0)) ∧ o2.dst = some 2 ∧ o2.guard = none) (h3 : o3.op = .move (.tmp 0) ∧ o3.dst = some 3 ∧ o3.guard = none)
    (h4 : o4.op = .binOp .eql T (.tmp 3) (.const (.slice none 0 0)) T' ∧ o4.dst = some 4 ∧ o4.guard = none)
    (hT : P.underlying T = some (.slice eT)) (hn : fn.ntmps = 8) (hte : valT te = true) {l : List te.den}
    (hnil : l = [] → PureOK P f [⟨.slice, none⟩] ⟨.vsl te, l⟩) (hL : LOK P C 0 tail)
    (h : codeT C tail ⟨putArgs [⟨.vsl te, l⟩] 0 .lf, 8, [], 0, true⟩ (endK C.Θ fn (.vsl te)) = some l) : PureOK P f [⟨.vsl te, l⟩] ⟨.vsl te, l⟩ := by
  intro φ w xs hI hA
  obtain ⟨v, hxs, hv⟩ : ∃ v, xs = #[v] ∧ VR φ ⟨.vsl te, l⟩ v := by
    have h1 := hA.1
    obtain ⟨v, hv, hr⟩ := hA.2 0 _ rfl
    refine ⟨v, ?_, hr⟩
    apply Array.ext'
    have hl : xs.toList.length = 1 := by simpa using h1
    match hx : xs.toList, hl with
    | [u], _ =>
      have : xs.toList[0]? = some v := by simpa using hv
      rw [hx] at this
      simp at this
      rw [this]
  subst hxs
  have hv0 := hv
  have hv := VR_vsl.1 hv
  unfold CR at hv
  rcases hv with ⟨hl0, hvn⟩ | ⟨ad, cc, hvs, hlc, himm⟩
  · have hl : l = [] := List.length_eq_zero_iff.1 hl0
    refine hnil hl φ w #[v] hI ⟨rfl, fun i u hi => ?_⟩
    cases i with
    | zero => simp at hi; subst hi; exact ⟨v, rfl, VR_nilslice.2 hvn⟩
    | succ i => simp at hi
  · let φ0 : Phi := φ.bare w.heap.size
    have hvv : VR φ0 ⟨.vsl te, l⟩ v := valV_ok (φ := φ) (ψ := φ.bare w.heap.size) (fun _ _ h => h) (by unfold valV; simp [valT, hte]) hv0
    have fin : ∀ a1 : Act, a1.tmps.size = 8 → a1.defers = [] → a1.tmps.getD 0 undef = v → tail.wp P (bodyPost P fn fun e w' => ∃ ψ m n x, e = .returned x ∧ (φ.bare w.heap.size).le ψ ∧ MemRel w.heap.size ψ m n w' ∧ VR ψ ⟨.vsl te, l⟩ x ∧ Below w.heap.size w w') a1 w := by
      intro a1 hsz hdf h0
      refine codeT_ok hC hL (base := w.heap.size) (φ := φ0) (fun x s hs => ?_) h ⟨fun s u c' hs => ?_, hsz, MemRel.nil w hI, hdf⟩ ?_
      · unfold endK at hs
        split at hs
        · cases hs
        · cases hs
        · cases hs
        · split at hs
          · rename_i v s' c hres
            cases hk : c <;> rw [hk] at hs hres
            · cases hs
            · unfold resY at hres
              split at hres
              · simp only [Option.some.injEq, Prod.mk.injEq] at hres
                exact pubs_mono (and_split hres.2.2).2
              · cases hres
          · cases hs
      · rcases putArgs_get hs with ⟨hc', _, hg⟩ | hg
        · subst hc'
          cases s with
          | zero => simp at hg; subst hg; exact ⟨fun _ => by rw [h0]; exact hvv, fun e => by cases e⟩
          | succ s => simp at hg
        · simp [Tr.get] at hg
      · intro x e s ψ a' w' he h1 hr' hb' h4
        have post : a'.defers = [] ∧ ∃ z, (results fn a'.tmps).run P w' = .ok z w' ∧ (∃ ψ m n x, Ending.returned z = .returned x ∧ (φ.bare w.heap.size).le ψ ∧ MemRel w.heap.size ψ m n w' ∧ VR ψ ⟨.vsl te, l⟩ x ∧ Below w.heap.size w w') := by
          have h4 : (match resY C.Θ fn s with | some (v, _, c) => bif c then asT (.vsl te) v else none | none => none) = some l := by
            rcases EX_of he with ⟨rfl, rfl⟩ | ⟨j, rfl, rfl⟩ | ⟨rfl, rfl⟩ | ⟨j, rfl, rfl⟩ | ⟨_, _, rfl, rfl⟩
            · exact h4
            · cases h4
            · exact h4
            · cases h4
            · cases h4
          split at h4
          · rename_i v s' cc hres
            cases hk : cc <;> rw [hk] at h4 hres
            · cases h4
            · simp only [cond_true] at h4
              have hv := asT_eq h4
              subst hv
              obtain ⟨χ, hχ, hr2, _, z, hrun, hz⟩ := resY_ok hC.Θ hr' hres
              exact ⟨hr'.defers, z, hrun, χ, _, _, _, rfl, Phi.le_trans (h1.toLe (fun i p hp => by cases hp)) hχ, hr2.mem, hz, hb'⟩
          · cases h4
        rcases EX_of he with ⟨rfl, rfl⟩ | ⟨j, rfl, rfl⟩ | ⟨rfl, rfl⟩ | ⟨j, rfl, rfl⟩ | ⟨_, _, rfl, rfl⟩
        · exact post
        · cases h4
        · exact post
        · cases h4
        · cases h4
    refine calls_of_wp hf hb ?_
    refine wp_seq (wp_region_list ?_)
    have st2 : ∀ (o : Oper) (x : Operand) (y : Value) (a : Act) (w : World) (ops : Array Oper) (r : List Oper) (Q : Exit → Act → World → Prop), o.guard = none → (o.op = .assign x ∨ o.op = .move x) → wpList P ops Q r (a.put o.dst (a.eval x)) w → wpList P ops Q (o :: r) a w := by
      intro o x y a w ops r Q hg ho hr
      rw [wpList, if_pos (by simp [Region.wanted, hg])]
      rcases ho with ho | ho
      · exact .inl (by unfold Oper.wp execOp; rw [ho]; exact hr)
      · exact .inl (by unfold Oper.wp execOp; rw [ho]; exact hr)
    refine st2 o2 _ v _ _ _ _ _ h2.2.2 (.inl h2.1) ?_
    show (Code.seq _ tail).wp P _ _ _
    refine wp_seq ?_
    refine wp_seq (wp_region_list ?_)
    refine st2 o3 _ v _ _ _ _ _ h3.2.2 (.inr h3.1) ?_
    rw [wpList, if_pos (by simp [Region.wanted, h4.2.2])]
    refine .inl ?_
    obtain ⟨g1, g2, g3⟩ := h4
    obtain ⟨dst, op, type, pos, after, guard⟩ := o4
    simp only at g1 g2 g3
    subst g1; subst g2; subst g3
    rw [h2.2.1, h3.2.1, hn]
    unfold Oper.wp
    rw [run_eqlNil (ad := some ad) (n := l.length) (c := cc) hT (by rw [← hvs]; rfl)]
    show (Code.cond (.tmp 4) thn .skip).wp P _ _ _
    refine wp_cond_false rfl ?_
    refine wp_skip ?_
    exact fin _ (by simp [Act.put]) (by simp [Act.put]) (by simp [Act.put])
end Go.GX

namespace Go.GX
set_option linter.unusedSimpArgs false
set_option linter.unusedVariables false
set_option linter.unusedSectionVars false
open Go.RowKit (Below)
def seO {α : Type} (d : α) (l : List α) : List α := sec d l 0 l.length
def seI {α : Type} (d : α) (l : List α) : List α := sec d l (impS l) l.length
theorem seO_eq {α : Type} (d : α) (l : List α) : seO d l = l := by
  unfold seO sec
  apply List.ext_getElem
  · simp
  · intro i h1 h2
    simp [List.getD, h2]
theorem seI_eq {α : Type} (d : α) (l : List α) : seI d l = l := by
  cases l with
  | nil => rfl
  | cons a r => exact seO_eq d (a :: r)
def fl0 {α : Type} (l : List α) : Bool := decide ((0 + l.length : Nat) ≤ l.length)
def flO {α : Type} (l : List α) : Bool := decide ((0 + l.length : Nat) ≤ l.length) || Nat.beq l.length 0
def flI {α : Type} (l : List α) : Bool := decide ((impS l + l.length : Nat) ≤ l.length) || Nat.beq l.length 0
theorem fl0_eq {α : Type} (l : List α) : fl0 l = true := by unfold fl0; simp
theorem flO_eq {α : Type} (l : List α) : flO l = true := by unfold flO; simp
theorem flI_eq {α : Type} (l : List α) : flI l = true := by
  cases l with
  | nil => rfl
  | cons a r => unfold flI impS; simp
def Dk.reO : (D : Dk) → D.den → D.den
  | .v _, x => x
  | .own _ e, l => seO (GX.dflt e) l
  | .mp _ _ _, x => x
  | .pr a b, x => (a.reO x.1, b.reO x.2)
def Dk.reI : (D : Dk) → D.den → D.den
  | .v _, x => x
  | .own _ e, l => seI (GX.dflt e) l
  | .mp _ _ _, x => x
  | .pr a b, x => (a.reI x.1, b.reI x.2)
theorem Dk.reO_eq : ∀ (D : Dk) (x : D.den), D.reO x = x
  | .v _, _ => rfl
  | .own _ e, l => seO_eq _ l
  | .mp _ _ _, _ => rfl
  | .pr a b, x => by simp only [Dk.reO, Dk.reO_eq a, Dk.reO_eq b]
theorem Dk.reI_eq : ∀ (D : Dk) (x : D.den), D.reI x = x
  | .v _, _ => rfl
  | .own _ e, l => seI_eq _ l
  | .mp _ _ _, _ => rfl
  | .pr a b, x => by simp only [Dk.reI, Dk.reI_eq a, Dk.reI_eq b]
@[reducible] def Dk.vty : Dk → Ty
  | .v t => t
  | .own _ e => .vsl e
  | .mp _ _ _ => .map
  | .pr a b => .pair a.vty b.vty
@[reducible] def Dk.toV : (D : Dk) → D.den → D.vty.den
  | .v _, x => x
  | .own _ _, l => l
  | .mp _ _ _, _ => none
  | .pr a b, x => (a.toV x.1, b.toV x.2)
def Dk.okI : Dk → Bool
  | .v t => valT t && !isTup t
  | .own _ e => plainT e && !isTup e
  | .mp _ _ _ => false
  | .pr a b => a.okI && b.okI
structure To (φ ψ : Phi) (t : Ty) (x : t.den) (t' : Ty) (x' : t'.den) : Prop where
  agg : isAgg t' = isAgg t
  tup : isTup t' = false
  tup0 : isTup t = false
  size : GX.size t' = GX.size t
  cell : ∀ (j : Nat) c', (flat t' x')[j]? = some c' → ∃ c, (flat t x)[j]? = some c ∧ ∀ v, CR φ c v → CR ψ c' v
theorem To.V1 {φ ψ : Phi} {t t' : Ty} {x : t.den} {x' : t'.den} (h : To φ ψ t x t' x') {v : Value} (hv : GX.V1 φ t x v) : GX.V1 ψ t' x' v := by
  unfold GX.V1 at hv ⊢
  rw [h.agg]
  split
  · rename_i ha
    rw [if_pos ha] at hv
    obtain ⟨l, e, h1, h2⟩ := hv
    refine ⟨l, e, by rw [h1, length_flat, length_flat, h.size], fun i c' hi => ?_⟩
    obtain ⟨c, hc, hh⟩ := h.cell i c' hi
    obtain ⟨v, hv, hx⟩ := h2 i c hc
    exact ⟨v, hv, hh v hx⟩
  · rename_i ha
    rw [if_neg ha] at hv
    obtain ⟨c, e, h1⟩ := hv
    have hl : (flat t' x').length = 1 := by rw [length_flat, h.size, ← length_flat t x, e]; rfl
    match hf : flat t' x', hl with
    | [c'], _ =>
      refine ⟨c', rfl, ?_⟩
      obtain ⟨c0, hc, hh⟩ := h.cell 0 c' (by rw [hf]; rfl)
      rw [e] at hc
      simp at hc; subst hc
      exact hh v h1
theorem To.pair {φ ψ : Phi} {a b a' b' : Ty} {x : a.den} {y : b.den} {x' : a'.den} {y' : b'.den} (h : To φ ψ a x a' x') (k : To φ ψ b y b' y') : To φ ψ (.pair a b) (x, y) (.pair a' b') (x', y') := by
  refine ⟨rfl, rfl, rfl, by simp only [GX.size, h.size, k.size], fun j c' hj => ?_⟩
  simp only [flat] at hj ⊢
  rcases Nat.lt_or_ge j (GX.size a') with hlt | hge
  · rw [List.getElem?_append_left (by rw [length_flat]; exact hlt)] at hj
    obtain ⟨c, h1, h2⟩ := h.cell j c' hj
    exact ⟨c, by rw [List.getElem?_append_left (by rw [length_flat, ← h.size]; exact hlt)]; exact h1, h2⟩
  · rw [List.getElem?_append_right (by rw [length_flat]; exact hge), length_flat] at hj
    obtain ⟨c, h1, h2⟩ := k.cell _ c' hj
    exact ⟨c, by rw [List.getElem?_append_right (by rw [length_flat, ← h.size]; exact hge), length_flat, ← h.size]; exact h1, h2⟩
def lendQ (ow : Bool) (mem : Mem) (s : SL) (e : Ty) : Option (List e.den × Bool) := match s.path, Mem.getC mem s.id with
  | [], some b => bif ow && !b.wr then none else if h : b.t = e then some (h ▸ sec (GX.dflt b.t) b.row s.start s.len, decide (s.start + s.len ≤ b.n) || Nat.beq s.len 0) else none
  | _, _ => none
def lendS1 (ow : Bool) (mem : Mem) (e : Ty) : (t : Ty) → t.den → Option (List e.den × Bool)
  | .slice, none => some ([], true)
  | .slice, some s => lendQ ow mem s e
  | t, x => (asT (.vsl e) ⟨t, x⟩).map fun y => (y, true)
def lendD (ow : Bool) (mem : Mem) : (D : Dk) → (t : Ty) → t.den → Option (D.den × Bool)
  | .v t, t', x => (asT t (coeV t ⟨t', x⟩)).map fun y => (y, true)
  | .own _ e, t', x => lendS1 ow mem e t' x
  | .mp _ _ _, _, _ => none
  | .pr a b, .pair t u, x => match lendD ow mem a t x.1, lendD ow mem b u x.2 with
    | some (y, c), some (z, d) => some ((y, z), c && d)
    | _, _ => none
  | .pr _ _, _, _ => none
theorem To.val {φ ψ : Phi} (hi : ∀ k o, φ.imm k = some o → ψ.imm k = some o) {t : Ty} (ht : (valT t && !isTup t) = true) (x : t.den) : To φ ψ t x t x := by
  obtain ⟨h1, h2⟩ := and_split ht
  exact ⟨rfl, by simpa using h2, by simpa using h2, rfl, fun j c hj => ⟨c, hj, fun v hv => CR_imm hi (val_cells h1 c (List.mem_of_getElem? hj)) hv⟩⟩
theorem To.asT {φ ψ : Phi} (hi : ∀ k o, φ.imm k = some o → ψ.imm k = some o) {t t' : Ty} (ht : (valT t && !isTup t) = true) {x : t'.den} {y : t.den} (h : GX.asT t (coeV t ⟨t', x⟩) = some y) : To φ ψ t' x t y := by
  have h := asT_eq h
  unfold coeV at h
  split at h
  · rename_i heq
    cases heq
    split at h
    · cases h
      refine ⟨rfl, rfl, rfl, rfl, fun j c hj => ?_⟩
      cases j with
      | zero =>
        simp [flat] at hj; subst hj
        refine ⟨_, rfl, fun v hv => ?_⟩
        unfold CR at hv ⊢
        exact .inl ⟨rfl, hv⟩
      | succ j => simp [flat] at hj
    · cases h; exact To.val hi ht _
  · cases h; exact To.val hi ht _
section
variable {base : Nat} {φ : Phi} {mem : Mem} {nxt : Nat} {w : World} {im : Nat → Option Obj} {ow : Bool}
theorem lendQ_ok (hm : MemRel base φ mem nxt w) (him : ∀ k o, φ.imm k = some o → im k = some o) (hall : ∀ i b ph, Mem.get mem i = some b → φ i = some ph → (ow = true → b.wr = true) → im ph.blk = w.heap[ph.blk]?)
    {e : Ty} (he : (plainT e && !isTup e) = true) {s : SL} {z : List e.den} (h : lendQ ow mem s e = some (z, true)) {v : Value} (hv : SR φ s v) : CR (φ.with im) (.vs z.length (flat (.arr z.length e) z)) v := by
  obtain ⟨hpe, _⟩ := and_split he
  unfold lendQ at h
  split at h
  · rename_i b hp hb
    obtain ⟨hb, hbnt⟩ := Mem.getC_spec hb
    cases how : ow && !b.wr <;> rw [how] at h
    case true => cases h
    have how' : ow = true → b.wr = true := fun e => by rw [e] at how; simpa using how
    simp only [cond_false] at h
    split at h
    · rename_i hbe
      subst hbe
      simp only [Option.some.injEq, Prod.mk.injEq] at h
      obtain ⟨rfl, hok⟩ := h
      unfold CR
      rw [length_sec]
      rcases hv with ⟨q0, _, q1⟩ | ⟨q, cc, q1, q3, _, _, had⟩
      · exact .inl ⟨q0, q1⟩
      · refine .inr ⟨q, cc, q1, q3, fun hne => ?_⟩
        have hle' : s.start + s.len ≤ b.n := by
          rcases Bool.or_eq_true_iff.1 hok with h | h
          · exact of_decide_eq_true h
          · exact absurd (Nat.eq_of_beq_eq_true h) hne
        have had := had (by omega) (VD.not (by omega))
        obtain ⟨ph, hph⟩ := addr_phys had
        have hph : φ s.id = some ph := hph
        have hbr := hm.blkAt hb hph
        obtain ⟨cs, el, fr, h1, h2, _⟩ := hbr.cells hbnt
        have : q = ⟨ph.blk, ph.off + s.start * size b.t, none⟩ := by
          unfold addr at had
          have h0 : offs b.t [] = some 0 := by cases b.t <;> rfl
          simp only [hph, hp, List.nil_append, hbr.t] at had
          simp only [offs, h0, Option.map_some, Nat.add_zero, Option.some.injEq] at had
          exact had.symm
        subst this
        refine ⟨rfl, cs, el, fr, by show im ph.blk = _; rw [hall _ _ _ hb hph how', h1], ?_⟩
        rw [CRs_iff]
        intro i d hi
        have hlt := (List.getElem?_eq_some_iff.1 hi).1
        rw [length_flat, size] at hlt
        have hpos : 0 < size b.t := by
          rcases Nat.eq_zero_or_pos (size b.t) with h0 | h0
          · rw [h0] at hlt; omega
          · exact h0
        have hq : i / size b.t < s.len := Nat.div_lt_of_lt_mul (by rw [Nat.mul_comm]; exact hlt)
        have hrr : i % size b.t < size b.t := Nat.mod_lt _ hpos
        have hkk : i = i / size b.t * size b.t + i % size b.t := by rw [Nat.mul_comm]; exact (Nat.div_add_mod i (size b.t)).symm
        rw [flat, hkk, get_flatMap_const _ (size b.t) (fun i => length_flat b.t _) _ _ _ hq hrr, getD_sec _ _ _ _ _ hq] at hi
        obtain ⟨v, hv, hvr⟩ := h2 ((s.start + i / size b.t) * size b.t + i % size b.t) d (by
          rw [flat, get_flatMap_const _ (size b.t) (fun i => length_flat b.t _) _ _ _ (by omega) hrr]; exact hi)
        refine ⟨v, ?_, CR_bare hpe hi hvr⟩
        rw [List.getElem?_drop, Array.getElem?_toList, ← hv]
        congr 1
        show ph.off + s.start * size b.t + i = _
        rw [Nat.add_mul]; omega
    · cases h
  · cases h
theorem lendD_ok (hm : MemRel base φ mem nxt w) (him : ∀ k o, φ.imm k = some o → im k = some o) (hall : ∀ i b ph, Mem.get mem i = some b → φ i = some ph → (ow = true → b.wr = true) → im ph.blk = w.heap[ph.blk]?) :
    ∀ {D : Dk} {t : Ty} {x : t.den} {y : D.den}, D.okI = true → lendD ow mem D t x = some (y, true) → To φ (φ.with im) t x D.vty (D.toV y)
  | .v t, t', x, y, ho, h => by
    simp only [lendD, Option.map_eq_some_iff, Prod.mk.injEq] at h
    obtain ⟨z, hz, rfl, _⟩ := h
    exact To.asT him ho hz
  | .own c e, t', x, y, ho, h => by
    simp only [lendD] at h
    have one : ∀ {t' : Ty} {x : t'.den} {c0 : Cell}, isTup t' = false → isAgg t' = false → flat t' x = [c0] → (∀ v, CR φ c0 v → CR (φ.with im) (.vs (List.length y) (flat (.arr (List.length y) e) y)) v) → To φ (φ.with im) t' x (.vsl e) y := by
      intro t' x c0 ht ha hf hh
      refine ⟨by rw [ha]; rfl, rfl, ht, ?_, fun j c' hj => ?_⟩
      · rw [← length_flat t' x, hf]; rfl
      · cases j with
        | zero =>
          simp [flat] at hj; subst hj
          exact ⟨c0, by rw [hf]; rfl, hh⟩
        | succ j => simp [flat] at hj
    unfold lendS1 at h
    split at h
    · simp only [Option.some.injEq, Prod.mk.injEq] at h
      obtain ⟨rfl, _⟩ := h
      refine one rfl rfl rfl (fun v hv => ?_)
      unfold CR at hv ⊢
      exact .inl ⟨rfl, hv⟩
    · refine one rfl rfl rfl (fun v hv => ?_)
      exact lendQ_ok hm him hall ho h (by unfold CR at hv; exact hv)
    · simp only [Option.map_eq_some_iff, Prod.mk.injEq] at h
      obtain ⟨z, hz, rfl, _⟩ := h
      have hz := asT_eq hz
      cases hz
      obtain ⟨hpe, _⟩ := and_split ho
      refine one rfl rfl rfl (fun v hv => ?_)
      exact CR_imm (φ := φ) (ψ := φ.with im) him (val_cells (t := .vsl e) (x := z) (by
        have : ∀ t : Ty, plainT t = true → valT t = true := by
          intro t
          induction t <;> simp_all [plainT, valT]
        exact this e hpe) _ (by simp [flat])) hv
  | .pr a b, .pair t u, x, y, ho, h => by
    simp only [lendD] at h
    split at h
    · rename_i y1 c1 z1 d1 h1 h2
      simp only [Option.some.injEq, Prod.mk.injEq] at h
      obtain ⟨rfl, hok⟩ := h
      obtain ⟨rfl, rfl⟩ := and_split hok
      obtain ⟨ha, hb⟩ := and_split ho
      exact To.pair (lendD_ok hm him hall ha h1) (lendD_ok hm him hall hb h2)
    · cases h
  | .mp _ _ _, t, x, y, ho, h => by cases ho
  | .pr a b, .bool, x, y, ho, h | .pr a b, .int _, x, y, ho, h | .pr a b, .str, x, y, ho, h | .pr a b, .ptr, x, y, ho, h | .pr a b, .slice, x, y, ho, h | .pr a b, .func, x, y, ho, h | .pr a b, .iface, x, y, ho, h | .pr a b, .map, x, y, ho, h | .pr a b, .vsl _, x, y, ho, h | .pr a b, .vptr _, x, y, ho, h | .pr a b, .unit, x, y, ho, h | .pr a b, .arr _ _, x, y, ho, h | .pr a b, .tnil, x, y, ho, h | .pr a b, .tup _ _, x, y, ho, h => by simp [lendD] at h
end
def iPh (v : Value) (n : Nat) (e : Ty) : Option Phys := match v with
  | .slice (some a) _ cc => if n = 0 then none else some ⟨a.block, a.off, e, cc⟩
  | _ => none
def Dk.iph (val : Nat → Value) : (D : Dk) → D.den → Nat → Nat → Option Phys
  | .v _, _, _, _ => none
  | .own _ e, l, k, _ => iPh (val k) l.length e
  | .mp _ _ _, _, _, _ => none
  | .pr a b, x, k, i => if i ∈ a.nms then a.iph val x.1 k i else b.iph val x.2 (k + size a.ty) i
theorem Dk.size_vty : ∀ {D : Dk}, size D.vty = size D.ty
  | .v _ | .own _ _ | .mp _ _ _ => rfl
  | .pr a b => by simp only [size, Dk.size_vty (D := a), Dk.size_vty (D := b)]
def RoAt (base : Nat) (Φ : Phi) (w : World) (i : Nat) (b : Blk) : Prop :=
  b.wr = false ∧ ((Φ i = none ∧ b.n = 0) ∨ ∃ ph, Φ i = some ph ∧ BlkRel base Φ ph b w ∧ ∃ o, Φ.imm ph.blk = some o)
theorem imp_sound {base : Nat} {Φ : Phi} {w : World} (hI : ∀ k o, Φ.imm k = some o → w.heap[k]? = some o) {val : Nat → Value} :
    ∀ {D : Dk} {y : D.den} {k0 : Nat}, D.okI = true → noDup D.nms = true → (∀ (j : Nat) c, (flat D.vty (D.toV y))[j]? = some c → CR Φ c (val (k0 + j))) → (∀ c ∈ D.nms, Φ c = D.iph val y k0 c) →
      (∀ (j : Nat) c, (flat D.ty (D.mkI y))[j]? = some c → CR Φ c (val (k0 + j))) ∧ (∀ i b, Mem.get (D.blksR y) i = some b → RoAt base Φ w i b)
  | .v t, y, k0, ho, hd, hc, hn => ⟨fun j c hj => hc j c hj, fun i b hi => by simp [Dk.blksR, Mem.get] at hi⟩
  | .mp _ _ _, y, k0, ho, hd, hc, hn => by cases ho
  | .own c e, y, k0, ho, hd, hc, hn => by
    obtain ⟨hpe, hnt⟩ := and_split ho
    have hnt : isTup e = false := by simpa using hnt
    have h0 := hc 0 _ rfl
    rw [Nat.add_zero] at h0
    have hn := hn c (by simp [Dk.nms])
    have hn : Φ c = iPh (val k0) (List.length y) e := hn
    have hblk : ∀ {b : Blk} {i : Nat}, Mem.get (Dk.blksR (.own c e) y) i = some b → i = c ∧ b = ⟨e, List.length y, y, false⟩ := by
      intro b i h
      simp only [Dk.blksR, Mem.get_cons] at h
      by_cases e : i = c
      · rw [if_pos e] at h; cases h; exact ⟨e, rfl⟩
      · rw [if_neg e] at h; cases h
    have cell : ∀ {s : SL}, SR Φ s (val k0) → s = ⟨c, [], impS y, List.length y, none⟩ → ∀ (j : Nat) d, (flat (Dk.ty (.own c e)) (Dk.mkI (.own c e) y))[j]? = some d → CR Φ d (val (k0 + j)) := by
      intro s hs he j d hj
      subst he
      cases j with
      | zero =>
        simp only [Dk.mkI, flat, List.getElem?_cons_zero, Option.some.injEq] at hj
        subst hj
        unfold CR
        exact hs
      | succ j => simp [Dk.mkI, flat] at hj
    unfold CR at h0
    rcases h0 with ⟨h1, h2⟩ | ⟨a, cc, h1, h2, h3⟩
    · refine ⟨cell (s := ⟨c, [], impS y, List.length y, none⟩) (.inl ⟨h1, rfl, h2⟩) rfl, fun i b hi => ?_⟩
      obtain ⟨rfl, rfl⟩ := hblk hi
      exact ⟨rfl, .inl ⟨by rw [hn, h2]; rfl, h1⟩⟩
    · rcases Nat.eq_zero_or_pos (List.length y) with hz | hp
      · have hy : y = [] := List.length_eq_zero_iff.1 hz
        have hvd : VD ⟨c, [], impS y, List.length y, none⟩ := ⟨by rw [hy]; rfl, hz, rfl⟩
        refine ⟨cell (s := ⟨c, [], impS y, List.length y, none⟩) (.inr ⟨a, cc, h1, h2, fun k hk => (by cases hk), fun _ _ hv => absurd hvd hv, fun _ hv => absurd hvd hv⟩) rfl, fun i b hi => ?_⟩
        obtain ⟨rfl, rfl⟩ := hblk hi
        refine ⟨rfl, .inl ⟨?_, hz⟩⟩
        rw [hn, h1]
        simp [iPh, hz]
      · obtain ⟨hsp, os, el, fr, him, hcs⟩ := h3 (Nat.pos_iff_ne_zero.1 hp)
        have hne : impS y = 0 := by
          unfold impS
          cases y with
          | nil => simp at hp
          | cons _ _ => rfl
        have hph : Φ c = some ⟨a.block, a.off, e, cc⟩ := by
          rw [hn, h1]
          simp only [iPh]
          rw [if_neg (by omega)]
        have ha : a = ⟨a.block, a.off, none⟩ := by
          obtain ⟨b, o, sp⟩ := a
          simp only at hsp
          rw [hsp]
        refine ⟨cell (s := ⟨c, [], impS y, List.length y, none⟩) (.inr ⟨a, cc, h1, h2, fun k hk => (by cases hk), fun _ _ _ => ⟨_, hph, rfl, by rw [hne]; simp⟩, fun _ _ => ?_⟩) rfl, fun i b hi => ?_⟩
        · unfold addr
          simp only [hph]
          rw [hne]
          have h00 : offs e [] = some 0 := by cases e <;> rfl
          simp only [List.nil_append, offs, h00, Option.map_some, Nat.zero_mul, Nat.zero_add, Nat.add_zero]
          exact congrArg some ha.symm
        · obtain ⟨rfl, rfl⟩ := hblk hi
          refine ⟨rfl, .inr ⟨_, hph, ⟨rfl, fun hw => (by cases hw), MpRel.plain hnt _, fun _ => ⟨os, el, fr, hI _ _ him, fun k d hk => ?_, fun hw => (by cases hw)⟩⟩, _, him⟩⟩
          rw [CRs_iff] at hcs
          obtain ⟨v, hv, hx⟩ := hcs k d hk
          refine ⟨v, ?_, hx⟩
          rw [List.getElem?_drop] at hv
          simpa using hv
  | .pr a b, y, k0, ho, hd, hc, hn => by
    obtain ⟨ha, hb⟩ := and_split ho
    obtain ⟨hda, hdb, hdis⟩ := noDup_append hd
    obtain ⟨a1, a2⟩ := imp_sound hI (D := a) (y := y.1) (k0 := k0) (base := base) ha hda (fun j c hj => hc j c (by
      simp only [Dk.toV, flat]
      rw [List.getElem?_append_left (List.getElem?_eq_some_iff.1 hj).1]; exact hj)) (fun c hcm => by
      rw [hn c (by simp [Dk.nms, hcm])]
      simp only [Dk.iph, if_pos hcm])
    obtain ⟨b1, b2⟩ := imp_sound hI (D := b) (y := y.2) (k0 := k0 + size a.ty) (base := base) hb hdb (fun j c hj => by
      have := hc (size a.ty + j) c (by
        simp only [Dk.toV, flat]
        rw [List.getElem?_append_right (by rw [length_flat, Dk.size_vty]; omega), length_flat, Dk.size_vty]
        rw [show size a.ty + j - size a.ty = j by omega]; exact hj)
      rwa [← Nat.add_assoc] at this) (fun c hcm => by
      rw [hn c (by simp [Dk.nms, hcm])]
      simp only [Dk.iph]
      rw [if_neg (fun h => hdis c h hcm)])
    refine ⟨fun j c hj => ?_, fun i b' hi => ?_⟩
    · simp only [Dk.mkI, flat] at hj
      rcases Nat.lt_or_ge j (size a.ty) with hlt | hge
      · rw [List.getElem?_append_left (by rw [length_flat]; exact hlt)] at hj
        exact a1 j c hj
      · rw [List.getElem?_append_right (by rw [length_flat]; exact hge), length_flat] at hj
        have := b1 (j - size a.ty) c hj
        rwa [show k0 + size a.ty + (j - size a.ty) = k0 + j by omega] at this
    · simp only [Dk.blksR, Mem.get_append] at hi
      split at hi
      · rename_i x hx
        cases hi
        exact a2 i b' hx
      · exact b2 i b' hi
theorem Dk.iph_lt {Φ : Phi} {w : World} (hI : ∀ k o, Φ.imm k = some o → w.heap[k]? = some o) {val : Nat → Value} : ∀ {D : Dk} {y : D.den} {k0 i : Nat} {p : Phys}, (∀ (j : Nat) c, (flat D.vty (D.toV y))[j]? = some c → CR Φ c (val (k0 + j))) → D.iph val y k0 i = some p → p.blk < w.heap.size
  | .v _, y, k0, i, p, hc, h => by cases h
  | .mp _ _ _, y, k0, i, p, hc, h => by cases h
  | .own c e, y, k0, i, p, hc, h => by
    have h0 := hc 0 _ rfl
    rw [Nat.add_zero] at h0
    have h : iPh (val k0) (List.length y) e = some p := h
    unfold CR at h0
    rcases h0 with ⟨h1, h2⟩ | ⟨a, cc, h1, h2, h3⟩
    · rw [h2] at h; cases h
    · rw [h1] at h
      simp only [iPh] at h
      by_cases hz : List.length y = 0
      · rw [if_pos hz] at h; cases h
      · rw [if_neg hz] at h
        cases h
        obtain ⟨_, os, el, fr, him, _⟩ := h3 hz
        exact (Array.getElem?_eq_some_iff.1 (hI _ _ him)).1
  | .pr a b, y, k0, i, p, hc, h => by
    simp only [Dk.iph] at h
    split at h
    · refine Dk.iph_lt hI (D := a) (y := y.1) (k0 := k0) (fun j c hj => hc j c ?_) h
      simp only [Dk.toV, flat]
      rw [List.getElem?_append_left (List.getElem?_eq_some_iff.1 hj).1]; exact hj
    · refine Dk.iph_lt hI (D := b) (y := y.2) (k0 := k0 + size a.ty) (fun j c hj => ?_) h
      have := hc (size a.ty + j) c (by
        simp only [Dk.toV, flat]
        rw [List.getElem?_append_right (by rw [length_flat, Dk.size_vty]; omega), length_flat, Dk.size_vty]
        rw [show size a.ty + j - size a.ty = j by omega]; exact hj)
      rwa [← Nat.add_assoc] at this
@[reducible] def BD : List (Nat × Ty) → Type
  | [] => Unit
  | (_, t) :: r => t.den × BD r
inductive Pt where
  | p (D : Dk)
  | im (D : Dk)
  | mv (D : Dk)
  | bx (i : Nat) (t : Ty)
  | cl (g : Nat) (l : List (Nat × Ty))
@[reducible] def Pt.den : Pt → Type
  | .p D => D.den
  | .im D => D.den
  | .mv D => D.den
  | .bx _ t => t.den
  | .cl _ l => BD l
def Pt.arg : (q : Pt) → q.den → V
  | .p D, x => ⟨D.vty, D.toV x⟩
  | .im D, x => ⟨D.ty, D.mkI x⟩
  | .mv D, x => ⟨D.ty, D.mk x⟩
  | .bx i _, _ => ⟨.ptr, some ⟨i, [0]⟩⟩
  | .cl g l, _ => ⟨.func, FV.fn g [] (l.map fun y => ptrPk ⟨y.1, [0]⟩)⟩
def bxM : (l : List (Nat × Ty)) → BD l → Mem
  | [], _ => []
  | (i, t) :: r, x => (i, ⟨t, 1, [x.1], false⟩) :: bxM r x.2
def Pt.blk : (q : Pt) → q.den → Mem
  | .p _, _ => []
  | .im D, x => D.blksR x
  | .mv D, x => D.blks x
  | .bx i t, x => [(i, ⟨t, 1, [x], false⟩)]
  | .cl _ l, x => bxM l x
def Pt.nms : Pt → List Nat
  | .p _ => []
  | .im D => D.nms
  | .mv D => D.nms
  | .bx i _ => [i]
  | .cl _ l => l.map (·.1)
def Pt.ok : Pt → Bool
  | .p D => D.okI
  | .im D => D.okI
  | .mv D => D.plain && !isTup D.ty
  | .bx _ t => valT t && !isTup t
  | .cl _ l => l.all fun y => valT y.2 && !isTup y.2
def Pt.isMv : Pt → Bool
  | .mv _ => true
  | _ => false
def bxEx (mem : Mem) (t : Ty) (p : PA) : Option (t.den × Bool) := match p.path, Mem.getC mem p.id with
  | [0], some b => if h : b.t = t then some (h ▸ b.row.getD 0 (GX.dflt b.t), Nat.beq b.n 1) else none
  | _, _ => none
def ptrOf : Ty × List Cell0 → Option PA
  | (.ptr, [.ptr (some q)]) => some q
  | _ => none
theorem ptrOf_eq {c : Ty × List Cell0} {q : PA} (h : ptrOf c = some q) : c = ptrPk q := by
  unfold ptrOf at h
  split at h
  · cases h; rfl
  · cases h
def clEx (mem : Mem) : (l : List (Nat × Ty)) → List (Ty × List Cell0) → Option (BD l × Bool × List Nat)
  | [], [] => some ((), true, [])
  | (_, t) :: r, k :: cs => match ptrOf k with
    | some q => match bxEx mem t q, clEx mem r cs with
      | some (x, c), some (y, d, u) => some ((x, y), c && d, q.id :: u)
      | _, _ => none
    | none => none
  | _, _ => none
def Pt.ex (mem lm : Mem) : (q : Pt) → V → Option (q.den × Bool × List Nat × List Nat)
  | .p D, v => (lendD false lm D v.t v.x).map fun r => (r.1, r.2, [], [])
  | .im D, v => (lendD false lm D v.t v.x).map fun r => (r.1, r.2, [], [])
  | .mv D, v => if h : v.t = D.ty then (match D.rd mem (h ▸ v.x) with | some (y, c, u) => some (y, c, u, []) | none => none) else none
  | .bx _ t, v => match v with
    | ⟨.ptr, some a⟩ => (bxEx mem t a).map fun r => (r.1, r.2, [], [a.id])
    | _ => none
  | .cl g l, v => match v with
    | ⟨.func, FV.fn g' [] b⟩ => bif Nat.beq g' g then (clEx mem l b).map fun r => (r.1, r.2.1, [], r.2.2) else none
    | _ => none
theorem V1_conv {φ ψ : Phi} {t t' : Ty} {x : t.den} {x' : t'.den} {v : Value} (ha : isAgg t' = isAgg t) (hs : size t' = size t) (hv : V1 φ t x v)
    (hc : ∀ (j : Nat) c, (flat t' x')[j]? = some c → CR ψ c ((v.cells[j]?).getD undef)) : V1 ψ t' x' v := by
  have hcl := V1_cells hv
  have hlen : v.cells.toList.length = size t := by rw [hcl.1, length_flat]
  unfold V1 at hv ⊢
  rw [ha]
  split
  · rename_i h
    rw [if_pos h] at hv
    obtain ⟨l, rfl, _⟩ := hv
    refine ⟨l, rfl, ?_, fun j c hj => ?_⟩
    · have : l.toList.length = size t := hlen
      rw [this, length_flat, hs]
    · have hlt := (List.getElem?_eq_some_iff.1 hj).1
      have hl2 : j < l.toList.length := by
        have : l.toList.length = size t := hlen
        rw [this, ← hs, ← length_flat t' x']; exact hlt
      refine ⟨l.toList[j], List.getElem?_eq_getElem hl2, ?_⟩
      have := hc j c hj
      have hh : ((Value.agg l).cells[j]?).getD undef = l.toList[j] := by
        have : (Value.agg l).cells = l := rfl
        rw [this, ← Array.getElem?_toList, List.getElem?_eq_getElem hl2]; rfl
      rwa [hh] at this
  · rename_i h
    rw [if_neg h] at hv
    obtain ⟨c, e, h1⟩ := hv
    have hl : (flat t' x').length = 1 := by rw [length_flat, hs, ← length_flat t x, e]; rfl
    have hcv : v.cells = #[v] := by have := CR_one h1; cases v <;> simp_all [Value.cells, Value.oneCell']
    match hf : flat t' x', hl with
    | [c'], _ =>
      refine ⟨c', rfl, ?_⟩
      have := hc 0 c' (by rw [hf]; rfl)
      rw [hcv] at this
      exact this
theorem V1_val {φ : Phi} {t : Ty} {x : t.den} {v : Value} (hv : V1 φ t x v) : ∀ (j : Nat) c, (flat t x)[j]? = some c → CR φ c ((v.cells[j]?).getD undef) := by
  intro j c hj
  obtain ⟨u, hu, hr⟩ := (V1_cells hv).2 j c hj
  rw [← Array.getElem?_toList, hu]
  exact hr
theorem Dk.agg_vty : ∀ {D : Dk}, isAgg D.ty = isAgg D.vty
  | .v _ | .own _ _ | .mp _ _ _ | .pr _ _ => rfl
theorem Dk.okI_val : ∀ {D : Dk}, D.okI = true → valT D.vty = true ∧ isTup D.vty = false ∧ isTup D.ty = false
  | .v t, h => by
    obtain ⟨h1, h2⟩ := and_split h
    have h2 : isTup t = false := by simpa using h2
    exact ⟨h1, h2, h2⟩
  | .own _ e, h => by
    obtain ⟨h1, h2⟩ := and_split h
    refine ⟨?_, rfl, rfl⟩
    have : ∀ t : Ty, plainT t = true → valT t = true := by
      intro t
      induction t <;> simp_all [plainT, valT]
    exact this e h1
  | .mp _ _ _, h => by cases h
  | .pr a b, h => by
    obtain ⟨h1, h2⟩ := and_split h
    exact ⟨by simp only [Dk.vty, valT, (Dk.okI_val h1).1, (Dk.okI_val h2).1]; rfl, rfl, rfl⟩
structure PartOK (base : Nat) (φ : Phi) (mem : Mem) (w : World) (u : List Nat) (Φ : Phi) (A : Mem) (ns : List Nat) : Prop where
  at_ : ∀ i b, Mem.get A i = some b → i ∈ ns ∧ ((Φ i = none ∧ b.n = 0) ∨ ∃ ph, Φ i = some ph ∧ BlkRel base Φ ph b w ∧
    ((b.wr = false ∧ ∃ o, Φ.imm ph.blk = some o) ∨ (b.wr = true ∧ ∃ i0 b0 ph0, i0 ∈ u ∧ Mem.get mem i0 = some b0 ∧ b0.wr = true ∧ φ i0 = some ph0 ∧ ph0.blk = ph.blk)))
  apart : ∀ i j b b' ph ph', Mem.get A i = some b → Mem.get A j = some b' → i ≠ j → b.wr = true → Φ i = some ph → Φ j = some ph' → ph.blk ≠ ph'.blk
noncomputable def imm1 (φ : Phi) (w : World) (U : List Nat) : Nat → Option Obj := by
  classical
  exact fun k => if ∃ i, i ∈ U ∧ ∃ ph, φ i = some ph ∧ ph.blk = k then φ.imm k else w.heap[k]?
section
variable {base : Nat} {φ : Phi} {mem : Mem} {nxt : Nat} {w : World} {U : List Nat}
theorem imm1_sub (hm : MemRel base φ mem nxt w) : ∀ k o, φ.imm k = some o → imm1 φ w U k = some o := by
  intro k o hk
  unfold imm1
  split
  · exact hk
  · exact hm.imm k o hk
theorem imm1_heap (hm : MemRel base φ mem nxt w) : ∀ k o, imm1 φ w U k = some o → w.heap[k]? = some o := by
  intro k o hk
  unfold imm1 at hk
  split at hk
  · exact hm.imm k o hk
  · exact hk
theorem imm1_nil : imm1 φ w [] = fun k => w.heap[k]? := by
  funext k
  unfold imm1
  rw [if_neg]
  rintro ⟨i, hi, _⟩
  cases hi
theorem imm1_own {i : Nat} {ph : Phys} (hi : i ∈ U) (hp : φ i = some ph) : imm1 φ w U ph.blk = φ.imm ph.blk := by
  unfold imm1
  rw [if_pos ⟨i, hi, ph, hp, rfl⟩]
theorem imm1_old (hm : MemRel base φ mem nxt w) (hU : ∀ i ∈ U, ∃ b, Mem.get mem i = some b ∧ b.wr = true) {j : Nat} {b : Blk} {ph : Phys} (hj : j ∉ U) (hb : Mem.get mem j = some b) (hp : φ j = some ph) : imm1 φ w U ph.blk = w.heap[ph.blk]? := by
  unfold imm1
  rw [if_neg]
  rintro ⟨i, hi, ph0, h0, h1⟩
  obtain ⟨b0, g0, gw⟩ := hU i hi
  exact hm.apart i j b0 b ph0 ph g0 hb (fun e => hj (e ▸ hi)) gw h0 hp h1
theorem lend_ok1 (hm : MemRel base φ mem nxt w) {lm : Mem} (hlm : (lm = mem ∧ U = []) ∨ lm = []) {D : Dk} (ho : D.okI = true) {v : V} {x : D.den} (h : lendD false lm D v.t v.x = some (x, true)) {xv : Value} (hv : VR φ v xv) :
    V1 (φ.with (imm1 φ w U)) D.vty (D.toV x) xv := by
  have hT : To φ (φ.with (imm1 φ w U)) v.t v.x D.vty (D.toV x) := by
    rcases hlm with ⟨rfl, rfl⟩ | rfl
    · exact lendD_ok hm (imm1_sub hm) (fun i b ph _ _ _ => by rw [imm1_nil]) ho h
    · exact lendD_ok (hm.forget (m' := []) (fun i b h => by cases h)) (imm1_sub hm) (fun i b ph h _ _ => by cases h) ho h
  exact hT.V1 (V1_of_VR hT.tup0 hv)
theorem V1_imm3 {φ ψ : Phi} (hi : ∀ k o, φ.imm k = some o → ψ.imm k = some o) {t : Ty} (ht : valT t = true) (htt : isTup t = false) {x : t.den} {v : Value} (h : V1 φ t x v) : V1 ψ t x v :=
  V1_of_VR htt (valV_ok hi (by unfold valV; rw [ht]; rfl) (VR_of_V1 htt h))
theorem box_ok (hm : MemRel base φ mem nxt w) (hU : ∀ i ∈ U, ∃ b, Mem.get mem i = some b ∧ b.wr = true) {t : Ty} (ht : (valT t && !isTup t) = true) {p : PA} {x : t.den} (h : bxEx mem t p = some (x, true)) (hp : p.id ∉ U) :
    p.path = [0] ∧ ∃ ph, φ p.id = some ph ∧ ph.blk < w.heap.size ∧ ∀ Φ : Phi, Φ.imm = imm1 φ w U → BlkRel base Φ ph ⟨t, 1, [x], false⟩ w ∧ ∃ o, Φ.imm ph.blk = some o := by
  obtain ⟨hT, hnt⟩ := and_split ht
  unfold bxEx at h
  split at h
  · rename_i b hpath hb
    obtain ⟨hb, hbnt⟩ := Mem.getC_spec hb
    split at h
    · rename_i hbt
      simp only [Option.some.injEq, Prod.mk.injEq] at h
      obtain ⟨rfl, hn1⟩ := h
      obtain ⟨bt, bn, brow, bwr⟩ := b
      simp only at hbt hn1 hbnt
      subst hbt
      have hn1 := Nat.eq_of_beq_eq_true hn1
      subst hn1
      refine ⟨hpath, ?_⟩
      rcases hm.blk p.id _ hb with ⟨_, h0⟩ | ⟨ph, hph, hbr⟩
      · simp at h0
      · refine ⟨ph, hph, (hm.fresh _ _ hph).2, fun Φ hΦ => ?_⟩
        obtain ⟨cs, el, fr, g1, g2, g3⟩ := hbr.cells hbnt
        refine ⟨⟨hbr.t, fun e => (by cases e), MpRel.plain hbnt _, fun _ => ⟨cs, el, fr, g1, fun k c hk => ?_, fun e => (by cases e)⟩⟩, .cells cs el fr, ?_⟩
        · have hk' : (flat (.arr 1 bt) brow)[k]? = some c := by
            have e1 : flat (.arr 1 bt) brow = flat bt (brow.getD 0 (GX.dflt bt)) := by simp [flat, List.range_succ]
            rw [e1, ← flat_one]; exact hk
          obtain ⟨v, hv, hx⟩ := g2 k c hk'
          exact ⟨v, hv, CR_imm (φ := φ) (ψ := Φ) (fun k o h => by rw [hΦ]; exact imm1_sub hm k o h) (val_cells (t := .arr 1 bt) (x := brow) (by simpa [valT] using hT) _ (List.mem_of_getElem? hk')) hx⟩
        · rw [hΦ, imm1_old hm hU hp hb hph]; exact g1
    · cases h
  · cases h
end
end Go.GX

namespace Go.GX
set_option linter.unusedSimpArgs false
set_option linter.unusedVariables false
set_option linter.unusedSectionVars false
open Go.RowKit (Below)
section
variable {base : Nat} {φ : Phi} {mem : Mem} {nxt : Nat} {w : World} {U : List Nat}
theorem PartOK.nil {u : List Nat} {Φ : Phi} {ns : List Nat} : PartOK base φ mem w u Φ [] ns := ⟨fun i b h => (by cases h), fun i j b b' ph ph' h => (by cases h)⟩
theorem bxM_get : ∀ {l : List (Nat × Ty)} {x : BD l} {i : Nat} {b : Blk}, Mem.get (bxM l x) i = some b → i ∈ l.map (·.1) ∧ b.wr = false
  | [], _, _, _, h => by cases h
  | (k, t) :: r, x, i, b, h => by
    simp only [bxM, Mem.get_cons] at h
    by_cases e : i = k
    · rw [if_pos e] at h; cases h; exact ⟨by simp [e], rfl⟩
    · rw [if_neg e] at h
      obtain ⟨h1, h2⟩ := bxM_get h
      exact ⟨by simp only [List.map_cons, List.mem_cons]; exact .inr h1, h2⟩
theorem cl_ok (hm : MemRel base φ mem nxt w) (hU : ∀ i ∈ U, ∃ b, Mem.get mem i = some b ∧ b.wr = true) :
    ∀ {l : List (Nat × Ty)} {cs : List (Ty × List Cell0)} {x : BD l} {bs : List Nat} {vs : List Value}, (l.all fun y => valT y.2 && !isTup y.2) = true → noDup (l.map (·.1)) = true → clEx mem l cs = some (x, true, bs) → (∀ i ∈ bs, i ∉ U) →
      VL0 φ cs vs → ∃ ad : Nat → Option Phys, (∀ j p, ad j = some p → p.blk < w.heap.size) ∧ ∀ Φ : Phi, Φ.imm = imm1 φ w U → (∀ j ∈ l.map (·.1), Φ j = ad j) →
        VL0 Φ (l.map fun y => ptrPk ⟨y.1, [0]⟩) vs ∧ ∀ i b, Mem.get (bxM l x) i = some b → ∃ ph, Φ i = some ph ∧ BlkRel base Φ ph b w ∧ ∃ o, Φ.imm ph.blk = some o
  | [], [], x, bs, vs, _, _, _, _, hv => ⟨fun _ => none, fun j p h => (by cases h), fun Φ _ _ => ⟨⟨hv.1, fun i c h => by simp at h⟩, fun i b h => (by cases h)⟩⟩
  | (k, t) :: r, kc :: cs, x, bs, vs, hok, hnd, h, hbs, hv => by
    simp only [clEx] at h
    split at h
    · rename_i p hpo
      have hpo := ptrOf_eq hpo
      subst hpo
      split at h
      · rename_i y c z d u h1 h2
        simp only [Option.some.injEq, Prod.mk.injEq] at h
        obtain ⟨rfl, hcd, rfl⟩ := h
        obtain ⟨rfl, rfl⟩ := and_split hcd
        rw [List.all_cons] at hok
        obtain ⟨hk, hr⟩ := and_split hok
        obtain ⟨hn1, hn2⟩ := noDup_cons (x := k) (r := r.map (fun y : Nat × Ty => y.1)) hnd
        match vs, hv with
        | [], hv => exact absurd hv.1 (by simp)
        | v :: vs, hv =>
          have hv0 : VC0 φ (ptrPk p) v := by
            obtain ⟨u, hu, hx⟩ := hv.2 0 _ rfl
            simp at hu; subst hu; exact hx
          have hvr : VL0 φ cs vs := ⟨by simpa using hv.1, fun i c hi => by simpa using hv.2 (i + 1) c (by simpa using hi)⟩
          obtain ⟨ad, had, hA⟩ := cl_ok hm hU (l := r) hr hn2 h2 (fun i hi => hbs i (by simp [hi])) hvr
          obtain ⟨hpath, ph, hph, hlt, hB⟩ := box_ok hm hU hk h1 (hbs p.id (by simp))
          refine ⟨fun j => if j = k then some ph else ad j, fun j q hq => ?_, fun Φ hi hn => ?_⟩
          · by_cases e : j = k
            · simp only [if_pos e] at hq; cases hq; exact hlt
            · simp only [if_neg e] at hq; exact had j q hq
          · have hΦk : Φ k = some ph := by
              have := hn k (by simp)
              simpa using this
            obtain ⟨g1, g2⟩ := hA Φ hi (fun j hj => by
              have := hn j (by simp only [List.map_cons, List.mem_cons]; exact .inr hj)
              have hjk : j ≠ k := fun e => by rw [e] at hj; exact hn1 hj
              rw [this]
              exact if_neg hjk)
            refine ⟨⟨by simp only [List.map_cons, List.length_cons, g1.1], fun i c hc => ?_⟩, fun i b hb => ?_⟩
            · cases i with
              | zero =>
                simp at hc; subst hc
                refine ⟨v, rfl, ?_⟩
                unfold VC0 ptrPk at hv0 ⊢
                rw [if_neg (by simp [GX.isAgg])] at hv0 ⊢
                obtain ⟨c, hc', hcr⟩ := hv0
                cases hc'
                obtain ⟨ad', had', hvv⟩ := hcr
                refine ⟨_, rfl, ad', ?_, hvv⟩
                unfold addr at had' ⊢
                rw [hpath, hph] at had'
                simp only [hΦk]
                exact had'
              | succ i => simpa using g1.2 i c (by simpa using hc)
            · simp only [bxM, Mem.get_cons] at hb
              by_cases e : i = k
              · rw [if_pos e] at hb; cases hb
                subst e
                obtain ⟨q1, q2⟩ := hB Φ hi
                exact ⟨ph, hΦk, q1, q2⟩
              · rw [if_neg e] at hb
                exact g2 i b hb
      · cases h
    · cases h
  | [], _ :: _, x, bs, vs, _, _, h, _, _ => by cases h
  | (_, _) :: _, [], x, bs, vs, _, _, h, _, _ => by cases h
theorem Pt.ex_ok (hm : MemRel base φ mem nxt w) (hU : ∀ i ∈ U, ∃ b, Mem.get mem i = some b ∧ b.wr = true) {lm : Mem} (hlm : (lm = mem ∧ U = []) ∨ lm = []) :
    ∀ {q : Pt} {v : V} {x : q.den} {u bs : List Nat} {xv : Value}, q.ok = true → noDup q.nms = true → q.ex mem lm v = some (x, true, u, bs) → (∀ i ∈ u, i ∈ U) → (∀ i ∈ bs, i ∉ U) → VR φ v xv →
      ∃ ad : Nat → Option Phys, (∀ j p, ad j = some p → p.blk < w.heap.size) ∧ ∀ Φ : Phi, Φ.imm = imm1 φ w U → (∀ j ∈ q.nms, Φ j = ad j) →
        VR Φ (q.arg x) xv ∧ PartOK base φ mem w u Φ (q.blk x) q.nms
  | .p D, v, x, u, bs, xv, ho, hnd, h, _, _, hv => by
    simp only [Pt.ex, Option.map_eq_some_iff, Prod.mk.injEq] at h
    obtain ⟨⟨y, c⟩, hy, rfl, rfl, rfl, rfl⟩ := h
    obtain ⟨k1, k2, _⟩ := Dk.okI_val (D := D) ho
    have hV := lend_ok1 (U := U) hm hlm ho hy hv
    exact ⟨fun _ => none, fun j p h => (by cases h), fun Φ hi _ => ⟨VR_of_V1 k2 (V1_imm3 (fun k o hk => by rw [hi]; exact hk) k1 k2 hV), PartOK.nil⟩⟩
  | .im D, v, x, u, bs, xv, ho, hnd, h, _, _, hv => by
    simp only [Pt.ex, Option.map_eq_some_iff, Prod.mk.injEq] at h
    obtain ⟨⟨y, c⟩, hy, rfl, rfl, rfl, rfl⟩ := h
    obtain ⟨k1, k2, k3⟩ := Dk.okI_val (D := D) ho
    have hV := lend_ok1 (U := U) hm hlm ho hy hv
    have hV2 : ∀ Φ : Phi, Φ.imm = imm1 φ w U → V1 Φ D.vty (D.toV y) xv := fun Φ hi => V1_imm3 (fun k o hk => by rw [hi]; exact hk) k1 k2 hV
    refine ⟨D.iph (fun k => (xv.cells[k]?).getD undef) y 0, fun j p hp => ?_, fun Φ hi hn => ?_⟩
    · exact Dk.iph_lt (Φ := φ.with (imm1 φ w U)) (imm1_heap hm) (k0 := 0) (fun j c hj => by rw [Nat.zero_add]; exact V1_val hV j c hj) hp
    · obtain ⟨g1, g2⟩ := imp_sound (base := base) (Φ := Φ) (w := w) (fun k o hk => imm1_heap (U := U) hm k o (by rw [← hi]; exact hk)) (val := fun k => (xv.cells[k]?).getD undef) (k0 := 0) ho hnd (fun j c hj => by rw [Nat.zero_add]; exact V1_val (hV2 Φ hi) j c hj) hn
      refine ⟨VR_of_V1 k3 (V1_conv Dk.agg_vty Dk.size_vty.symm (hV2 Φ hi) (fun j c hj => by have := g1 j c hj; rwa [Nat.zero_add] at this)), fun i b hb => ⟨Dk.get_blksR hb, ?_⟩, fun i j b b' ph ph' hb _ _ hw => ?_⟩
      · obtain ⟨q1, q2⟩ := g2 i b hb
        exact q2.imp id (fun ⟨ph, r1, r2, r3⟩ => ⟨ph, r1, r2, .inl ⟨q1, r3⟩⟩)
      · rw [(g2 i b hb).1] at hw; cases hw
  | .mv D, v, x, u, bs, xv, ho, hnd, h, hu, _, hv => by
    simp only [Pt.ex] at h
    split at h
    · rename_i hvt
      obtain ⟨tv, xv0⟩ := v
      simp only at hvt
      subst hvt
      obtain ⟨hp, htt⟩ := and_split ho
      have htt : isTup D.ty = false := by simpa using htt
      split at h
      · rename_i y c u' hrd
        simp only [Option.some.injEq, Prod.mk.injEq] at h
        obtain ⟨rfl, rfl, rfl, rfl⟩ := h
        have hrd : D.rd mem xv0 = some (y, true, u') := hrd
        have hV := V1_of_VR htt hv
        have hval := V1_val hV
        refine ⟨D.ph φ (fun k => (xv.cells[k]?).getD undef) xv0 0, fun j p hpj => Dk.ph_lt (fun i ph h => (hm.fresh i ph h).2) hpj, fun Φ hi hn => ?_⟩
        let ψ : Phi := ⟨Φ.ad, φ.imm, φ.lo⟩
        have hsub : ψ.sub Φ := ⟨fun _ _ h => h, fun k o h => by rw [hi]; exact imm1_sub hm k o h⟩
        obtain ⟨g1, g2, g3⟩ := Dk.sound (ψ := ψ) hm rfl (val := fun k => (xv.cells[k]?).getD undef) (k0 := 0) hrd hp hnd (fun j c hj => by rw [Nat.zero_add]; exact hval j c hj) hn
        refine ⟨VR_of_V1 htt (V1_mono hsub (V1_conv rfl rfl hV (fun j c hj => by have := g1 j c hj; rwa [Nat.zero_add] at this))), fun i b hb => ⟨Dk.get_blks hb, ?_⟩, fun i j b b' ph ph' hb hb' hij _ h1 h2 => g3 i j b b' ph ph' hb hb' hij h1 h2⟩
        rcases g2 i b hb with q | ⟨ph, q1, q2, i0, b0, ph0, q3, q4, q5, q6, q7⟩
        · exact .inl q
        · have hbw := blks_wr hb
          have him : Φ.imm ph.blk = none := by
            rw [hi, ← q7, imm1_own (hu i0 q3) q6, q7]
            exact (q2.own hbw).2
          refine .inr ⟨ph, q1, ⟨q2.t, fun hw => ⟨(q2.own hw).1, him⟩, q2.mp.same hsub rfl, fun ht => ?_⟩, .inr ⟨hbw, i0, b0, ph0, q3, q4, q5 hbw, q6, q7⟩⟩
          obtain ⟨cs, el, fr, r1, r2, r3⟩ := q2.cells ht
          refine ⟨cs, el, fr, r1, fun k d hk => ?_, fun hw => ?_⟩
          · obtain ⟨z, hz, hx⟩ := r2 k d hk
            exact ⟨z, hz, CR_mono hsub hx⟩
          · obtain ⟨s1, s2, s3, s4⟩ := r3 hw
            exact ⟨s1, s2, him, s4⟩
      · cases h
    · cases h
  | .bx i t, v, x, u, bs, xv, ho, hnd, h, _, hbs, hv => by
    simp only [Pt.ex] at h
    split at h
    · rename_i a
      simp only [Option.map_eq_some_iff, Prod.mk.injEq] at h
      obtain ⟨⟨y, c⟩, hy, rfl, rfl, rfl, rfl⟩ := h
      obtain ⟨hpath, ph, hph, hlt, hB⟩ := box_ok hm hU ho hy (hbs a.id (by simp))
      refine ⟨fun _ => some ph, fun j p h => (by cases h; exact hlt), fun Φ hi hn => ?_⟩
      have hΦ : Φ i = some ph := hn i (by simp [Pt.nms])
      obtain ⟨q1, q2⟩ := hB Φ hi
      have one : ∀ {j : Nat} {b : Blk}, Mem.get (Pt.blk (.bx i t) y) j = some b → j = i ∧ b = ⟨t, 1, [y], false⟩ := by
        intro j b h
        simp only [Pt.blk, Mem.get_cons] at h
        by_cases e : j = i
        · rw [if_pos e] at h; cases h; exact ⟨e, rfl⟩
        · rw [if_neg e] at h; cases h
      refine ⟨?_, fun j b hb => ?_, fun j k b b' p p' hb _ _ hw => ?_⟩
      · obtain ⟨ad', had', hvv⟩ := VR_ptr.1 hv
        refine VR_ptr.2 ⟨ad', ?_, hvv⟩
        unfold addr at had' ⊢
        rw [hpath, hph] at had'
        simp only [hΦ]
        exact had'
      · obtain ⟨rfl, rfl⟩ := one hb
        exact ⟨by simp [Pt.nms], .inr ⟨ph, hΦ, q1, .inl ⟨rfl, q2⟩⟩⟩
      · obtain ⟨rfl, rfl⟩ := one hb
        cases hw
    · cases h
  | .cl g l, v, x, u, bs, xv, ho, hnd, h, _, hbs, hv => by
    simp only [Pt.ex] at h
    split at h
    · rename_i g' b
      cases hg : Nat.beq g' g <;> rw [hg] at h
      · cases h
      have hg := Nat.eq_of_beq_eq_true hg
      subst hg
      simp only [cond_true, Option.map_eq_some_iff, Prod.mk.injEq] at h
      obtain ⟨⟨y, c, bs'⟩, hy, rfl, rfl, rfl, rfl⟩ := h
      obtain ⟨xa, xb, hvv, g1, g2⟩ := VR_func.1 hv
      obtain ⟨ad, had, hA⟩ := cl_ok hm hU ho hnd hy hbs g2
      refine ⟨ad, had, fun Φ hi hn => ?_⟩
      obtain ⟨r1, r2⟩ := hA Φ hi hn
      refine ⟨VR_func.2 ⟨xa, xb, hvv, ⟨g1.1, fun i c h => by simp at h⟩, r1⟩, fun i b' hb => ?_, fun i j b1 b2 p1 p2 hb _ _ hw => ?_⟩
      · obtain ⟨q1, q2⟩ := bxM_get hb
        obtain ⟨ph, s1, s2, s3⟩ := r2 i b' hb
        exact ⟨q1, .inr ⟨ph, s1, s2, .inl ⟨q2, s3⟩⟩⟩
      · rw [(bxM_get hb).2] at hw; cases hw
    · cases h
theorem PartOK.append (hm : MemRel base φ mem nxt w) {u1 u2 : List Nat} (hd : ∀ x ∈ u1, x ∉ u2) {Φ : Phi} {A B : Mem} {m n : List Nat} (ha : PartOK base φ mem w u1 Φ A m) (hb : PartOK base φ mem w u2 Φ B n) :
    PartOK base φ mem w (u1 ++ u2) Φ (A ++ B) (m ++ n) := by
  have own : ∀ {ph : Phys} {b : Blk}, BlkRel base Φ ph b w → b.wr = true → Φ.imm ph.blk = none := fun h hw => (h.own hw).2
  have src : ∀ {u1 u2 : List Nat} {i j : Nat} {b b' : Blk} {ph ph' : Phys} {A B : Mem} {m n : List Nat}, (∀ x ∈ u1, x ∉ u2) → PartOK base φ mem w u1 Φ A m → PartOK base φ mem w u2 Φ B n → Mem.get A i = some b → Mem.get B j = some b' → b.wr = true → Φ i = some ph → Φ j = some ph' → ph.blk ≠ ph'.blk := by
    intro u1 u2 i j b b' ph ph' A B m n hd ha hb h1 h2 hw hp hp'
    obtain ⟨_, g1⟩ := ha.at_ i b h1
    obtain ⟨_, g2⟩ := hb.at_ j b' h2
    rcases g1 with ⟨q, _⟩ | ⟨p1, k1, k2, k3⟩
    · rw [hp] at q; cases q
    · rw [hp] at k1; cases k1
      rcases g2 with ⟨q, _⟩ | ⟨p2, l1, l2, l3⟩
      · rw [hp'] at q; cases q
      · rw [hp'] at l1; cases l1
        rcases k3 with ⟨k3, _⟩ | ⟨_, i0, b0, q0, k4, k5, k6, k7, k8⟩
        · rw [hw] at k3; cases k3
        · rcases l3 with ⟨_, o, l4⟩ | ⟨_, i1, b1, q1, l4, l5, l6, l7, l8⟩
          · intro e
            have := own k2 hw
            rw [e, l4] at this; cases this
          · rw [← k8, ← l8]
            exact hm.apart i0 i1 b0 b1 q0 q1 k5 l5 (fun e => hd i0 k4 (e ▸ l4)) k6 k7 l7
  refine ⟨fun i b hi => ?_, fun i j b b' ph ph' hi hj hij hw hp hp' => ?_⟩
  · rw [Mem.get_append] at hi
    have more : ∀ {u : List Nat}, (∀ x ∈ u, x ∈ u1 ++ u2) → ∀ {b : Blk}, ((Φ i = none ∧ b.n = 0) ∨ ∃ ph, Φ i = some ph ∧ BlkRel base Φ ph b w ∧
        ((b.wr = false ∧ ∃ o, Φ.imm ph.blk = some o) ∨ (b.wr = true ∧ ∃ i0 b0 ph0, i0 ∈ u ∧ Mem.get mem i0 = some b0 ∧ b0.wr = true ∧ φ i0 = some ph0 ∧ ph0.blk = ph.blk))) →
        ((Φ i = none ∧ b.n = 0) ∨ ∃ ph, Φ i = some ph ∧ BlkRel base Φ ph b w ∧
        ((b.wr = false ∧ ∃ o, Φ.imm ph.blk = some o) ∨ (b.wr = true ∧ ∃ i0 b0 ph0, i0 ∈ u1 ++ u2 ∧ Mem.get mem i0 = some b0 ∧ b0.wr = true ∧ φ i0 = some ph0 ∧ ph0.blk = ph.blk))) := by
      intro u hu b h
      exact h.imp id (fun ⟨ph, h1, h2, h3⟩ => ⟨ph, h1, h2, h3.imp id (fun ⟨g0, i0, b0, ph0, g1, g2⟩ => ⟨g0, i0, b0, ph0, hu _ g1, g2⟩)⟩)
    split at hi
    · rename_i x hx
      cases hi
      obtain ⟨h1, h2⟩ := ha.at_ i b hx
      exact ⟨List.mem_append_left _ h1, more (fun x hx => List.mem_append_left _ hx) h2⟩
    · obtain ⟨h1, h2⟩ := hb.at_ i b hi
      exact ⟨List.mem_append_right _ h1, more (fun x hx => List.mem_append_right _ hx) h2⟩
  · rw [Mem.get_append] at hi hj
    cases g1 : Mem.get A i with
    | some x1 =>
      rw [g1] at hi; cases hi
      cases g2 : Mem.get A j with
      | some x2 => exact ha.apart i j b x2 ph ph' g1 g2 hij hw hp hp'
      | none =>
        rw [g2] at hj
        exact src hd ha hb g1 hj hw hp hp'
    | none =>
      rw [g1] at hi
      cases g2 : Mem.get A j with
      | some x2 => exact src (fun x h1 h2 => hd x h2 h1) hb ha hi g2 hw hp hp'
      | none =>
        rw [g2] at hj
        exact hb.apart i j b b' ph ph' hi hj hij hw hp hp'
end
@[reducible] def PD : List Pt → Type
  | [] => Unit
  | q :: r => q.den × PD r
def ptA : (l : List Pt) → PD l → List V
  | [], _ => []
  | q :: r, x => q.arg x.1 :: ptA r x.2
def ptM : (l : List Pt) → PD l → Mem
  | [], _ => []
  | q :: r, x => q.blk x.1 ++ ptM r x.2
def ptN : List Pt → List Nat
  | [] => []
  | q :: r => q.nms ++ ptN r
def hasMv : List Pt → Bool
  | [] => false
  | q :: r => q.isMv || hasMv r
def ptX (mem lm : Mem) : (l : List Pt) → List V → Option (PD l × Bool × List Nat × List Nat)
  | [], [] => some ((), true, [], [])
  | q :: r, v :: vs => match q.ex mem lm v, ptX mem lm r vs with
    | some (x, c, u, b), some (y, d, u', b') => bif anyIn u u' then none else some ((x, y), c && d, u ++ u', b ++ b')
    | _, _ => none
  | _, _ => none
section
variable {base : Nat} {φ : Phi} {mem : Mem} {nxt : Nat} {w : World} {U : List Nat}
theorem ptX_ok (hm : MemRel base φ mem nxt w) (hU : ∀ i ∈ U, ∃ b, Mem.get mem i = some b ∧ b.wr = true) {lm : Mem} (hlm : (lm = mem ∧ U = []) ∨ lm = []) :
    ∀ {l : List Pt} {args : List V} {x : PD l} {u bs : List Nat} {xs : List Value}, l.all Pt.ok = true → noDup (ptN l) = true → ptX mem lm l args = some (x, true, u, bs) → (∀ i ∈ u, i ∈ U) → (∀ i ∈ bs, i ∉ U) → ARL φ args xs →
      ∃ ad : Nat → Option Phys, (∀ j p, ad j = some p → p.blk < w.heap.size) ∧ ∀ Φ : Phi, Φ.imm = imm1 φ w U → (∀ j ∈ ptN l, Φ j = ad j) →
        ARL Φ (ptA l x) xs ∧ PartOK base φ mem w u Φ (ptM l x) (ptN l)
  | [], [], x, u, bs, xs, _, _, h, _, _, hA => ⟨fun _ => none, fun j p h => (by cases h), fun Φ _ _ => ⟨⟨hA.1, fun i v h => by simp [ptA] at h⟩, PartOK.nil⟩⟩
  | q :: r, v :: vs, x, u, bs, xs, ho, hnd, h, hu, hbs, hA => by
    simp only [ptX] at h
    split at h
    · rename_i x1 c1 u1 b1 x2 c2 u2 b2 h1 h2
      cases hc : anyIn u1 u2 <;> rw [hc] at h
      · simp only [cond_false, Option.some.injEq, Prod.mk.injEq] at h
        obtain ⟨rfl, hcd, rfl, rfl⟩ := h
        obtain ⟨rfl, rfl⟩ := and_split hcd
        rw [List.all_cons] at ho
        obtain ⟨ho1, ho2⟩ := and_split ho
        obtain ⟨n1, n2, n3⟩ := noDup_append (a := q.nms) (b := ptN r) hnd
        match xs, hA with
        | [], hA => exact absurd hA.1 (by simp)
        | z :: zs, hA =>
          have h0 : VR φ v z := by
            obtain ⟨y, hy, hr⟩ := hA.2 0 v rfl
            simp at hy; subst hy; exact hr
          have hl : ARL φ vs zs := ⟨by simpa using hA.1, fun i u hi => by simpa using hA.2 (i + 1) u (by simpa using hi)⟩
          obtain ⟨ad1, hb1, hA1⟩ := Pt.ex_ok hm hU hlm ho1 n1 h1 (fun i hi => hu i (List.mem_append_left _ hi)) (fun i hi => hbs i (List.mem_append_left _ hi)) h0
          obtain ⟨ad2, hb2, hA2⟩ := ptX_ok hm hU hlm ho2 n2 h2 (fun i hi => hu i (List.mem_append_right _ hi)) (fun i hi => hbs i (List.mem_append_right _ hi)) hl
          refine ⟨fun j => if j ∈ q.nms then ad1 j else ad2 j, fun j p hp => ?_, fun Φ hi hn => ?_⟩
          · by_cases e : j ∈ q.nms
            · simp only [if_pos e] at hp; exact hb1 j p hp
            · simp only [if_neg e] at hp; exact hb2 j p hp
          · obtain ⟨g1, g2⟩ := hA1 Φ hi (fun j hj => by
              have := hn j (List.mem_append_left _ hj)
              rw [this]; exact if_pos hj)
            obtain ⟨k1, k2⟩ := hA2 Φ hi (fun j hj => by
              have := hn j (List.mem_append_right _ hj)
              rw [this]; exact if_neg (fun e => n3 j e hj))
            exact ⟨ARL.cons g1 k1, g2.append hm (anyIn_f hc) k2⟩
      · cases h
    · cases h
  | [], _ :: _, x, u, bs, xs, _, _, h, _, _, _ => by cases h
  | _ :: _, [], x, u, bs, xs, _, _, h, _, _, _ => by cases h
theorem ptX_src : ∀ {l : List Pt} {lm : Mem} {args : List V} {x : PD l} {u bs : List Nat}, ptX mem lm l args = some (x, true, u, bs) → (∀ i ∈ u, ∃ b, Mem.get mem i = some b ∧ b.wr = true) ∧ (hasMv l = false → u = [])
  | [], lm, [], x, u, bs, h => by
    simp only [ptX, Option.some.injEq, Prod.mk.injEq] at h
    obtain ⟨_, _, rfl, _⟩ := h
    exact ⟨fun i hi => (by cases hi), fun _ => rfl⟩
  | q :: r, lm, v :: vs, x, u, bs, h => by
    simp only [ptX] at h
    split at h
    · rename_i x1 c1 u1 b1 x2 c2 u2 b2 h1 h2
      cases hc : anyIn u1 u2 <;> rw [hc] at h
      · simp only [cond_false, Option.some.injEq, Prod.mk.injEq] at h
        obtain ⟨rfl, hcd, rfl, rfl⟩ := h
        obtain ⟨rfl, rfl⟩ := and_split hcd
        obtain ⟨k1, k2⟩ := ptX_src h2
        have one : (∀ i ∈ u1, ∃ b, Mem.get mem i = some b ∧ b.wr = true) ∧ (q.isMv = false → u1 = []) := by
          cases q with
          | p D =>
            simp only [Pt.ex, Option.map_eq_some_iff, Prod.mk.injEq] at h1
            obtain ⟨_, _, _, _, rfl, _⟩ := h1
            exact ⟨fun i hi => (by cases hi), fun _ => rfl⟩
          | im D =>
            simp only [Pt.ex, Option.map_eq_some_iff, Prod.mk.injEq] at h1
            obtain ⟨_, _, _, _, rfl, _⟩ := h1
            exact ⟨fun i hi => (by cases hi), fun _ => rfl⟩
          | mv D =>
            simp only [Pt.ex] at h1
            split at h1
            · split at h1
              · rename_i hrd
                simp only [Option.some.injEq, Prod.mk.injEq] at h1
                obtain ⟨rfl, rfl, rfl, rfl⟩ := h1
                exact ⟨rd_src hrd, fun e => by cases e⟩
              · cases h1
            · cases h1
          | bx i t =>
            simp only [Pt.ex] at h1
            split at h1
            · simp only [Option.map_eq_some_iff, Prod.mk.injEq] at h1
              obtain ⟨_, _, _, _, rfl, _⟩ := h1
              exact ⟨fun i hi => (by cases hi), fun _ => rfl⟩
            · cases h1
          | cl g l =>
            simp only [Pt.ex] at h1
            split at h1
            · rename_i g' b
              cases hg : Nat.beq g' g <;> rw [hg] at h1
              · cases h1
              simp only [cond_true, Option.map_eq_some_iff, Prod.mk.injEq] at h1
              obtain ⟨_, _, _, _, rfl, _⟩ := h1
              exact ⟨fun i hi => (by cases hi), fun _ => rfl⟩
            · cases h1
        refine ⟨fun i hi => ?_, fun hv => ?_⟩
        · rcases List.mem_append.1 hi with hi | hi
          · exact one.1 i hi
          · exact k1 i hi
        · simp only [hasMv, Bool.or_eq_false_iff] at hv
          rw [one.2 hv.1, k2 hv.2]; rfl
      · cases h
    · cases h
  | [], lm, _ :: _, x, u, bs, h => by cases h
  | _ :: _, lm, [], x, u, bs, h => by cases h
end
def GOK (P : Program) (f : Nat) (pts : List Pt) (n1 : Nat) (D : Dk) (n2 : Nat) (x : PD pts) (y : D.den) : Prop :=
  ∀ base φ w xs, MemRel base φ (ptM pts x) n1 w → AR φ (ptA pts x) xs → Calls P f xs w fun e w' => ∃ ψ z, e = .returned z ∧ (∀ k o, φ.imm k = some o → ψ.imm k = some o) ∧ (∀ k o, ψ.imm k = some o → φ.imm k = some o ∨ base ≤ k) ∧
    MemRel base ψ (D.blks y) n2 w' ∧ Below base w w' ∧ VR ψ ⟨D.ty, D.mk y⟩ z
def smG (pts : List Pt) (D : Dk) (n2 : Nat) (v : PD pts → D.den) (k : PD pts → Bool) : Sm := fun args mem nxt =>
  match ptX mem (bif hasMv pts then [] else mem) pts args with
  | some (x, c, u, b) => bif anyIn b u then none else some (⟨D.ty, D.mkN nxt (v x)⟩, D.blksN nxt (v x) ++ delL mem u, nxt + n2, k x && c)
  | none => none
def ptOk (pts : List Pt) (n1 : Nat) (D : Dk) (n2 : Nat) : Bool := pts.all Pt.ok && (noDup (ptN pts) && ((ptN pts).all (fun i => Nat.blt i n1) && (D.bare && (noDup D.nms && D.nms.all (fun i => Nat.blt i n2)))))
theorem SmOK.smG {P : Program} {f : Nat} {pts : List Pt} {n1 : Nat} {D : Dk} {n2 : Nat} {v : PD pts → D.den} {k : PD pts → Bool} (hok : ptOk pts n1 D n2 = true)
    (h : ∀ x, k x = true → GOK P f pts n1 D n2 x (v x)) : SmOK P f (GX.smG pts D n2 v k) := by
  intro args mem nxt u mem' nxt' hg base φ w xs hm hA
  unfold ptOk at hok
  rw [Bool.and_eq_true, Bool.and_eq_true, Bool.and_eq_true, Bool.and_eq_true, Bool.and_eq_true] at hok
  obtain ⟨ho, hnd, hlt, hbare, hnD, hltD⟩ := hok
  rw [List.all_eq_true] at hlt hltD
  have hltD' : ∀ c ∈ D.nms, c < n2 := fun c hc => Nat.le_of_ble_eq_true (hltD c hc)
  have hlt' : ∀ c ∈ ptN pts, c < n1 := fun c hc => Nat.le_of_ble_eq_true (hlt c hc)
  unfold GX.smG at hg
  split at hg
  · rename_i x c U bs hx
    cases hb : anyIn bs U <;> rw [hb] at hg
    · simp only [cond_false, Option.some.injEq, Prod.mk.injEq] at hg
      obtain ⟨rfl, rfl, rfl, hkc⟩ := hg
      obtain ⟨hk, rfl⟩ := and_split hkc
      obtain ⟨hU, hmv⟩ := ptX_src hx
      have hlm : ((bif hasMv pts then [] else mem) = mem ∧ U = []) ∨ (bif hasMv pts then [] else mem) = [] := by
        cases hh : hasMv pts with
        | false => exact .inl ⟨rfl, hmv hh⟩
        | true => exact .inr rfl
      obtain ⟨ad, hadlt, hAd⟩ := ptX_ok hm hU hlm ho hnd hx (fun _ h => h) (anyIn_f hb) (AR_iff.1 hA)
      let Φ : Phi := ⟨fun j => if j ∈ ptN pts then ad j else none, imm1 φ w U, φ.lo⟩
      obtain ⟨A1, PK⟩ := hAd Φ rfl (fun j hj => by show (if j ∈ ptN pts then ad j else none) = ad j; rw [if_pos hj])
      have M1 : MemRel base Φ (ptM pts x) n1 w := by
        refine ⟨fun i b hi => ?_, fun i j b b' ph ph' hi hj hij hw hp hp' => PK.apart i j b b' ph ph' hi hj hij hw hp hp', fun i ph hp => ?_, hm.lo, hm.base, fun k o hk => imm1_heap hm k o hk⟩
        · exact (PK.at_ i b hi).2.imp id (fun ⟨ph, h1, h2, _⟩ => ⟨ph, h1, h2⟩)
        · have hp : (if i ∈ ptN pts then ad i else none) = some ph := hp
          by_cases e : i ∈ ptN pts
          · rw [if_pos e] at hp; exact ⟨hlt' i e, hadlt i ph hp⟩
          · rw [if_neg e] at hp; cases hp
      refine (h x hk base Φ w xs M1 (AR_iff.2 A1)).mono ?_
      rintro e w' ⟨χ, zv, rfl, himm, hnew', hM, hbw, hV⟩
      have hφχ : ∀ k o, φ.imm k = some o → χ.imm k = some o := fun k o hk => himm k o (imm1_sub hm k o hk)
      have hcn : ∀ k, χ.imm k = none → φ.imm k = none := fun k hk => by
        cases hi : φ.imm k with
        | none => rfl
        | some o => rw [hφχ k o hi] at hk; cases hk
      let φ2 : Phi := ⟨fun j => if nxt ≤ j then (if j - nxt ∈ D.nms then χ (j - nxt) else none) else φ j, φ.imm, φ.lo⟩
      have hφ2n : ∀ c ∈ D.nms, φ2 (c + nxt) = χ c := fun c hc => by
        show (if nxt ≤ c + nxt then (if c + nxt - nxt ∈ D.nms then χ (c + nxt - nxt) else none) else φ (c + nxt)) = χ c
        rw [if_pos (by omega), show c + nxt - nxt = c by omega, if_pos hc]
      have hφ2o : ∀ j, j < nxt → φ2 j = φ j := fun j hj => by
        show (if nxt ≤ j then _ else φ j) = φ j
        rw [if_neg (by omega)]
      have hle2 : φ.le φ2 := ⟨⟨fun i ph hp => by rw [hφ2o i (hm.fresh i ph hp).1]; exact hp, fun _ _ h => h⟩, fun _ _ h => .inl h, rfl⟩
      have hout : ∀ j ph, Mem.get (D.blksN nxt (v x)) j = none → φ2 j = some ph → φ j = some ph := by
        intro j ph hg hp
        have hp : (if nxt ≤ j then (if j - nxt ∈ D.nms then χ (j - nxt) else none) else φ j) = some ph := hp
        by_cases e : nxt ≤ j
        · rw [if_pos e] at hp
          by_cases e2 : j - nxt ∈ D.nms
          · obtain ⟨⟨b, hb⟩, _⟩ := names_get (k := nxt) (y := v x) e2
            rw [show j - nxt + nxt = j by omega] at hb
            rw [hg] at hb; cases hb
          · rw [if_neg e2] at hp; cases hp
        · rw [if_neg e] at hp; exact hp
      have hnew : ∀ j b', Mem.get (D.blksN nxt (v x)) j = some b' → ∃ c, c ∈ D.nms ∧ j = c + nxt ∧ Mem.get (D.blks (v x)) c = some b' ∧ b'.wr = true ∧ φ2 j = χ c ∧ ((φ2 j = none ∧ b'.n = 0) ∨ ∃ ph, φ2 j = some ph ∧ BlkRel base φ2 ph b' w') := by
        intro j b' hj
        obtain ⟨c, h1, h2, h3⟩ := get_blksN hj
        have hj2 : φ2 j = χ c := by rw [h2]; exact hφ2n c h1
        refine ⟨c, h1, h2, h3, blks_wr h3, hj2, ?_⟩
        rcases hM.blk c b' h3 with ⟨q1, q2⟩ | ⟨ph, q1, q2⟩
        · exact .inl ⟨by rw [hj2]; exact q1, q2⟩
        · exact .inr ⟨ph, by rw [hj2]; exact q1, blks_ren hbare h3 q2 (hcn _ (q2.own (blks_wr h3)).2)⟩
      have hold : ∀ j b' ph, j ∉ U → Mem.get mem j = some b' → φ j = some ph → ∃ o, χ.imm ph.blk = some o ∧ w'.heap[ph.blk]? = w.heap[ph.blk]? := by
        intro j b' ph hj hg hp
        have hlt' := (hm.fresh j ph hp).2
        have hh : w.heap[ph.blk]? = some w.heap[ph.blk] := Array.getElem?_eq_getElem hlt'
        have h1 : imm1 φ w U ph.blk = some w.heap[ph.blk] := by rw [imm1_old hm hU hj hg hp]; exact hh
        have h2 := himm _ _ h1
        exact ⟨_, h2, by rw [hM.imm _ _ h2, hh]⟩
      have oldc : ∀ {j b' ph}, Mem.get (D.blksN nxt (v x)) j = none → Mem.get (delL mem U) j = some b' → φ2 j = some ph → j ∉ U ∧ Mem.get mem j = some b' ∧ φ j = some ph := by
        intro j b' ph hy hg hp
        rw [get_delL] at hg
        by_cases e : j ∈ U
        · rw [if_pos e] at hg; cases hg
        · rw [if_neg e] at hg
          exact ⟨e, hg, hout j ph hy hp⟩
      have nold : ∀ {ph c b0}, Mem.get (D.blks (v x)) c = some b0 → χ c = some ph → ∀ {ph'} {o : Obj}, χ.imm (Phys.blk ph') = some o → ph.blk ≠ ph'.blk := by
        intro ph c b0 g0 hc ph' o ho e
        have := (hM.blkAt g0 hc).own (blks_wr g0)
        rw [e, ho] at this; cases this.2
      refine ⟨φ2, zv, rfl, hle2, ⟨fun j b' hj => ?_, fun i j b1 b2 ph1 ph2 hi hj hij hw hp1 hp2 => ?_, fun j ph hj => ?_, hm.lo, hM.base, fun k o hk => hM.imm k o (hφχ k o hk)⟩, hbw, ?_⟩
      · rw [Mem.get_append] at hj
        split at hj
        · rename_i y hy
          cases hj
          obtain ⟨_, _, _, _, _, _, h6⟩ := hnew j b' hy
          exact h6
        · rename_i hy
          have hj0 := hj
          rw [get_delL] at hj
          by_cases e : j ∈ U
          · rw [if_pos e] at hj; cases hj
          · rw [if_neg e] at hj
            rcases hm.blk j b' hj with ⟨q1, q2⟩ | ⟨ph, q1, q2⟩
            · refine .inl ⟨?_, q2⟩
              cases hp : φ2 j with
              | none => rfl
              | some ph => rw [hout j ph hy hp] at q1; cases q1
            · obtain ⟨o, _, h2⟩ := hold j b' ph e hj q1
              exact .inr ⟨ph, by rw [hφ2o j (hm.fresh j ph q1).1]; exact q1, q2.same hle2 (fun _ h => h) h2⟩
      · rw [Mem.get_append] at hi hj
        cases g1 : Mem.get (D.blksN nxt (v x)) i with
        | some y1 =>
          obtain ⟨c1, f1, f2, f3, f4, f5, _⟩ := hnew i y1 g1
          have hc1 : χ c1 = some ph1 := by rw [← f5]; exact hp1
          cases g2 : Mem.get (D.blksN nxt (v x)) j with
          | some y2 =>
            obtain ⟨c2, k1, k2, k3, k4, k5, _⟩ := hnew j y2 g2
            have hc2 : χ c2 = some ph2 := by rw [← k5]; exact hp2
            exact hM.apart c1 c2 y1 y2 ph1 ph2 f3 k3 (fun e => hij (by rw [f2, k2, e])) f4 hc1 hc2
          | none =>
            rw [g2] at hj
            obtain ⟨q1, q2, q3⟩ := oldc g2 hj hp2
            obtain ⟨o, ho, _⟩ := hold j b2 ph2 q1 q2 q3
            exact nold f3 hc1 ho
        | none =>
          rw [g1] at hi
          obtain ⟨q1, q2, q3⟩ := oldc g1 hi hp1
          cases g2 : Mem.get (D.blksN nxt (v x)) j with
          | some y2 =>
            obtain ⟨c2, k1, k2, k3, k4, k5, _⟩ := hnew j y2 g2
            have hc2 : χ c2 = some ph2 := by rw [← k5]; exact hp2
            obtain ⟨o, ho, _⟩ := hold i b1 ph1 q1 q2 q3
            exact (nold k3 hc2 ho).symm
          | none =>
            rw [g2] at hj
            obtain ⟨r1, r2, r3⟩ := oldc g2 hj hp2
            exact hm.apart i j b1 b2 ph1 ph2 q2 r2 hij hw q3 r3
      · by_cases e : nxt ≤ j
        · have hj : (if nxt ≤ j then (if j - nxt ∈ D.nms then χ (j - nxt) else none) else φ j) = some ph := hj
          rw [if_pos e] at hj
          by_cases e2 : j - nxt ∈ D.nms
          · rw [if_pos e2] at hj
            have h1 := hM.fresh _ _ hj
            have h2 := hltD' _ e2
            exact ⟨by omega, h1.2⟩
          · rw [if_neg e2] at hj; cases hj
        · rw [hφ2o j (by omega)] at hj
          have h1 := hm.fresh j ph hj
          exact ⟨by omega, Nat.lt_of_lt_of_le h1.2 hbw.size⟩
      · cases htt : isTup D.ty with
        | true =>
          cases D with
          | v t => exact plainV_ok (φ := χ) (ψ := φ2) (by unfold plainV; have : plainT t = true := hbare; rw [this]; rfl) hV
          | own _ _ => cases htt
          | mp _ _ _ => cases htt
          | pr _ _ => cases htt
        | false =>
          have hV := V1_of_VR htt hV
          refine VR_of_V1 htt (To.V1 (φ := χ) (x := D.mk (v x)) ⟨rfl, htt, htt, rfl, fun j d hd => ?_⟩ hV)
          exact mkN_cells hbare hφ2n j d hd
    · cases hg
  · cases hg
end Go.GX

namespace Go.GX
set_option linter.unusedSimpArgs false
set_option linter.unusedVariables false
set_option linter.unusedSectionVars false
open Go.RowKit (Below)
def fnH {ρ : Type} (C : Cx) (fn : Func) (args : List V) (mem : Mem) (n1 : Nat) (leaf : V → Mem → Option ρ) : Option ρ :=
  match fn.body with
  | none => none
  | some c => bif Nat.ble args.length fn.ntmps then
      codeT C c ⟨putArgs args 0 .lf, fn.ntmps, mem, n1, true⟩ fun e s => match e with
        | .exit _ => none
        | .goto _ => none
        | .pan _ _ => none
        | _ => match resY C.Θ fn s with
          | some (v, s', c) => bif c then leaf v s'.mem else none
          | none => none
    else none
theorem fnH_ok {ρ : Type} {P : Program} {C : Cx} (hC : CxOK P C) {fn : Func} {f : Nat} (hf : P.funcs[f]? = some fn) {n1 : Nat} (hL : ∀ c, fn.body = some c → LOK P C n1 c) {args : List V} {mem : Mem} {leaf : V → Mem → Option ρ} {r : ρ} (h : fnH C fn args mem n1 leaf = some r)
    {base : Nat} {φ : Phi} {w : World} {xs : Array Value} (hm : MemRel base φ mem n1 w) (hA : AR φ args xs) :
    Calls P f xs w fun e w' => ∃ χ s v z a, e = .returned z ∧ Phi.leK n1 φ χ ∧ Rel base χ s a w' ∧ leaf v s.mem = some r ∧ VR χ v z ∧ Below base w w' := by
  unfold fnH at h
  split at h
  · cases h
  · rename_i c hc
    cases hb : Nat.ble args.length fn.ntmps <;> rw [hb] at h
    · cases h
    · simp only [cond_true] at h
      have hle := Nat.le_of_ble_eq_true hb
      refine calls_of_wp hf hc (codeT_ok hC (hL c hc) (base := base) (φ := φ) (fun x s hs => ?_) h ⟨fun s u c' hs => ?_, by simp [hA.1]; omega, hm, rfl⟩ ?_)
      · split at hs
        · cases hs
        · cases hs
        · cases hs
        · split at hs
          · rename_i v s' c hres
            cases hk : c <;> rw [hk] at hs hres
            · cases hs
            · unfold resY at hres
              split at hres
              · simp only [Option.some.injEq, Prod.mk.injEq] at hres
                exact pubs_mono (and_split hres.2.2).2
              · cases hres
          · cases hs
      · rcases putArgs_get hs with ⟨hc', _, hg⟩ | hg
        · subst hc'
          simp only [Nat.sub_zero] at hg
          obtain ⟨x, hx, hr⟩ := hA.2 s u hg
          refine ⟨fun _ => ?_, fun e => by cases e⟩
          have hsz : s < xs.size := (Array.getElem?_eq_some_iff.1 hx).1
          rw [Array.getD_eq_getD_getElem?, Array.getElem?_append_left hsz, hx]
          exact hr
        · simp [Tr.get] at hg
      · intro x e s ψ a' w' he h1 hr' hb' h4
        have post : a'.defers = [] ∧ ∃ z, (results fn a'.tmps).run P w' = .ok z w' ∧ (∃ χ s v z' a, Ending.returned z = .returned z' ∧ Phi.leK n1 φ χ ∧ Rel base χ s a w' ∧ leaf v s.mem = some r ∧ VR χ v z' ∧ Below base w w') := by
          have h4 : (match resY C.Θ fn s with | some (v, s', c) => bif c then leaf v s'.mem else none | none => none) = some r := by
            rcases EX_of he with ⟨rfl, rfl⟩ | ⟨j, rfl, rfl⟩ | ⟨rfl, rfl⟩ | ⟨j, rfl, rfl⟩ | ⟨_, _, rfl, rfl⟩
            · exact h4
            · cases h4
            · exact h4
            · cases h4
            · cases h4
          split at h4
          · rename_i v s' cc hres
            cases hk : cc <;> rw [hk] at h4 hres
            · cases h4
            · simp only [cond_true] at h4
              obtain ⟨χ, hχ, hr2, _, z, hrun, hz⟩ := resY_ok hC.Θ hr' hres
              exact ⟨hr'.defers, z, hrun, χ, s', v, z, _, rfl, Phi.leK_trans h1 hχ.toK, hr2, h4, hz, hb'⟩
          · cases h4
        rcases EX_of he with ⟨rfl, rfl⟩ | ⟨j, rfl, rfl⟩ | ⟨rfl, rfl⟩ | ⟨j, rfl, rfl⟩ | ⟨_, _, rfl, rfl⟩
        · exact post
        · cases h4
        · exact post
        · cases h4
        · cases h4
def leafO (D : Dk) (v : V) (mem : Mem) : Option D.den := if h : v.t = D.ty then (match D.rd mem (h ▸ v.x) with
  | some (y, c, _) => bif c then some y else none
  | none => none) else none
def leafP (D : Dk) (v : V) (mem : Mem) : Option D.den := match lendD true mem D v.t v.x with
  | some (y, c) => bif c then some y else none
  | none => none
theorem leafO_ok {base : Nat} {χ : Phi} {mem : Mem} {nxt n2 : Nat} {w : World} (hm : MemRel base χ mem nxt w) {D : Dk} (hp : D.plain = true) (hnd : noDup D.nms = true) (hlt : ∀ c ∈ D.nms, c < n2) {v : V} {y : D.den} (h : leafO D v mem = some y) {z : Value} (hz : VR χ v z) :
    ∃ ψ : Phi, ψ.imm = χ.imm ∧ MemRel base ψ (D.blks y) n2 w ∧ VR ψ ⟨D.ty, D.mk y⟩ z := by
  unfold leafO at h
  split at h
  · rename_i hvt
    obtain ⟨tv, x0⟩ := v
    simp only at hvt
    subst hvt
    split at h
    · rename_i y' c u hrd
      cases hc : c <;> rw [hc] at h hrd
      · cases h
      · simp only [cond_true, Option.some.injEq] at h
        subst h
        have hrd : D.rd mem x0 = some (y', true, u) := hrd
        cases htt : isTup D.ty with
        | true =>
          cases D with
          | v t =>
            simp only [Dk.rd, Option.some.injEq, Prod.mk.injEq] at hrd
            obtain ⟨rfl, _, _⟩ := hrd
            refine ⟨⟨fun _ => none, χ.imm, χ.lo⟩, rfl, ⟨fun i b h => (by simp [Dk.blks, Mem.get] at h), fun i j b b' p p' h => (by simp [Dk.blks, Mem.get] at h), fun i p h => (by cases h), hm.lo, hm.base, hm.imm⟩, ?_⟩
            exact valV_ok (φ := χ) (ψ := ⟨fun _ => none, χ.imm, χ.lo⟩) (fun _ _ h => h) (by unfold valV; have : valT t = true := hp; rw [this]; rfl) hz
          | own _ _ => cases htt
          | mp _ _ _ => cases htt
          | pr _ _ => cases htt
        | false =>
          have hV := V1_of_VR htt hz
          let ψ : Phi := ⟨fun j => if j ∈ D.nms then D.ph χ (fun k => (z.cells[k]?).getD undef) x0 0 j else none, χ.imm, χ.lo⟩
          obtain ⟨g1, g2, g3⟩ := Dk.sound (ψ := ψ) hm rfl (val := fun k => (z.cells[k]?).getD undef) (k0 := 0) hrd hp hnd (fun j c hj => by rw [Nat.zero_add]; exact V1_val hV j c hj) (fun c hc => by
            show (if c ∈ D.nms then _ else none) = _
            rw [if_pos hc])
          refine ⟨ψ, rfl, ⟨fun i b hi => ?_, fun i j b b' p p' hi hj hij _ h1 h2 => g3 i j b b' p p' hi hj hij h1 h2, fun i p h => ?_, hm.lo, hm.base, hm.imm⟩, VR_of_V1 htt (V1_conv rfl rfl hV (fun j c hj => by have := g1 j c hj; rwa [Nat.zero_add] at this))⟩
          · exact (g2 i b hi).imp id (fun ⟨ph, q1, q2, _⟩ => ⟨ph, q1, q2⟩)
          · have h : (if i ∈ D.nms then D.ph χ (fun k => (z.cells[k]?).getD undef) x0 0 i else none) = some p := h
            by_cases e : i ∈ D.nms
            · rw [if_pos e] at h
              exact ⟨hlt i e, Dk.ph_lt (fun i ph h => (hm.fresh i ph h).2) h⟩
            · rw [if_neg e] at h; cases h
    · cases h
  · cases h
def fnV (C : Cx) (fn : Func) (pts : List Pt) (n1 : Nat) (D : Dk) (x : PD pts) : Option D.den := fnH C fn (ptA pts x) (ptM pts x) n1 (leafO D)
theorem GOK.ofS {P : Program} {C : Cx} (hC : CxOK P C) {fn : Func} {f : Nat} (hf : P.funcs[f]? = some fn) {pts : List Pt} {n1 : Nat} {D : Dk} {n2 : Nat} {S : PD pts → Option D.den} (hL : ∀ c, fn.body = some c → LOK P C n1 c)
    (hok : (D.plain && ptOk pts n1 D n2) = true) (h : ∀ x, fnV C fn pts n1 D x = S x) : ∀ x, (S x).isSome = true → GOK P f pts n1 D n2 x ((S x).getD D.dflt) := by
  intro x hk base φ w xs hm hA
  obtain ⟨hp, hok⟩ := and_split hok
  unfold ptOk at hok
  rw [Bool.and_eq_true, Bool.and_eq_true, Bool.and_eq_true, Bool.and_eq_true, Bool.and_eq_true] at hok
  obtain ⟨_, _, _, _, hnD, hltD⟩ := hok
  rw [List.all_eq_true] at hltD
  cases hs : S x with
  | none => rw [hs] at hk; cases hk
  | some y =>
    refine (fnH_ok hC hf hL ((h x).trans hs) hm hA).mono ?_
    rintro e w' ⟨χ, s, v, z, a, rfl, h1, hr, hl, hz, hb⟩
    obtain ⟨ψ, g1, g2, g3⟩ := leafO_ok hr.mem hp hnD (fun c hc => Nat.le_of_ble_eq_true (hltD c hc)) hl hz
    exact ⟨ψ, z, rfl, fun k o hk => by rw [g1]; exact h1.imm k o hk, fun k o hk => by
      rw [g1] at hk
      rcases h1.new k o hk with h | h
      · exact .inl h
      · exact .inr (by rw [← hm.lo]; exact h), g2, hb, g3⟩
def ptV : (l : List Pt) → PD l → List V
  | [], _ => []
  | .p D :: r, x => ⟨D.vty, D.toV x.1⟩ :: ptV r x.2
  | .im D :: r, x => ⟨D.vty, D.toV x.1⟩ :: ptV r x.2
  | .mv D :: r, x => ⟨D.ty, D.mk x.1⟩ :: ptV r x.2
  | .bx i _ :: r, x => ⟨.ptr, some ⟨i, [0]⟩⟩ :: ptV r x.2
  | .cl g l :: r, x => (Pt.arg (.cl g l) x.1) :: ptV r x.2
def Pt.isV : Pt → Bool
  | .p _ => true
  | .im _ => true
  | _ => false
theorem ptE_ok {base : Nat} {φ : Phi} {w : World} (hb : base ≤ w.heap.size) (hI : ∀ k o, φ.imm k = some o → w.heap[k]? = some o) : ∀ {l : List Pt} {x : PD l} {xs : List Value}, l.all Pt.ok = true → l.all Pt.isV = true → noDup (ptN l) = true → ARL φ (ptV l x) xs →
    ∃ ad : Nat → Option Phys, (∀ j p, ad j = some p → p.blk < w.heap.size) ∧ ∀ Φ : Phi, Φ.imm = φ.imm → (∀ j ∈ ptN l, Φ j = ad j) →
      ARL Φ (ptA l x) xs ∧ (∀ i b, Mem.get (ptM l x) i = some b → i ∈ ptN l ∧ RoAt base Φ w i b)
  | [], x, xs, _, _, _, hA => ⟨fun _ => none, fun j p h => (by cases h), fun Φ _ _ => ⟨⟨hA.1, fun i v h => by simp [ptA] at h⟩, fun i b h => (by cases h)⟩⟩
  | q :: r, x, xs, ho, hv, hnd, hA => by
    rw [List.all_cons] at ho hv
    obtain ⟨ho1, ho2⟩ := and_split ho
    obtain ⟨hv1, hv2⟩ := and_split hv
    obtain ⟨n1, n2, n3⟩ := noDup_append (a := q.nms) (b := ptN r) hnd
    have rest : ∀ {v : V}, ptV (q :: r) x = v :: ptV r x.2 → (∀ z, VR φ v z → ∃ ad : Nat → Option Phys, (∀ j p, ad j = some p → p.blk < w.heap.size) ∧ ∀ Φ : Phi, Φ.imm = φ.imm → (∀ j ∈ q.nms, Φ j = ad j) → VR Φ (q.arg x.1) z ∧ (∀ i b, Mem.get (q.blk x.1) i = some b → i ∈ q.nms ∧ RoAt base Φ w i b)) →
        ∃ ad : Nat → Option Phys, (∀ j p, ad j = some p → p.blk < w.heap.size) ∧ ∀ Φ : Phi, Φ.imm = φ.imm → (∀ j ∈ ptN (q :: r), Φ j = ad j) →
          ARL Φ (ptA (q :: r) x) xs ∧ (∀ i b, Mem.get (ptM (q :: r) x) i = some b → i ∈ ptN (q :: r) ∧ RoAt base Φ w i b) := by
      intro v hv hone
      rw [hv] at hA
      match xs, hA with
      | [], hA => exact absurd hA.1 (by simp)
      | z :: zs, hA =>
        have h0 : VR φ v z := by
          obtain ⟨y, hy, hr⟩ := hA.2 0 v rfl
          simp at hy; subst hy; exact hr
        have hl : ARL φ (ptV r x.2) zs := ⟨by simpa using hA.1, fun i u hi => by simpa using hA.2 (i + 1) u (by simpa using hi)⟩
        obtain ⟨ad1, hb1, hA1⟩ := hone z h0
        obtain ⟨ad2, hb2, hA2⟩ := ptE_ok hb hI (x := x.2) ho2 hv2 n2 hl
        refine ⟨fun j => if j ∈ q.nms then ad1 j else ad2 j, fun j p hp => ?_, fun Φ hi hn => ?_⟩
        · by_cases e : j ∈ q.nms
          · simp only [if_pos e] at hp; exact hb1 j p hp
          · simp only [if_neg e] at hp; exact hb2 j p hp
        · obtain ⟨g1, g2⟩ := hA1 Φ hi (fun j hj => by
            have := hn j (List.mem_append_left _ hj)
            rw [this]; exact if_pos hj)
          obtain ⟨k1, k2⟩ := hA2 Φ hi (fun j hj => by
            have := hn j (List.mem_append_right _ hj)
            rw [this]; exact if_neg (fun e => n3 j e hj))
          refine ⟨ARL.cons g1 k1, fun i b hi => ?_⟩
          simp only [ptM, Mem.get_append] at hi
          split at hi
          · rename_i y hy
            cases hi
            obtain ⟨s1, s2⟩ := g2 i b hy
            exact ⟨List.mem_append_left _ s1, s2⟩
          · obtain ⟨s1, s2⟩ := k2 i b hi
            exact ⟨List.mem_append_right _ s1, s2⟩
    cases q with
    | p D =>
      refine rest rfl (fun z hz => ⟨fun _ => none, fun j p h => (by cases h), fun Φ hi _ => ⟨?_, fun i b h => (by cases h)⟩⟩)
      exact valV_ok (φ := φ) (ψ := Φ) (fun k o h => by rw [hi]; exact h) (by show (valT D.vty || _) = true; rw [(Dk.okI_val (D := D) ho1).1]; rfl) hz
    | im D =>
      refine rest rfl (fun z hz => ?_)
      obtain ⟨k1, k2, k3⟩ := Dk.okI_val (D := D) ho1
      have hV := V1_of_VR k2 hz
      have hV2 : ∀ Φ : Phi, Φ.imm = φ.imm → V1 Φ D.vty (D.toV x.1) z := fun Φ hi => V1_imm3 (fun k o hk => by rw [hi]; exact hk) k1 k2 hV
      refine ⟨D.iph (fun k => (z.cells[k]?).getD undef) x.1 0, fun j p hp => ?_, fun Φ hi hn => ?_⟩
      · exact Dk.iph_lt (Φ := φ) hI (k0 := 0) (fun j c hj => by rw [Nat.zero_add]; exact V1_val hV j c hj) hp
      · obtain ⟨g1, g2⟩ := imp_sound (base := base) (Φ := Φ) (w := w) (fun k o hk => hI k o (by rw [← hi]; exact hk)) (val := fun k => (z.cells[k]?).getD undef) (k0 := 0) ho1 n1 (fun j c hj => by rw [Nat.zero_add]; exact V1_val (hV2 Φ hi) j c hj) hn
        exact ⟨VR_of_V1 k3 (V1_conv Dk.agg_vty Dk.size_vty.symm (hV2 Φ hi) (fun j c hj => by have := g1 j c hj; rwa [Nat.zero_add] at this)), fun i b hb => ⟨Dk.get_blksR hb, g2 i b hb⟩⟩
    | mv D => cases hv1
    | bx i t => cases hv1
    | cl g l => cases hv1
def fnW (C : Cx) (fn : Func) (pts : List Pt) (n1 : Nat) (D : Dk) (x : PD pts) : Option D.den := fnH C fn (ptA pts x) (ptM pts x) n1 (leafP D)
theorem PureOK.ofW {P : Program} {C : Cx} (hC : CxOK P C) {fn : Func} {f : Nat} (hf : P.funcs[f]? = some fn) {pts : List Pt} {n1 : Nat} {D : Dk} {S : PD pts → Option D.den} (hL : ∀ c, fn.body = some c → LOK P C n1 c)
    (hok : (D.okI && (pts.all Pt.ok && (pts.all Pt.isV && (noDup (ptN pts) && (ptN pts).all (fun i => Nat.blt i n1))))) = true) (h : ∀ x, fnW C fn pts n1 D x = S x) : ∀ x, (S x).isSome = true → PureOK P f (ptV pts x) ⟨D.vty, D.toV ((S x).getD D.dflt)⟩ := by
  intro x hk φ w xs hI hA
  rw [Bool.and_eq_true, Bool.and_eq_true, Bool.and_eq_true, Bool.and_eq_true] at hok
  obtain ⟨hD, ho, hv, hnd, hlt⟩ := hok
  rw [List.all_eq_true] at hlt
  cases hs : S x with
  | none => rw [hs] at hk; cases hk
  | some y =>
    obtain ⟨ad, hadlt, hAd⟩ := ptE_ok (base := w.heap.size) (Nat.le_refl _) hI ho hv hnd (AR_iff.1 hA)
    let Φ : Phi := ⟨fun j => if j ∈ ptN pts then ad j else none, φ.imm, w.heap.size⟩
    obtain ⟨A1, PK⟩ := hAd Φ rfl (fun j hj => by show (if j ∈ ptN pts then ad j else none) = ad j; rw [if_pos hj])
    have M1 : MemRel w.heap.size Φ (ptM pts x) n1 w := by
      refine ⟨fun i b hi => ?_, fun i j b b' ph ph' hi hj hij hw hp hp' => ?_, fun i ph hp => ?_, rfl, Nat.le_refl _, hI⟩
      · exact ((PK i b hi).2).2.imp id (fun ⟨ph, h1, h2, _⟩ => ⟨ph, h1, h2⟩)
      · have := ((PK i b hi).2).1
        rw [hw] at this; cases this
      · have hp : (if i ∈ ptN pts then ad i else none) = some ph := hp
        by_cases e : i ∈ ptN pts
        · rw [if_pos e] at hp; exact ⟨Nat.le_of_ble_eq_true (hlt i e), hadlt i ph hp⟩
        · rw [if_neg e] at hp; cases hp
    refine (fnH_ok hC hf hL ((h x).trans hs) M1 (AR_iff.2 A1)).mono ?_
    rintro e w' ⟨χ, s, v, z, a, rfl, h1, hr, hl, hz, hb⟩
    unfold leafP at hl
    split at hl
    · rename_i y' c hle
      cases hc : c <;> rw [hc] at hl hle
      · cases hl
      · simp only [cond_true, Option.some.injEq] at hl
        subst hl
        have hm := hr.mem
        have hlo : χ.lo = w.heap.size := hm.lo
        let im : Nat → Option Obj := fun k => if w.heap.size ≤ k then w'.heap[k]? else χ.imm k
        have him : ∀ k o, χ.imm k = some o → im k = some o := fun k o h => by
          show (if w.heap.size ≤ k then w'.heap[k]? else χ.imm k) = some o
          split
          · exact hm.imm k o h
          · exact h
        have hall : ∀ i b ph, Mem.get s.mem i = some b → χ i = some ph → ((true : Bool) = true → b.wr = true) → im ph.blk = w'.heap[ph.blk]? := fun i b ph h1 h2 h3 => by
          show (if w.heap.size ≤ ph.blk then w'.heap[ph.blk]? else χ.imm ph.blk) = _
          rw [if_pos ((hm.blkAt h1 h2).own (h3 rfl)).1]
        have hT := lendD_ok hm him hall hD hle
        have hV := hT.V1 (V1_of_VR hT.tup0 hz)
        refine ⟨χ.with im, [], s.nxt, z, rfl, ⟨⟨fun i p h => (by cases h), fun k o h => him k o (h1.imm k o h)⟩, fun k o h => ?_, hlo⟩, ⟨fun i b h => by simp [Mem.get] at h, fun i j b b' p1 p2 h => by simp [Mem.get] at h, hm.fresh, hlo, hm.base, fun k o h => ?_⟩, VR_of_V1 (Dk.okI_val hD).2.1 hV, hb⟩
        · have h : (if w.heap.size ≤ k then w'.heap[k]? else χ.imm k) = some o := h
          split at h
          · rename_i hk; exact .inr hk
          · rename_i hk
            exact h1.new k o h
        · have h : (if w.heap.size ≤ k then w'.heap[k]? else χ.imm k) = some o := h
          split at h
          · exact h
          · exact hm.imm k o h
    · cases hl
end Go.GX

namespace Go.GX
set_option linter.unusedSimpArgs false
set_option linter.unusedVariables false
set_option linter.unusedSectionVars false
open Go.RowKit (Below)
def endH {ρ : Type} (Θ : Tab) (fn : Func) (leaf : V → Mem → Option ρ) : X → St → Option ρ := fun e s => match e with
  | .exit _ => none
  | .goto _ => none
  | .pan _ _ => none
  | _ => match resY Θ fn s with
    | some (v, s', c) => bif c then leaf v s'.mem else none
    | none => none
theorem clone_gok {P : Program} {C : Cx} (hC : CxOK P C) {fn : Func} {f : Nat} (hf : P.funcs[f]? = some fn) {te : Ty} {T T' eT i0 i1 : Nat} {o2 o3 o4 : Oper} {thn tail : Code}
    (hb : fn.body = some (.seq (.region i0 #[o2] false) (.seq (.seq (.region i1 #[o3, o4] false) (.cond (.tmp 4) thn .skip)) tail)))
    (h2 : o2.op = .assign (.const (.slice none 0 0)) ∧ o2.dst = some 2 ∧ o2.guard = none) (h3 : o3.op = .move (.tmp 0) ∧ o3.dst = some 3 ∧ o3.guard = none)
    (h4 : o4.op = .binOp .eql T (.tmp 3) (.const (.slice none 0 0)) T' ∧ o4.dst = some 4 ∧ o4.guard = none)
    (hT : P.underlying T = some (.slice eT)) (hn : fn.ntmps = 8) (hte : (plainT te && !isTup te) = true) {l : List te.den} {c n2 : Nat} (hcn : c < n2)
    (hnil : l = [] → fnH C fn [⟨.slice, none⟩] [] 0 (leafO (.own c te)) = some l) (hL0 : ∀ c, fn.body = some c → LOK P C 0 c) (hL : LOK P C 0 tail)
    (h : codeT C tail ⟨putArgs [⟨.vsl te, l⟩] 0 .lf, 8, [], 0, true⟩ (endH C.Θ fn (leafO (.own c te))) = some l) : GOK P f [.p (.own c te)] 0 (.own c te) n2 (l, ()) l := by
  intro base φ w xs hm hA
  have hval : valT te = true := (Dk.okI_val (D := .own c te) hte).1
  have fin0 : ∀ {χ : Phi} {mem : Mem} {nxt : Nat} {w' : World} {v : V} {z : Value}, Phi.leK 0 φ χ → MemRel base χ mem nxt w' → leafO (.own c te) v mem = some l → VR χ v z → Below base w w' →
      ∃ ψ z', Ending.returned z = .returned z' ∧ (∀ k o, φ.imm k = some o → ψ.imm k = some o) ∧ (∀ k o, ψ.imm k = some o → φ.imm k = some o ∨ base ≤ k) ∧ MemRel base ψ (Dk.blks (.own c te) l) n2 w' ∧ Below base w w' ∧ VR ψ ⟨Dk.ty (.own c te), Dk.mk (.own c te) l⟩ z' := by
    intro χ mem nxt w' v z h1 hm' hl hz hb
    obtain ⟨ψ, g1, g2, g3⟩ := leafO_ok (n2 := n2) hm' (D := .own c te) hval (by rfl) (fun d hd => by simp [Dk.nms] at hd; subst hd; exact hcn) hl hz
    exact ⟨ψ, z, rfl, fun k o hk => by rw [g1]; exact h1.imm k o hk, fun k o hk => by
      rw [g1] at hk
      rcases h1.new k o hk with h | h
      · exact .inl h
      · exact .inr (by rw [← hm.lo]; exact h), g2, hb, g3⟩
  obtain ⟨v, hxs, hv⟩ : ∃ v, xs = #[v] ∧ VR φ ⟨.vsl te, l⟩ v := by
    have h1 := hA.1
    obtain ⟨v, hv, hr⟩ := hA.2 0 _ rfl
    refine ⟨v, ?_, hr⟩
    apply Array.ext'
    have hl : xs.toList.length = 1 := by simpa [ptA] using h1
    match hx : xs.toList, hl with
    | [u], _ =>
      have : xs.toList[0]? = some v := by simpa using hv
      rw [hx] at this
      simp at this
      rw [this]
  subst hxs
  have hv0 := hv
  have hv := VR_vsl.1 hv
  unfold CR at hv
  rcases hv with ⟨hl0, hvn⟩ | ⟨ad, cc, hvs, hlc, himm⟩
  · have hl : l = [] := List.length_eq_zero_iff.1 hl0
    refine (fnH_ok hC hf hL0 (hnil hl) (xs := #[v]) hm ⟨rfl, fun i u hi => ?_⟩).mono ?_
    · cases i with
      | zero => simp at hi; subst hi; exact ⟨v, rfl, VR_nilslice.2 hvn⟩
      | succ i => simp at hi
    · rintro e w' ⟨χ, s, v', z, a, rfl, h1, hr, hl', hz, hb⟩
      exact fin0 h1 hr.mem hl' hz hb
  · have hvv : VR φ ⟨.vsl te, l⟩ v := hv0
    have fin : ∀ a1 : Act, a1.tmps.size = 8 → a1.defers = [] → a1.tmps.getD 0 undef = v → tail.wp P (bodyPost P fn fun e w' => ∃ ψ z, e = .returned z ∧ (∀ k o, φ.imm k = some o → ψ.imm k = some o) ∧ (∀ k o, ψ.imm k = some o → φ.imm k = some o ∨ base ≤ k) ∧ MemRel base ψ (Dk.blks (.own c te) l) n2 w' ∧ Below base w w' ∧ VR ψ ⟨Dk.ty (.own c te), Dk.mk (.own c te) l⟩ z) a1 w := by
      intro a1 hsz hdf h0
      refine codeT_ok hC hL (base := base) (φ := φ) (fun x s hs => ?_) h ⟨fun s u c' hs => ?_, hsz, hm, hdf⟩ ?_
      · unfold endH at hs
        split at hs
        · cases hs
        · cases hs
        · cases hs
        · split at hs
          · rename_i v s' c hres
            cases hk : c <;> rw [hk] at hs hres
            · cases hs
            · unfold resY at hres
              split at hres
              · simp only [Option.some.injEq, Prod.mk.injEq] at hres
                exact pubs_mono (and_split hres.2.2).2
              · cases hres
          · cases hs
      · rcases putArgs_get hs with ⟨hc', _, hg⟩ | hg
        · subst hc'
          cases s with
          | zero => simp at hg; subst hg; exact ⟨fun _ => by rw [h0]; exact hvv, fun e => by cases e⟩
          | succ s => simp at hg
        · simp [Tr.get] at hg
      · intro x e s ψ a' w' he h1 hr' hb' h4
        have post : a'.defers = [] ∧ ∃ z, (results fn a'.tmps).run P w' = .ok z w' ∧ (∃ ψ z', Ending.returned z = .returned z' ∧ (∀ k o, φ.imm k = some o → ψ.imm k = some o) ∧ (∀ k o, ψ.imm k = some o → φ.imm k = some o ∨ base ≤ k) ∧ MemRel base ψ (Dk.blks (.own c te) l) n2 w' ∧ Below base w w' ∧ VR ψ ⟨Dk.ty (.own c te), Dk.mk (.own c te) l⟩ z') := by
          have h4 : (match resY C.Θ fn s with | some (v, s', cc) => bif cc then leafO (.own c te) v s'.mem else none | none => none) = some l := by
            rcases EX_of he with ⟨rfl, rfl⟩ | ⟨j, rfl, rfl⟩ | ⟨rfl, rfl⟩ | ⟨j, rfl, rfl⟩ | ⟨_, _, rfl, rfl⟩
            · exact h4
            · cases h4
            · exact h4
            · cases h4
            · cases h4
          split at h4
          · rename_i v s' cc hres
            cases hk : cc <;> rw [hk] at h4 hres
            · cases h4
            · simp only [cond_true] at h4
              obtain ⟨χ, hχ, hr2, _, z, hrun, hz⟩ := resY_ok hC.Θ hr' hres
              exact ⟨hr'.defers, z, hrun, fin0 (Phi.leK_trans h1 hχ.toK) hr2.mem h4 hz hb'⟩
          · cases h4
        rcases EX_of he with ⟨rfl, rfl⟩ | ⟨j, rfl, rfl⟩ | ⟨rfl, rfl⟩ | ⟨j, rfl, rfl⟩ | ⟨_, _, rfl, rfl⟩
        · exact post
        · cases h4
        · exact post
        · cases h4
        · cases h4
    refine calls_of_wp hf hb ?_
    refine wp_seq (wp_region_list ?_)
    have st2 : ∀ (o : Oper) (x : Operand) (y : Value) (a : Act) (w : World) (ops : Array Oper) (r : List Oper) (Q : Exit → Act → World → Prop), o.guard = none → (o.op = .assign x ∨ o.op = .move x) → wpList P ops Q r (a.put o.dst (a.eval x)) w → wpList P ops Q (o :: r) a w := by
      intro o x y a w ops r Q hg ho hr
      rw [wpList, if_pos (by simp [Region.wanted, hg])]
      rcases ho with ho | ho
      · exact .inl (by unfold Oper.wp execOp; rw [ho]; exact hr)
      · exact .inl (by unfold Oper.wp execOp; rw [ho]; exact hr)
    refine st2 o2 _ v _ _ _ _ _ h2.2.2 (.inl h2.1) ?_
    show (Code.seq _ tail).wp P _ _ _
    refine wp_seq ?_
    refine wp_seq (wp_region_list ?_)
    refine st2 o3 _ v _ _ _ _ _ h3.2.2 (.inr h3.1) ?_
    rw [wpList, if_pos (by simp [Region.wanted, h4.2.2])]
    refine .inl ?_
    obtain ⟨g1, g2, g3⟩ := h4
    obtain ⟨dst, op, type, pos, after, guard⟩ := o4
    simp only at g1 g2 g3
    subst g1; subst g2; subst g3
    rw [h2.2.1, h3.2.1, hn]
    unfold Oper.wp
    rw [run_eqlNil (ad := some ad) (n := l.length) (c := cc) hT (by rw [← hvs]; rfl)]
    show (Code.cond (.tmp 4) thn .skip).wp P _ _ _
    refine wp_cond_false rfl ?_
    refine wp_skip ?_
    exact fin _ (by simp [Act.put]) (by simp [Act.put]) (by simp [Act.put])
end Go.GX

namespace Go.GX
noncomputable def patE {α β γ : Type} (full : β → α) (ext : α → β) (E1 : β → Option γ) (E2 : α → Option γ) : α → Option γ :=
  fun x => @ite _ (x = full (ext x)) (Classical.propDecidable _) (E1 (ext x)) (E2 x)
theorem patE_hit {α β γ : Type} {full : β → α} {ext : α → β} {E1 : β → Option γ} {E2 : α → Option γ} {x : α} {y : β} (h : ext x = y) (h2 : x = full y) : patE full ext E1 E2 x = E1 y := by
  subst h
  unfold patE
  rw [if_pos h2]
theorem patE_miss {α β γ : Type} {full : β → α} {ext : α → β} {E1 : β → Option γ} {E2 : α → Option γ} {x : α} (h : x ≠ full (ext x)) : patE full ext E1 E2 x = E2 x := by
  unfold patE
  rw [if_neg h]
theorem pat_ok {P : Program} {i : Nat} {α β : Type} {T : Ty} {mk : α → List V} {full : β → α} {ext : α → β} {E1 : β → Option T.den} {E2 : α → Option T.den}
    (h1 : ∀ y, (E1 y).isSome = true → PureOK P i (mk (full y)) ⟨T, (E1 y).getD (dflt T)⟩) (h2 : ∀ x, (E2 x).isSome = true → PureOK P i (mk x) ⟨T, (E2 x).getD (dflt T)⟩) :
    ∀ x, (patE full ext E1 E2 x).isSome = true → PureOK P i (mk x) ⟨T, (patE full ext E1 E2 x).getD (dflt T)⟩ := by
  intro x hx
  by_cases h : x = full (ext x)
  · have e : patE full ext E1 E2 x = E1 (ext x) := by unfold patE; rw [if_pos h]
    rw [e] at hx ⊢
    have := h1 _ hx
    rw [← h] at this
    exact this
  · rw [patE_miss h] at hx ⊢
    exact h2 x hx
theorem pat_none {P : Program} {i : Nat} {α : Type} {T : Ty} {mk : α → List V} : ∀ x : α, ((fun _ => none : α → Option T.den) x).isSome = true → PureOK P i (mk x) ⟨T, ((fun _ => none : α → Option T.den) x).getD (dflt T)⟩ := fun _ h => nomatch h
end Go.GX

namespace Go.GX
set_option linter.unusedSimpArgs false
set_option linter.unusedVariables false
set_option linter.unusedSectionVars false
open Go.RowKit
open Go.ChangeShapes Go.WideShapes Go.ChangeAt
open Go.ChangeMaps (open_string shut_string)
def argT : Ty → Bool
  | .bool | .int _ | .str | .unit => true
  | .pair a b => argT a && argT b
  | .arr _ e => argT e
  | .vsl e => argT e && Nat.blt 0 (size e)
  | _ => false
def WFv : (t : Ty) → t.den → Prop
  | .int k, n => (Lit.int k n).wf = true
  | .str, s => s.length ≤ maxLen
  | .pair a b, x => WFv a x.1 ∧ WFv b x.2
  | .arr n e, x => x.length = n ∧ ∀ y ∈ x, WFv e y
  | .vsl e, x => x.length ≤ maxLen ∧ ∀ y ∈ x, WFv e y
  | _, _ => True
def SZ (n : Nat) : (t : Ty) → t.den → Prop
  | .str, s => s.length ≤ n
  | .pair a b, x => SZ n a x.1 ∧ SZ n b x.2
  | .arr _ e, x => ∀ y ∈ x, SZ n e y
  | .vsl e, x => x.length ≤ n ∧ ∀ y ∈ x, SZ n e y
  | _, _ => True
structure Bulk {H : Type} (B : DataW H → Nat) : Prop where
  str : ∀ s, s.length ≤ B (.lit (.string s))
  slice : ∀ e r, e.length ≤ B (.slice e r)
  elem : ∀ e r, ∀ d ∈ e, B d ≤ B (.slice e r)
  part : ∀ l, ∀ d ∈ l, B d ≤ B (.agg l)
section
variable {H : Type} {enc : TypeId × Value → H} {P : Program} {w : World} {base : Nat} {spare : Nat → Bool} {held : Bool} {Θ : Tab} {B : DataW H → Nat}
theorem cells_block {a : Addr} {n : Nat} {cs : List Value} (h : w.cells? base a n = some cs) (hn : 0 < n) : a.spot = none ∧ ∃ os el fr, w.heap[a.block]? = some (.cells os el fr) ∧ ∀ i, i < n → os[a.off + i]? = cs[i]? := by
  obtain ⟨_, hl, hc⟩ := World.cells?_some h
  have hat : ∀ i, i < n → ∃ os el fr, w.heap[a.block]? = some (.cells os el fr) ∧ (i = 0 → a.spot = none) ∧ os[a.off + i]? = cs[i]? := by
    intro i hi
    have h1 := hc i hi
    rw [List.getElem?_eq_getElem (by omega)] at h1
    unfold World.cell? at h1
    by_cases h0 : i = 0
    · subst h0
      simp only [Addr.add, if_true] at h1
      split at h1
      · rename_i os el fr hh
        split at h1
        · cases h1
        · rename_i hs
          refine ⟨os, el, fr, hh, fun _ => by simpa using hs, ?_⟩
          rw [List.getElem?_eq_getElem (by omega)]; exact h1
      · cases h1
    · simp only [Addr.add, if_neg h0] at h1
      split at h1
      · rename_i os el fr hh
        simp at h1
        refine ⟨os, el, fr, hh, fun e => absurd e h0, ?_⟩
        rw [List.getElem?_eq_getElem (by omega)]; simpa using h1
      · cases h1
  obtain ⟨os, el, fr, h1, h2, h3⟩ := hat 0 hn
  refine ⟨h2 rfl, os, el, fr, h1, fun i hi => ?_⟩
  obtain ⟨os', el', fr', h1', _, h3'⟩ := hat i hi
  rw [h1] at h1'; cases h1'
  exact h3'
theorem fields_val (hΘ : TabOK P Θ) {fuel : Nat} {φ : Phi} {D : List (DataW H)} (ih : ∀ t ti cs d ps, Θ t = some ti → argT ti.ty = true → DataW.trod enc P w base spare held fuel t cs = some (d, ps) → ∃ x : ti.ty.den, WFv ti.ty x ∧ (∀ n, B d ≤ n → SZ n ti.ty x) ∧ CL φ (flat ti.ty x) cs) {cs : List Value} :
    ∀ {ty : Ty} {o : Nat} {fs : List Field}, structOK Θ ty o fs = true → argT ty = true → o + size ty = cs.length → (∀ f ∈ fs, ∃ r, DataW.trod enc P w base spare held fuel f.type ((cs.drop f.offset).take (P.cellsOf f.type)) = some r ∧ r.1 ∈ D) →
      ∃ x : ty.den, WFv ty x ∧ (∀ n, (∀ d ∈ D, B d ≤ n) → SZ n ty x) ∧ CL φ (flat ty x) (cs.drop o)
  | .unit, o, [], _, _, hl, _ => ⟨(), trivial, fun _ _ => trivial, by
      have : cs.drop o = [] := by simp only [size] at hl; exact List.drop_of_length_le (by omega)
      rw [this]; exact ⟨rfl, fun i c hi => by simp [flat] at hi⟩⟩
  | .pair a b, o, f :: fs, hs, hp, hl, hall => by
    simp only [structOK, Bool.and_eq_true] at hs
    obtain ⟨⟨h1, h2⟩, h3⟩ := hs
    have h1 := Nat.eq_of_beq_eq_true h1
    simp only [argT, Bool.and_eq_true] at hp
    split at h2
    · rename_i tf htf
      simp only [Bool.and_eq_true, decide_eq_true_eq] at h2
      obtain ⟨h2, _⟩ := h2
      have h2 := fldOK_ne h2 (fun e => by subst e; simp [argT] at hp)
      subst h2
      obtain ⟨⟨d, ps⟩, hr, hD⟩ := hall f (by simp)
      rw [cellsOf_eq hΘ htf, h1] at hr
      obtain ⟨x, hx, hxs, hxc⟩ := ih _ _ _ _ _ htf hp.1 hr
      simp only [size] at hl
      obtain ⟨y, hy, hys, hyc⟩ := fields_val hΘ ih h3 hp.2 (by omega) (fun g hg => hall g (by simp [hg]))
      refine ⟨(x, y), ⟨hx, hy⟩, fun n hn => ⟨hxs n (hn _ hD), hys n hn⟩, ?_⟩
      have : cs.drop o = (cs.drop o).take (size tf.ty) ++ cs.drop (o + size tf.ty) := by
        rw [← List.drop_drop, List.take_append_drop]
      rw [this, flat]
      exact CL_append hxc hyc
    · cases h2
theorem row_val {e : Ty} {φ : Phi} {D : List (DataW H)} {rd : Nat → Option (List Value)} {n : Nat} (h : ∀ k, k < n → ∃ cs d, rd k = some cs ∧ d ∈ D ∧ ∃ x : e.den, WFv e x ∧ (∀ m, B d ≤ m → SZ m e x) ∧ CL φ (flat e x) cs) :
    ∀ k, k ≤ n → ∃ l : List e.den, l.length = k ∧ (∀ y ∈ l, WFv e y) ∧ (∀ m, (∀ d ∈ D, B d ≤ m) → ∀ y ∈ l, SZ m e y) ∧ ∀ i, i < k → ∃ cs, rd i = some cs ∧ CL φ (flat e (l.getD i (dflt e))) cs := by
  intro k
  induction k with
  | zero => intro _; exact ⟨[], rfl, fun y hy => (by cases hy), fun m _ y hy => (by cases hy), fun i hi => (by omega)⟩
  | succ k ih =>
    intro hk
    obtain ⟨l, hl, hw, hs, hc⟩ := ih (by omega)
    obtain ⟨cs, d, hr, hd, x, hx, hxs, hxc⟩ := h k (by omega)
    refine ⟨l ++ [x], by simp [hl], fun y hy => ?_, fun m hm y hy => ?_, fun i hi => ?_⟩
    · rcases List.mem_append.1 hy with hy | hy
      · exact hw y hy
      · simp at hy; subst hy; exact hx
    · rcases List.mem_append.1 hy with hy | hy
      · exact hs m hm y hy
      · simp at hy; subst hy; exact hxs m (hm d hd)
    · by_cases hik : i < k
      · obtain ⟨cs', h1, h2⟩ := hc i hik
        refine ⟨cs', h1, ?_⟩
        rw [show (l ++ [x]).getD i (dflt e) = l.getD i (dflt e) by simp [List.getD, List.getElem?_append_left (show i < l.length by omega)]]
        exact h2
      · obtain rfl : i = k := by omega
        refine ⟨cs, hr, ?_⟩
        rw [show (l ++ [x]).getD i (dflt e) = x by simp [List.getD, ← hl]]
        exact hxc
theorem row_cells {e : Ty} {φ : Phi} {l : List e.den} {os : List Value} {o n : Nat} (h : ∀ i, i < n → ∃ cs, CL φ (flat e (l.getD i (dflt e))) cs ∧ ∀ j, j < size e → os[o + i * size e + j]? = cs[j]?) :
    ∀ (k : Nat) c, ((List.range n).flatMap fun i => flat e (l.getD i (dflt e)))[k]? = some c → ∃ v, os[o + k]? = some v ∧ CR φ c v := by
  induction n with
  | zero => intro k c hk; simp at hk
  | succ n ih =>
    intro k c hk
    rw [List.range_succ, List.flatMap_append] at hk
    have hlen : ((List.range n).flatMap fun i => flat e (l.getD i (dflt e))).length = n * size e := by
      exact length_flatMap_const _ _ (fun i => length_flat _ _) n
    by_cases hlt : k < n * size e
    · rw [List.getElem?_append_left (by omega)] at hk
      exact ih (fun i hi => h i (by omega)) k c hk
    · rw [List.getElem?_append_right (by omega), hlen] at hk
      simp only [List.flatMap_cons, List.flatMap_nil, List.append_nil] at hk
      obtain ⟨cs, h1, h2⟩ := h n (by omega)
      have hj : k - n * size e < size e := by
        have := (List.getElem?_eq_some_iff.1 hk).1
        rw [length_flat] at this; exact this
      obtain ⟨v, hv, hr⟩ := h1.2 _ c hk
      refine ⟨v, ?_, hr⟩
      rw [← h2 _ hj] at hv
      rw [show o + k = o + n * size e + (k - n * size e) by omega]
      exact hv
theorem trod_val (hB : Bulk B) (hΘ : TabOK P Θ) : ∀ (fuel : Nat) t ti cs d ps, Θ t = some ti → argT ti.ty = true → DataW.trod enc P w base spare held fuel t cs = some (d, ps) → ∃ x : ti.ty.den, WFv ti.ty x ∧ (∀ n, B d ≤ n → SZ n ti.ty x) ∧ CL (Phi.ofW w) (flat ti.ty x) cs := by
  intro fuel
  induction fuel with
  | zero => intro t ti cs d ps _ _ h; simp [DataW.trod] at h
  | succ fuel ih =>
    intro t ti cs d ps ht hp h
    have hT := hΘ.get ht
    obtain ⟨dd, hd, hdu, _⟩ := hT.run_underlying
    have hcell := cellsOf_eq hΘ ht
    cases hty : ti.ty with
    | bool =>
      have := desc_bool hd hty
      subst this
      obtain ⟨b, rfl, _⟩ := DataW.trod_bool hdu h
      exact ⟨b, trivial, fun _ _ => trivial, CL_single rfl⟩
    | int k =>
      have := desc_int hd hty
      subst this
      obtain ⟨n, rfl, _, hw⟩ := DataW.trod_int hdu h
      exact ⟨n, hw, fun _ _ => trivial, CL_single rfl⟩
    | str =>
      have := desc_str hd hty
      subst this
      obtain ⟨s, rfl, hx, hw⟩ := DataW.trod_string hdu h
      cases hx
      refine ⟨s.data.toList, by show s.data.toList.length ≤ maxLen; simpa using hw, fun n hn => Nat.le_trans (hB.str _) hn, CL_single ?_⟩
      show Value.string s = .string ⟨s.data.toList.toArray⟩
      cases s; simp
    | unit =>
      cases dd <;> simp only [descOK, Bool.and_eq_true, decide_eq_true_eq, Bool.false_eq_true] at hd <;> first | (rw [hd] at hty; cases hty; done) | (rw [hd.1] at hty; cases hty; done) | (have hd := hd.1; rw [hty] at hd; simp [slT] at hd; done) | skip
      · obtain ⟨_, hd⟩ := hd
        split at hd
        · simp only [Bool.and_eq_true, decide_eq_true_eq] at hd
          rw [hd.1] at hty; cases hty
        · cases hd
      · obtain ⟨xs, n, _, _, hl, _⟩ := DataW.trod_struct hdu h
        rw [hcell, hty] at hl
        have : cs = [] := List.length_eq_zero_iff.1 hl
        subst this
        exact ⟨(), trivial, fun _ _ => trivial, ⟨rfl, fun i c hi => by simp [flat] at hi⟩⟩
    | pair a b =>
      obtain ⟨fs, rfl, hso⟩ := desc_struct hd (by rw [hty]; rfl)
      obtain ⟨xs, n, hn, hxd, hl, hxl, hall⟩ := DataW.trod_struct hdu h
      cases hn; cases hxd
      rw [hcell, hty] at hl
      rw [hty] at hso hp
      obtain ⟨x, hx, hxs, hxc⟩ := fields_val (B := B) (enc := enc) (w := w) (base := base) (spare := spare) (held := held) (D := xs.map (·.1)) hΘ ih (cs := cs) hso hp (by omega) (fun f hf => by
        obtain ⟨i, hi⟩ := List.getElem?_of_mem hf
        have hlt : i < fs.size := by have := (List.getElem?_eq_some_iff.1 hi).1; simpa using this
        exact ⟨_, (hall i f (by simpa using hi)).trans (List.getElem?_eq_getElem (by omega)), List.mem_map.2 ⟨_, List.getElem_mem (by omega), rfl⟩⟩)
      exact ⟨x, hx, fun n hn => hxs n (fun d hd => Nat.le_trans (hB.part _ d hd) hn), by simpa using hxc⟩
    | arr n e =>
      obtain ⟨e', te, rfl, hte, rfl⟩ := desc_arr hd hty
      obtain ⟨xs, m, hm, hxd, hl, hxl, hall⟩ := DataW.trod_array hdu h
      cases hm; cases hxd
      rw [hcell, hty] at hl
      rw [hty] at hp
      have hce := cellsOf_eq hΘ hte
      obtain ⟨l, hll, hlw, hls, hlc⟩ := row_val (B := B) (e := te.ty) (φ := Phi.ofW w) (D := xs.map (·.1)) (rd := fun k => some ((cs.drop (k * size te.ty)).take (size te.ty))) (n := n) (fun k hk => by
        have hr := hall k (by omega)
        rw [List.getElem?_eq_getElem (show k < xs.length by omega), hce] at hr
        exact ⟨_, _, rfl, List.mem_map.2 ⟨_, List.getElem_mem (by omega), rfl⟩, ih _ _ _ _ _ hte hp hr⟩) n (Nat.le_refl _)
      refine ⟨l, ⟨hll, hlw⟩, fun n hn => hls n (fun d hd => Nat.le_trans (hB.part _ d hd) hn), ?_⟩
      refine ⟨by rw [length_flat, hl], fun k c hk => ?_⟩
      have := row_cells (e := te.ty) (φ := Phi.ofW w) (l := l) (os := cs) (o := 0) (n := n) (fun i hi => by
        obtain ⟨cs', h1, h2⟩ := hlc i hi
        cases h1
        refine ⟨_, h2, fun j hj => ?_⟩
        rw [List.getElem?_take, if_pos hj, List.getElem?_drop, Nat.zero_add]) k c hk
      simpa using this
    | vsl e =>
      obtain ⟨e', te, hdd, hte, hteq, hsub⟩ : ∃ e' te, dd = .slice e' ∧ Θ e' = some te ∧ te.ty = e ∧ ti.sub = [e'] := by
        obtain ⟨e', he, hs⟩ := desc_slice hd (by rw [hty]; rfl)
        subst he
        simp only [descOK, Bool.and_eq_true, decide_eq_true_eq, slOK, hty] at hd
        obtain ⟨_, hd, _⟩ := hd
        split at hd
        · rename_i te hte
          simp only [Bool.and_eq_true, decide_eq_true_eq] at hd
          exact ⟨e', te, rfl, hte, hd.1, hs⟩
        · cases hd
      subst hdd; subst hteq
      rw [hty] at hp
      simp only [argT, Bool.and_eq_true] at hp
      have hpos : 0 < size te.ty := Nat.lt_of_lt_of_le Nat.zero_lt_one (Nat.le_of_ble_eq_true hp.2)
      have hce := cellsOf_eq hΘ hte
      rcases DataW.trod_slice hdu h with ⟨rfl, hx⟩ | ⟨a, len, cap, elems, rest, n, hfu, rfl, hx, hb, hle, hm, hlen, hel, _, _⟩
      · cases hx
        refine ⟨([] : List te.ty.den), ⟨Nat.zero_le _, fun y hy => (by cases hy)⟩, fun n _ => ⟨Nat.zero_le _, fun y hy => (by cases hy)⟩, CL_single ?_⟩
        unfold CR; exact .inl ⟨rfl, rfl⟩
      · cases hfu; cases hx
        have hread : ∀ k, k < len → ∃ cs', w.cells? base (a.add (k * size te.ty)) (size te.ty) = some cs' ∧ ∃ d ps, DataW.trod enc P w base spare held fuel e' cs' = some (d, ps) ∧ d ∈ elems.map (·.1) := by
          intro k hk
          have h1 := hel k hk
          rw [List.getElem?_eq_getElem (by omega), hce, Option.bind_eq_some_iff] at h1
          obtain ⟨cs', h2, h3⟩ := h1
          exact ⟨cs', h2, _, _, h3, List.mem_map.2 ⟨_, List.getElem_mem (by omega), rfl⟩⟩
        obtain ⟨l, hll, hlw, hls, hlc⟩ := row_val (B := B) (e := te.ty) (φ := Phi.ofW w) (D := elems.map (·.1)) (rd := fun k => w.cells? base (a.add (k * size te.ty)) (size te.ty)) (n := len) (fun k hk => by
          obtain ⟨cs', h1, d, ps, h2, h3⟩ := hread k hk
          exact ⟨cs', d, h1, h3, ih _ _ _ _ _ hte hp.1 h2⟩) len (Nat.le_refl _)
        refine ⟨l, ⟨by rw [hll]; omega, hlw⟩, fun n hn => ⟨?_, hls n (fun d hd => Nat.le_trans (hB.elem _ _ d hd) hn)⟩, CL_single ?_⟩
        · have := hB.slice (elems.map (·.1)) (rest.map (·.1))
          rw [List.length_map, hlen] at this
          omega
        · unfold CR
          refine .inr ⟨a, cap, by rw [hll], by rw [hll]; exact hle, fun h0 => ?_⟩
          have h0 : 0 < len := by rw [hll] at h0; omega
          obtain ⟨cs0, hc0, _⟩ := hread 0 h0
          rw [Nat.zero_mul, show a.add 0 = a from rfl] at hc0
          obtain ⟨hsp, os, el, fr, hblk, _⟩ := cells_block hc0 hpos
          refine ⟨hsp, os, el, fr, hblk, CRs_iff.2 fun k c hk => ?_⟩
          rw [hll] at hk
          obtain ⟨v, hv, hr⟩ := row_cells (e := te.ty) (φ := Phi.ofW w) (l := l) (os := os.toList) (o := a.off) (n := len) (fun i hi => by
            obtain ⟨cs', h1, h2⟩ := hlc i hi
            obtain ⟨_, os', el', fr', hb', hc'⟩ := cells_block h1 hpos
            have e1 : (a.add (i * size te.ty)).block = a.block := by unfold Addr.add; split <;> rfl
            have e2 : (a.add (i * size te.ty)).off = a.off + i * size te.ty := by
              unfold Addr.add
              split
              · rename_i hz; rw [hz]; rfl
              · rfl
            rw [e1, hblk] at hb'; cases hb'
            refine ⟨cs', h2, fun j hj => ?_⟩
            have := hc' j hj
            rw [e2] at this
            simpa using this) k c hk
          exact ⟨v, by rw [List.getElem?_drop]; exact hv, hr⟩
    | tnil => have := hT.tup; rw [hty] at this; simp [isTup] at this
    | tup a b => have := hT.tup; rw [hty] at this; simp [isTup] at this
    | _ => rw [hty] at hp; simp [argT] at hp
theorem open_val (hB : Bulk B) (hΘ : TabOK P Θ) {r : Reach} {b0 : Nat} {t : Nat} {ti : TI} {v : Value} {d : DataW H} {ps : List MemPlace} (ht : Θ t = some ti) (hp : argT ti.ty = true) (hval : Value.okWide P w r b0 t v)
    (hd : DataW.Trod enc P w base spare held t v d ps) : ∃ x : ti.ty.den, WFv ti.ty x ∧ (∀ n, B d ≤ n → SZ n ti.ty x) ∧ VR (Phi.ofW w) ⟨ti.ty, x⟩ v := by
  obtain ⟨fuel, hf⟩ := hd
  obtain ⟨x, hx, hs, hcl⟩ := trod_val hB hΘ fuel t ti _ d ps ht hp hf
  have hT := hΘ.get ht
  obtain ⟨dd, hdd, hdu, _⟩ := hT.run_underlying
  refine ⟨x, hx, hs, VR_of_V1 hT.tup ?_⟩
  have hag := desc_agg hdd
  by_cases ha : GX.isAgg ti.ty = true
  · rw [ha] at hag
    have : ∃ cs, v = .agg cs := by
      unfold Value.okWide at hval
      rw [hdu] at hval
      cases dd <;> simp [aggD] at hag
      · obtain ⟨cs, e, _⟩ := hval; exact ⟨cs, e⟩
      · obtain ⟨cs, e, _⟩ := hval; exact ⟨cs, e⟩
    obtain ⟨cs, rfl⟩ := this
    exact V1_of_cells hcl ha
  · have hv1 : v.cells = #[v] := by
      cases hty : ti.ty with
      | bool =>
        have := desc_bool hdd hty
        subst this
        obtain ⟨b, rfl, _⟩ := open_bool hdu hval ⟨fuel, hf⟩
        rfl
      | int k =>
        have := desc_int hdd hty
        subst this
        obtain ⟨b, rfl, _⟩ := open_int hdu hval ⟨fuel, hf⟩
        rfl
      | str =>
        have := desc_str hdd hty
        subst this
        obtain ⟨b, rfl, _⟩ := open_string hdu hval ⟨fuel, hf⟩
        rfl
      | vsl e =>
        obtain ⟨e', he, _⟩ := desc_slice hdd (by rw [hty]; rfl)
        subst he
        obtain ⟨a, len, cap, rfl⟩ := okWide_slice hdu hval
        rfl
      | tnil => have := hT.tup; rw [hty] at this; simp [isTup] at this
      | tup a b => have := hT.tup; rw [hty] at this; simp [isTup] at this
      | unit => rw [hty] at ha; simp [GX.isAgg] at ha
      | pair a b => rw [hty] at ha; simp [GX.isAgg] at ha
      | arr n e => rw [hty] at ha; simp [GX.isAgg] at ha
      | _ => rw [hty] at hp; simp [argT] at hp
    rw [hv1] at hcl
    unfold V1
    rw [if_neg ha]
    have hl := hcl.1
    match hfl : flat ti.ty x, hl with
    | [c], _ =>
      rw [hfl] at hcl
      obtain ⟨v', hv', hr⟩ := hcl.2 0 c rfl
      simp at hv'; subst hv'
      exact ⟨c, rfl, hr⟩
    | [], hl => simp at hl
    | _ :: _ :: _, hl => simp at hl
end
end Go.GX

namespace Go.GX
set_option linter.unusedSimpArgs false
set_option linter.unusedVariables false
theorem wrap_u64 (a : Int) : IntKind.wrap .u64 a = a % 18446744073709551616 := by simp [IntKind.wrap, IntKind.signed, IntKind.bits]
theorem wrap_i64 (a : Int) : IntKind.wrap .i64 a = if a % 18446744073709551616 ≥ 9223372036854775808 then a % 18446744073709551616 - 18446744073709551616 else a % 18446744073709551616 := by simp [IntKind.wrap, IntKind.signed, IntKind.bits]
theorem wi64 {a : Int} (h : -9223372036854775808 ≤ a ∧ a < 9223372036854775808) : IntKind.wrap .i64 a = a := by rw [wrap_i64]; split <;> omega
theorem ishr_k (k : IntKind) (a y : Int) (n : Nat) (p : Int) (h : min y.toNat k.bits = n) (hp : (2 : Int) ^ n = p) : ishr k a y = a / p := by
  subst hp; subst h
  unfold ishr
  exact Int.fdiv_eq_ediv_of_nonneg _ (Int.le_of_lt (Int.pow_pos (by omega)))
theorem ishl_k (k : IntKind) (a y : Int) (n : Nat) (p : Int) (h : min y.toNat k.bits = n) (hp : (2 : Int) ^ n = p) : ishl k a y = k.wrap (a * p) := by
  subst hp; subst h; rfl
end Go.GX
namespace Go.GX
theorem sec_full {α : Type} {d : α} {l : List α} {n : Nat} (h : l.length = n) : sec d l 0 n = l := by
  subst h
  unfold sec
  apply List.ext_getElem (by simp)
  intro i h1 h2
  simp [h2]
theorem lset_eq {α : Type} {d : α} {l : List α} {i : Nat} {v : α} (h : i < l.length) : lset d l i v = l.set i v := by
  induction l generalizing i with
  | nil => simp at h
  | cons x l ih => cases i with
    | zero => rfl
    | succ i => rw [lset, List.set_cons_succ, ih (by simpa using h)]
theorem wh_steps {α β : Type} {f : α → Option (α ⊕ β)} (inv : Nat → α) (n : Nat) (h : ∀ i, i < n → f (inv i) = some (.inl (inv (i + 1)))) : wh f (inv 0) = wh f (inv n) := by
  induction n with
  | zero => rfl
  | succ n ih => rw [ih (fun i hi => h i (by omega)), wh_next (h n (by omega))]
theorem whV_of {hd : List It} {ys : Ways} {f : XD hd → Option (XD hd ⊕ YD ys)} {x : XD hd} {y : YD ys} (h : wh f x = some y) : whV f x = y := by unfold whV; rw [h]; rfl
theorem whK_of {hd : List It} {ys : Ways} {f : XD hd → Option (XD hd ⊕ YD ys)} {x : XD hd} {y : YD ys} (h : wh f x = some y) : whK f x = true := by unfold whK; rw [h]; rfl
end Go.GX
namespace Go.GX
end Go.GX
namespace Go.GX
theorem bif_t {α : Type} {c : Bool} {a b : α} (h : c = true) : (bif c then a else b) = a := by rw [h]; rfl
theorem bif_f {α : Type} {c : Bool} {a b : α} (h : c = false) : (bif c then a else b) = b := by rw [h]; rfl
end Go.GX
namespace Go.GX
theorem ofE {α β : Type} {E : α → Option β} {x : α} {y d : β} (h : E x = some y) : (E x).getD d = y ∧ (E x).isSome = true := by rw [h]; exact ⟨rfl, rfl⟩
end Go.GX

namespace Go.GX
set_option linter.unusedVariables false
set_option linter.unusedSimpArgs false
theorem ofInt64 (a : Int) : (BitVec.ofInt (IntKind.bits .u64) a).toNat = (a % 18446744073709551616).toNat := by
  show (BitVec.ofInt 64 a).toNat = _
  simp [BitVec.toNat_ofInt]
theorem ixor_u64 (a b : Int) : ixor .u64 a b = (((a % 18446744073709551616).toNat ^^^ (b % 18446744073709551616).toNat : Nat) : Int) := by
  unfold ixor
  rw [BitVec.toNat_xor, ofInt64, ofInt64, wrap_u64]
  have h1 : (a % 18446744073709551616).toNat < 2 ^ 64 := by omega
  have h2 : (b % 18446744073709551616).toNat < 2 ^ 64 := by omega
  have := Nat.xor_lt_two_pow h1 h2
  omega
def u (a : Int) : Nat := (a % 18446744073709551616).toNat
def bit (a : Int) (i : Nat) : Bool := (u a).testBit i
def InR (a : Int) : Prop := 0 ≤ a ∧ a < 18446744073709551616
theorem u_lt (a : Int) : u a < 2 ^ 64 := by unfold u; omega
theorem u_of {a : Int} (h : InR a) : (u a : Int) = a := by unfold u; unfold InR at h; omega
theorem u_cast (n : Nat) (h : n < 2 ^ 64) : u (n : Int) = n := by unfold u; omega
theorem bits_eq {a b : Int} (ha : InR a) (hb : InR b) (h : ∀ i, bit a i = bit b i) : a = b := by
  rw [← u_of ha, ← u_of hb, Nat.eq_of_testBit_eq h]
theorem inR_wrap (a : Int) : InR (IntKind.wrap .u64 a) := by unfold InR; rw [wrap_u64]; omega
theorem ixor_n (a b : Int) : ixor .u64 a b = ((u a ^^^ u b : Nat) : Int) := ixor_u64 a b
theorem ior_n (a b : Int) : ior .u64 a b = ((u a ||| u b : Nat) : Int) := by
  unfold ior
  rw [BitVec.toNat_or, ofInt64, ofInt64, wrap_u64]
  have := Nat.or_lt_two_pow (u_lt a) (u_lt b)
  unfold u at this ⊢
  omega
theorem iandn_n (a b : Int) : iandn .u64 a b = ((BitVec.ofInt 64 a &&& ~~~BitVec.ofInt 64 b).toNat : Int) := by
  unfold iandn
  rw [wrap_u64]
  have := (BitVec.ofInt 64 a &&& ~~~BitVec.ofInt 64 b).isLt
  show (((BitVec.ofInt 64 a &&& ~~~BitVec.ofInt 64 b).toNat : Int)) % 18446744073709551616 = _
  omega
theorem inR_iandn (a b : Int) : InR (iandn .u64 a b) := by unfold iandn; exact inR_wrap _
theorem bit_ior (a b : Int) (i : Nat) : bit (ior .u64 a b) i = (bit a i || bit b i) := by
  unfold bit
  rw [ior_n, u_cast _ (Nat.or_lt_two_pow (u_lt a) (u_lt b)), Nat.testBit_or]
theorem bv_bit (a : Int) (i : Nat) : (BitVec.ofInt 64 a).getLsbD i = bit a i := by
  show (BitVec.ofInt 64 a).toNat.testBit i = _
  have := ofInt64 a
  rw [show (BitVec.ofInt 64 a).toNat = (a % 18446744073709551616).toNat from this]; rfl
theorem bit_hi (a : Int) {i : Nat} (h : 64 ≤ i) : bit a i = false :=
  Nat.testBit_lt_two_pow (Nat.lt_of_lt_of_le (u_lt a) (Nat.pow_le_pow_right (by omega) h))
theorem bit_iandn (a b : Int) (i : Nat) : bit (iandn .u64 a b) i = (bit a i && !bit b i) := by
  have h : bit (iandn .u64 a b) i = (BitVec.ofInt 64 a &&& ~~~BitVec.ofInt 64 b).getLsbD i := by
    rw [iandn_n]
    unfold bit
    rw [u_cast _ (BitVec.isLt _)]
    rfl
  rw [h, BitVec.getLsbD_and, BitVec.getLsbD_not, bv_bit, bv_bit]
  by_cases hi : i < 64
  · simp [hi]
  · rw [bit_hi a (by omega)]; simp
def tbl0 : List UInt8 := [0, 1, 2, 2, 3, 3, 3, 3, 4, 4, 4, 4, 4, 4, 4, 4, 5, 5, 5, 5, 5, 5, 5, 5, 5, 5, 5, 5, 5, 5, 5, 5, 6, 6, 6, 6, 6, 6, 6, 6, 6, 6, 6, 6, 6, 6, 6, 6, 6, 6, 6, 6, 6, 6, 6, 6, 6, 6, 6, 6, 6, 6, 6, 6, 7, 7, 7, 7, 7, 7, 7, 7, 7, 7, 7, 7, 7, 7, 7, 7, 7, 7, 7, 7, 7, 7, 7, 7, 7, 7, 7, 7, 7, 7, 7, 7, 7, 7, 7, 7, 7, 7, 7, 7, 7, 7, 7, 7, 7, 7, 7, 7, 7, 7, 7, 7, 7, 7, 7, 7, 7, 7, 7, 7, 7, 7, 7, 7, 8, 8, 8, 8, 8, 8, 8, 8, 8, 8, 8, 8, 8, 8, 8, 8, 8, 8, 8, 8, 8, 8, 8, 8, 8, 8, 8, 8, 8, 8, 8, 8, 8, 8, 8, 8, 8, 8, 8, 8, 8, 8, 8, 8, 8, 8, 8, 8, 8, 8, 8, 8, 8, 8, 8, 8, 8, 8, 8, 8, 8, 8, 8, 8, 8, 8, 8, 8, 8, 8, 8, 8, 8, 8, 8, 8, 8, 8, 8, 8, 8, 8, 8, 8, 8, 8, 8, 8, 8, 8, 8, 8, 8, 8, 8, 8, 8, 8, 8, 8, 8, 8, 8, 8, 8, 8, 8, 8, 8, 8, 8, 8, 8, 8, 8, 8, 8, 8, 8, 8, 8, 8, 8, 8, 8, 8, 8, 8]
def BL (n k : Nat) : Prop := n < 2 ^ k ∧ (k = 0 ∨ 2 ^ (k - 1) ≤ n)
theorem tbl_ok : ∀ i, i < 256 → BL i (tbl0.getD i 0).toNat := by
  have h : ((List.range 256).all fun i => Nat.blt i (2 ^ (tbl0.getD i 0).toNat) && (Nat.beq (tbl0.getD i 0).toNat 0 || Nat.ble (2 ^ ((tbl0.getD i 0).toNat - 1)) i)) = true := by decide +kernel
  intro i hi
  have := List.all_eq_true.1 h i (by simpa using hi)
  simp only [Bool.and_eq_true, Bool.or_eq_true] at this
  exact ⟨Nat.le_of_ble_eq_true this.1, this.2.imp Nat.eq_of_beq_eq_true Nat.le_of_ble_eq_true⟩
theorem tbl_le : ∀ i, i < 256 → (tbl0.getD i 0).toNat ≤ 8 := by
  have h : ((List.range 256).all fun i => Nat.ble (tbl0.getD i 0).toNat 8) = true := by decide +kernel
  intro i hi
  exact Nat.le_of_ble_eq_true (List.all_eq_true.1 h i (by simpa using hi))
theorem BL_shift {n s k : Nat} (h : BL (n / 2 ^ s) k) (h1 : s = 0 ∨ 1 ≤ n / 2 ^ s) : BL n (s + k) := by
  have hp : 0 < 2 ^ s := Nat.pow_pos (by omega)
  have a1 := h.1
  have e1 : n < 2 ^ (s + k) := by
    rw [Nat.pow_add, Nat.mul_comm]
    exact (Nat.div_lt_iff_lt_mul hp).1 a1
  refine ⟨e1, ?_⟩
  rcases h.2 with e | e
  · rcases h1 with h1 | h1
    · left; omega
    · subst e; rw [Nat.pow_zero] at a1; omega
  · by_cases hk : k = 0
    · subst hk
      rcases h1 with h1 | h1
      · left; omega
      · rw [Nat.pow_zero] at a1; omega
    · right
      rw [show s + k - 1 = s + (k - 1) from by omega, Nat.pow_add, Nat.mul_comm]
      exact (Nat.le_div_iff_mul_le hp).1 e
theorem leaf (x : Int) (s : Nat) (y : Int) (hx : InR x) (hy : y = x / ((2 ^ s : Nat) : Int)) (hs : s ≤ 56) (h : y < 256) (h1 : s = 0 ∨ 1 ≤ y) :
    ∃ L : Nat, (bif (tt 1 ((decide (0 ≤ (IntKind.wrap .u8 y))) && (decide ((IntKind.wrap .u8 y) < 256)))) then some (IntKind.wrap .i64 ((s : Int) + (IntKind.wrap .i64 ((tbl0.getD (Int.toNat (IntKind.wrap .u8 y)) 0).toNat : Int)))) else none) = some (L : Int) ∧ L ≤ 64 ∧ BL x.toNat L := by
  have y0 : 0 ≤ y := by rw [hy]; exact Int.ediv_nonneg hx.1 (Int.natCast_nonneg _)
  have hw : IntKind.wrap .u8 y = y := by
    have : IntKind.wrap .u8 y = y % 256 := by simp [IntKind.wrap, IntKind.signed, IntKind.bits]
    omega
  rw [hw, decide_eq_true y0, decide_eq_true h, tt_eq]
  have hlt : y.toNat < 256 := by omega
  have ht := tbl_le y.toNat hlt
  have hb := tbl_ok y.toNat hlt
  have hyn : y.toNat = x.toNat / 2 ^ s := by
    obtain ⟨m, rfl⟩ : ∃ m : Nat, x = (m : Int) := ⟨x.toNat, (Int.toNat_of_nonneg hx.1).symm⟩
    rw [hy, ← Int.natCast_ediv, Int.toNat_natCast, Int.toNat_natCast]
  generalize (tbl0.getD y.toNat 0).toNat = t at ht hb ⊢
  refine ⟨s + t, ?_, by omega, BL_shift (by rw [← hyn]; exact hb) (h1.imp id (fun h => by omega))⟩
  simp only [Bool.and_self, cond_true]
  congr 1
  rw [wrap_i64 (t : Int)]
  rw [if_neg (by omega), wrap_i64, if_neg (by omega)]
  omega
end Go.GX
