import Derived.Test.YtfhpihomdnbgpaaGc
import Derived.Recover
/-! An executor for translated code over abstract states, and its soundness. -/
namespace Go.GX
set_option linter.unusedSimpArgs false
set_option linter.unusedVariables false
set_option linter.unusedSectionVars false
open Go.RowKit (Below)
def ownBR (q : SL) (b : Blk) (e : Ty) : Option (List e.den × Bool) :=
 if h : b.t = e then some (h ▸ sec (GX.dflt b.t) b.row q.start q.len, !(Nat.beq q.start MARK) && decide (q.start + q.len ≤ b.n)) else none
def ownRdR (mem : Mem) (e : Ty) (q : Option SL) : Option (List e.den × Bool) :=
 match q with
 | none => some ([], true)
 | some q => match q.path, Mem.getC mem q.id with
  | [], some b => ownBR q b e
  | _, _ => none
def mpRdR (mem : Mem) (K E : Ty) (q : Option Nat) : Option (List (MT K E).den × Bool) :=
 match q with
 | none => none
 | some j => match Mem.get mem j with
  | some b => match asBlk (MT K E) b with
   | some row => some (row, true)
   | none => none
  | none => none
def Dk.rdR (mem : Mem) : (D : Dk) → D.ty.den → Option (D.den × Bool)
 | .v _, x => some (x, true)
 | .own _ e, q => ownRdR mem e q
 | .mp _ K E, q => mpRdR mem K E q
 | .pr a b, x => match a.rdR mem x.1, b.rdR mem x.2 with
  | some (y, c), some (z, d) => some ((y, z), c && d)
  | _, _ => none
def obRdR (mem : Mem) (D : Dk) (b : Blk) : Option (D.den × Bool) :=
 if h : b.t = D.ty then (match D.rdR mem (h ▸ b.row.getD 0 (GX.dflt b.t)) with
  | some (x, c) => some (x, Nat.beq b.n 1 && c)
  | none => none) else none
def obMemR (D : Dk) (x : D.den) : Mem := (0, ⟨D.ty, 1, [D.mk x], false⟩) :: D.blksR x
def smR (D : Dk) (rp : List Nat) (ts : List Ty) (T : Ty) (v : D.den → AD ts → T.den) (k : D.den → AD ts → Bool) : Sm := fun args mem nxt =>
 match args with
 | ⟨.ptr, some p⟩ :: rest => bif decide (p.path = rp) then (match Mem.getC mem p.id with
  | some b => match obRdR mem D b, asTs ts rest with
   | some (x, c), some z => bif plainT T then some (⟨T, v x z⟩, mem, nxt, k x z && c) else none
   | _, _ => none
  | none => none) else none
 | _ => none
def BlkAtR (B : Nat) (ψ : Phi) (w : World) (i : Nat) (b : Blk) : Prop := (ψ i = none ∧ b.n = 0) ∨ ∃ ph, ψ i = some ph ∧ BlkRel B ψ ph b w
theorem own_soundR {base B : Nat} {φ ψ : Phi} {mem : Mem} {nxt : Nat} {w : World} (hm : MemRel base φ mem nxt w) (himm : ψ.imm = φ.imm) {e : Ty} (hT : valT e = true) {q : Option SL} {y : List e.den} (h : ownRdR mem e q = some (y, true)) {v : Value}
 (hv : CR φ (.c0 (.slice q)) v) {c : Nat} (hc : ψ c = qPhO φ q v e) :
 SR ψ ⟨c, [], 0, y.length, none⟩ v ∧ BlkAtR B ψ w c ⟨e, y.length, y, false⟩ := by
 unfold CR at hv
 cases q with
 | none =>
  simp only [ownRdR, Option.some.injEq, Prod.mk.injEq] at h
  obtain ⟨rfl, _⟩ := h
  have hv : v = .slice none 0 0 := hv
  exact ⟨.inl ⟨rfl, rfl, hv⟩, .inl ⟨hc, rfl⟩⟩
 | some q =>
  have hvv : SR φ q v := hv
  have hc : ψ c = qPh φ q v e := hc
  simp only [ownRdR] at h
  split at h
  ·rename_i b hqp hb
   obtain ⟨hb, hbnt⟩ := Mem.getC_spec hb
   unfold ownBR at h
   split at h
   ·rename_i hbt
    simp only [Option.some.injEq, Prod.mk.injEq] at h
    obtain ⟨rfl, hok⟩ := h
    obtain ⟨hmk, hok⟩ := and_split hok
    have hnv : ¬ VD q := VD.start (by simpa using hmk)
    have hle := of_decide_eq_true hok
    obtain ⟨bt, bn, brow, bwr⟩ := b
    simp only at hbt hle
    subst hbt
    have empty : qPh φ q v bt = none → q.len = 0 → SR ψ ⟨c, [], 0, (sec (GX.dflt bt) brow q.start q.len).length, none⟩ v → SR ψ ⟨c, [], 0, (sec (GX.dflt bt) brow q.start q.len).length, none⟩ v ∧ BlkAtR B ψ w c ⟨bt, (sec (GX.dflt bt) brow q.start q.len).length, sec (GX.dflt bt) brow q.start q.len, false⟩ :=
     fun h1 h2 h3 => ⟨h3, .inl ⟨hc.trans h1, by show (sec _ _ _ _).length = 0; rw [length_sec]; exact h2⟩⟩
    rcases hvv with ⟨hl0, _, hv⟩ | ⟨ad, cc, hv, hlc, hck, hcn, had⟩
    ·exact empty (by unfold qPh; rw [hv]; cases φ q.id <;> rfl) hl0 (.inl ⟨by simp only [length_sec]; exact hl0, rfl, hv⟩)
    ·rcases Nat.eq_zero_or_pos cc with h0 | hpos
     ·have hl0 : q.len = 0 := by omega
      refine empty (by unfold qPh; rw [hv]; cases φ q.id <;> simp [h0]) hl0 (.inr ⟨ad, cc, ?_, ?_, fun k hk => (by cases hk), fun _ hc _ => (by omega), fun hc _ => (by omega)⟩)
      ·simp only [length_sec]; exact hv
      ·simp only [length_sec]; exact hlc
     ·have ha := had hpos hnv
      obtain ⟨ph, hph⟩ := addr_phys ha
      simp only at hph
      have hbr := hm.blkAt hb hph
      obtain ⟨cs, el, fr, g1, g2, g3⟩ := hbr.cells hbnt
      have hsome : ψ c = some ⟨ph.blk, ph.off + q.start * size bt, bt, cc⟩ := by
       rw [hc]; unfold qPh; rw [hph, hv]; simp only; rw [if_pos hpos]
      have hadd : ad = ⟨ph.blk, ph.off + q.start * size bt, none⟩ := by
       unfold addr at ha
       have h00 : offs bt [] = some 0 := by cases bt <;> rfl
       simp only [hph, hqp, List.nil_append, hbr.t] at ha
       simp only [offs, h00, Option.map_some, Nat.add_zero, Option.some.injEq] at ha
       exact ha.symm
      have hnb : BlkRel B ψ ⟨ph.blk, ph.off + q.start * size bt, bt, cc⟩ ⟨bt, (sec (GX.dflt bt) brow q.start q.len).length, sec (GX.dflt bt) brow q.start q.len, false⟩ w := by
       refine ⟨rfl, fun e => (by cases e), MpRel.plain hbnt _, fun _ => ⟨cs, el, fr, g1, fun k d hk => ?_, fun e => (by cases e)⟩⟩
       have hk0 : (flat (.arr q.len bt) (sec (GX.dflt bt) brow q.start q.len))[k]? = some d := by
        have hk' : (flat (.arr (sec (GX.dflt bt) brow q.start q.len).length bt) (sec (GX.dflt bt) brow q.start q.len))[k]? = some d := hk
        rwa [length_sec] at hk'
       have hlt := (List.getElem?_eq_some_iff.1 hk0).1
       rw [length_flat, size] at hlt
       have hposz : 0 < size bt := by
        rcases Nat.eq_zero_or_pos (size bt) with h0 | h0
        ·rw [h0] at hlt; omega
        ·exact h0
       have hq : k / size bt < q.len := Nat.div_lt_of_lt_mul (by rw [Nat.mul_comm]; exact hlt)
       have hrr : k % size bt < size bt := Nat.mod_lt _ hposz
       have hkk : k = k / size bt * size bt + k % size bt := by rw [Nat.mul_comm]; exact (Nat.div_add_mod k (size bt)).symm
       have hk1 := hk0
       rw [flat, hkk, get_flatMap_const _ (size bt) (fun i => length_flat bt _) _ _ _ hq hrr, getD_sec _ _ _ _ _ hq] at hk1
       obtain ⟨v', hv', hvr⟩ := g2 ((q.start + k / size bt) * size bt + k % size bt) d (by
        show (flat (.arr bn bt) brow)[_]? = some d
        rw [flat, get_flatMap_const _ (size bt) (fun i => length_flat bt _) _ _ _ (by omega) hrr]; exact hk1)
       refine ⟨v', ?_, CR_imm2 himm (t := bt) hT hk1 hvr⟩
       rw [← hv']
       congr 1
       show ph.off + q.start * size bt + k = _
       rw [Nat.add_mul]; omega
      refine ⟨.inr ⟨ad, cc, by simp only [length_sec]; exact hv, by simp only [length_sec]; exact hlc, fun k hk => (by cases hk), fun _ _ _ => ⟨_, hsome, rfl, by simp⟩, fun _ _ => ?_⟩, .inr ⟨_, hsome, hnb⟩⟩
      unfold addr
      simp only [hsome]
      have h00 : offs bt [] = some 0 := by cases bt <;> rfl
      simp [offs, h00, hadd]
   ·cases h
  ·cases h
theorem mp_soundR {base B : Nat} {φ ψ : Phi} {mem : Mem} {nxt : Nat} {w : World} (hm : MemRel base φ mem nxt w) (himm : ψ.imm = φ.imm) {K E : Ty} (hK : valT K = true) (hE : valT E = true) {q : Option Nat} {y : List (MT K E).den} (h : mpRdR mem K E q = some (y, true)) {v : Value}
 (hv : CR φ (.c0 (.map q)) v) {c : Nat} (hc : ψ c = mPhO φ q) :
 CR ψ (.c0 (.map (some c))) v ∧ BlkAtR B ψ w c ⟨MT K E, 0, y, false⟩ := by
 unfold CR at hv ⊢
 cases q with
 | none => cases h
 | some j =>
  simp only [mpRdR] at h
  split at h
  ·rename_i b hb
   split at h
   ·rename_i row hrow
    simp only [Option.some.injEq, Prod.mk.injEq] at h
    obtain ⟨rfl, _⟩ := h
    have hbe := asBlk_eq hrow
    obtain ⟨ph, hp, hvv⟩ := hv
    have hbr := hm.blkAt hb hp
    have hcs : ψ c = some ph := by rw [hc]; exact hp
    have hmp := hbr.mp
    have ht := hbr.t
    rw [hbe] at hmp ht
    refine ⟨⟨ph, hcs, hvv⟩, .inr ⟨ph, hcs, ⟨ht, fun hw => (by cases hw), ?_, fun ht => by cases ht⟩⟩⟩
    obtain ⟨es, clock, h1, h2, h3, h4⟩ := hmp
    exact ⟨es, clock, h1, h2, fun i x hx => (by
     obtain ⟨e, he, k1, k2⟩ := h3 i x hx
     exact ⟨e, he, V1_imm2 himm hK k1, V1_imm2 himm hE k2⟩), h4⟩
   ·cases h
  ·cases h
theorem Dk.soundR {base B : Nat} {φ ψ : Phi} {mem : Mem} {nxt : Nat} {w : World} (hm : MemRel base φ mem nxt w) (himm : ψ.imm = φ.imm) {val : Nat → Value} :
 ∀ {D : Dk} {x0 : D.ty.den} {y : D.den} {k0 : Nat}, D.rdR mem x0 = some (y, true) → D.plain = true → noDup D.nms = true →
  (∀ j c, (flat D.ty x0)[j]? = some c → CR φ c (val (k0 + j))) → (∀ c ∈ D.nms, ψ c = D.ph φ val x0 k0 c) →
  (∀ j c, (flat D.ty (D.mk y))[j]? = some c → CR ψ c (val (k0 + j))) ∧ (∀ i b, Mem.get (D.blksR y) i = some b → BlkAtR B ψ w i b ∧ b.wr = false)
 | .v t, x0, y, k0, h, hp, hd, hc, hn => by
  simp only [Dk.rdR, Option.some.injEq, Prod.mk.injEq] at h
  obtain ⟨rfl, _⟩ := h
  refine ⟨fun j c hj => CR_imm2 himm (t := t) hp hj (hc j c hj), fun i b hi => ?_⟩
  simp [Dk.blksR, Mem.get] at hi
 | .own c e, x0, y, k0, h, hp, hd, hc, hn => by
  have h0 := hc 0 (.c0 (.slice x0)) rfl
  obtain ⟨h1, h2⟩ := own_soundR (B := B) hm himm hp h h0 (c := c) (by
   rw [hn c (by simp [Dk.nms])]
   rfl)
  refine ⟨fun j d hj => ?_, fun i b hi => ?_⟩
  ·cases j with
   | zero =>
    simp only [Dk.mk, flat, List.getElem?_cons_zero, Option.some.injEq] at hj
    subst hj
    unfold CR
    exact h1
   | succ j => simp [Dk.mk, flat] at hj
  ·simp only [Dk.blksR, Mem.get_cons] at hi
   by_cases e : i = c
   ·rw [if_pos e] at hi; cases hi; subst e; exact ⟨h2, rfl⟩
   ·rw [if_neg e] at hi; cases hi
 | .mp c K E, x0, y, k0, h, hp, hd, hc, hn => by
  have h0 := hc 0 (.c0 (.map x0)) rfl
  obtain ⟨hK, hE⟩ := and_split hp
  obtain ⟨h1, h2⟩ := mp_soundR (B := B) hm himm hK hE h h0 (c := c) (by
   rw [hn c (by simp [Dk.nms])]
   rfl)
  refine ⟨fun j d hj => ?_, fun i b hi => ?_⟩
  ·cases j with
   | zero =>
    simp only [Dk.mk, flat, List.getElem?_cons_zero, Option.some.injEq] at hj
    subst hj
    exact h1
   | succ j => simp [Dk.mk, flat] at hj
  ·simp only [Dk.blksR, Mem.get_cons] at hi
   by_cases e : i = c
   ·rw [if_pos e] at hi; cases hi; subst e; exact ⟨h2, rfl⟩
   ·rw [if_neg e] at hi; cases hi
 | .pr a b, x0, y, k0, h, hp, hd, hc, hn => by
  simp only [Dk.rdR] at h
  split at h
  ·rename_i y1 c1 y2 c2 ha hb
   simp only [Option.some.injEq, Prod.mk.injEq] at h
   obtain ⟨rfl, hok⟩ := h
   obtain ⟨rfl, rfl⟩ := and_split hok
   obtain ⟨hpa, hpb⟩ := and_split hp
   obtain ⟨hda, hdb, hdis⟩ := noDup_append hd
   obtain ⟨a1, a2⟩ := Dk.soundR (B := B) hm himm (D := a) (k0 := k0) ha hpa hda (fun j c hj => hc j c (by
    simp only [flat]
    rw [List.getElem?_append_left (List.getElem?_eq_some_iff.1 hj).1]; exact hj)) (fun c hcm => by
    rw [hn c (by simp [Dk.nms, hcm])]
    simp only [Dk.ph, if_pos hcm])
   obtain ⟨b1, b2⟩ := Dk.soundR (B := B) hm himm (D := b) (k0 := k0 + size a.ty) hb hpb hdb (fun j c hj => by
    have := hc (size a.ty + j) c (by
     simp only [flat]
     rw [List.getElem?_append_right (by rw [length_flat]; omega), length_flat]
     rw [show size a.ty + j - size a.ty = j by omega]; exact hj)
    rwa [← Nat.add_assoc] at this) (fun c hcm => by
    rw [hn c (by simp [Dk.nms, hcm])]
    simp only [Dk.ph]
    rw [if_neg (fun h => hdis c h hcm)])
   refine ⟨fun j c hj => ?_, fun i b' hi' => ?_⟩
   ·simp only [Dk.mk, flat] at hj
    rcases Nat.lt_or_ge j (size a.ty) with hlt | hge
    ·rw [List.getElem?_append_left (by rw [length_flat]; exact hlt)] at hj
     exact a1 j c hj
    ·rw [List.getElem?_append_right (by rw [length_flat]; exact hge), length_flat] at hj
     have := b1 (j - size a.ty) c hj
     rwa [show k0 + size a.ty + (j - size a.ty) = k0 + j by omega] at this
   ·simp only [Dk.blksR, Mem.get_append] at hi'
    split at hi'
    ·rename_i x hx
     cases hi'
     exact a2 i b' hx
    ·exact b2 i b' hi'
  ·cases h
def ObjRd (P : Program) (f : Nat) (D : Dk) (rp : List Nat) (n1 : Nat) (args : List V) (x : D.den) (v : V) : Prop :=
 ∀ φ w xs, MemRel w.heap.size φ (obMemR D x) n1 w → AR φ (⟨.ptr, some ⟨0, rp⟩⟩ :: args) xs →
  Calls P f xs w fun e w' => ∃ ψ z, e = .returned z ∧ Below w.heap.size w w' ∧ VR ψ v z
theorem SmOK.smR {P : Program} {f : Nat} {D : Dk} {rp : List Nat} {n1 : Nat} {ts : List Ty} {T : Ty} {v : D.den → AD ts → T.den} {k : D.den → AD ts → Bool}
 (hplain : D.plain = true) (hnd : noDup D.nms = true) (hlt : ∀ c ∈ D.nms, 1 ≤ c ∧ c < n1) (hn1 : 1 ≤ n1) (hts : ts.all valT = true)
 (h : ∀ x z, k x z = true → ObjRd P f D rp n1 (mkA ts z) x ⟨T, v x z⟩) : SmOK P f (GX.smR D rp ts T v k) := by
 intro args mem nxt u mem' nxt' hg base φ w xs hm hA
 unfold GX.smR at hg
 split at hg
 ·rename_i p rest
  cases hpath : decide (p.path = rp) <;> rw [hpath] at hg
  ·cases hg
  have hpath := of_decide_eq_true hpath
  simp only [cond_true] at hg
  split at hg
  ·rename_i b hb
   split at hg
   ·rename_i x c z hob has
    cases hT : plainT T <;> rw [hT] at hg
    ·cases hg
    simp only [cond_true, Option.some.injEq, Prod.mk.injEq] at hg
    obtain ⟨rfl, rfl, rfl, hkc⟩ := hg
    obtain ⟨hk, rfl⟩ := and_split hkc
    have hb1 := hb
    obtain ⟨hb0, hbnt⟩ := Mem.getC_spec hb
    unfold obRdR at hob
    split at hob
    ·rename_i ht
     split at hob
     ·rename_i x' c' hrd
      simp only [Option.some.injEq, Prod.mk.injEq] at hob
      obtain ⟨rfl, hok⟩ := hob
      obtain ⟨hn, rfl⟩ := and_split hok
      obtain ⟨bt, bn, brow, bwr⟩ := b
      simp only at ht hn hbnt hrd
      have hn := Nat.eq_of_beq_eq_true hn
      subst hn
      subst ht
      rcases hm.blk p.id _ hb0 with ⟨_, h0⟩ | ⟨ph, hph, hbr⟩
      ·simp at h0
      ·obtain ⟨cs, el, fr, g1, g2, g3⟩ := hbr.cells hbnt
       let φ1 : Phi := ⟨fun j => if j = 0 then φ p.id else if j ∈ D.nms then obPh φ mem w p.id D j else none, φ.imm, w.heap.size⟩
       have h00 : φ1 0 = φ p.id := rfl
       have h0n : ∀ c ∈ D.nms, φ1 c = obPh φ mem w p.id D c := fun c hc => by
        show (if c = 0 then _ else if c ∈ D.nms then _ else none) = _
        rw [if_neg (by have := hlt c hc; omega), if_pos hc]
       have hval : ∀ k, cellAt w ph.blk k = (cs[k]?).getD undef := fun k => by unfold cellAt; rw [g1]
       have e1 : ∀ z : D.ty.den, flat (.arr 1 D.ty) [z] = flat D.ty z := fun z => by simp [flat, List.range_succ]
       have e2 : flat (.arr 1 D.ty) brow = flat D.ty (brow.getD 0 (GX.dflt D.ty)) := by simp [flat, List.range_succ]
       obtain ⟨s1, s2⟩ := Dk.soundR (B := w.heap.size) (ψ := φ1) hm rfl (val := fun k => cellAt w ph.blk (ph.off + k)) (k0 := 0) hrd hplain hnd (fun j d hj => by
        obtain ⟨v, hv, hx⟩ := g2 j d (by show (flat (.arr 1 D.ty) brow)[j]? = some d; rw [e2]; exact hj)
        show CR φ d (cellAt w ph.blk (ph.off + (0 + j)))
        rw [Nat.zero_add, hval, hv]; exact hx) (fun d hd => by
        rw [h0n d hd]
        unfold obPh
        rw [hph, hb1]
        simp)
       have hall : ∀ j b', Mem.get (obMemR D x') j = some b' → BlkAtR w.heap.size φ1 w j b' ∧ b'.wr = false := by
        intro j b' hj
        simp only [obMemR, Mem.get_cons] at hj
        by_cases e : j = 0
        ·rw [if_pos e] at hj
         cases hj
         subst e
         refine ⟨.inr ⟨ph, h00.trans hph, hbr.t, fun e => (by cases e), MpRel.plain hbnt _, fun _ => ⟨cs, el, fr, g1, fun k d hk => ?_, fun e => (by cases e)⟩⟩, rfl⟩
         have hk' : (flat D.ty (D.mk x'))[k]? = some d := by rw [← e1]; exact hk
         have hx := s1 k d hk'
         have hx : CR φ1 d (cellAt w ph.blk (ph.off + (0 + k))) := hx
         rw [Nat.zero_add, hval] at hx
         have hlt := (List.getElem?_eq_some_iff.1 hk').1
         obtain ⟨d0, hd0⟩ : ∃ d0, (flat D.ty (brow.getD 0 (GX.dflt D.ty)))[k]? = some d0 := by
          refine ⟨_, List.getElem?_eq_getElem (by rw [length_flat]; rw [length_flat] at hlt; exact hlt)⟩
         obtain ⟨v, hv, _⟩ := g2 k d0 (by show (flat (.arr 1 D.ty) brow)[k]? = some d0; rw [e2]; exact hd0)
         rw [hv] at hx
         exact ⟨v, hv, hx⟩
        ·rw [if_neg e] at hj
         exact s2 j b' hj
       have M1 : MemRel w.heap.size φ1 (obMemR D x') n1 w := by
        refine ⟨fun j b' hj => (hall j b' hj).1, fun i j b b' ph ph' hi hj hij hw => ?_, fun j ph hj => ?_, rfl, Nat.le_refl _, fun k o hk => hm.imm k o hk⟩
        ·rw [(hall i b hi).2] at hw; cases hw
        ·have hj : (if j = 0 then φ p.id else if j ∈ D.nms then obPh φ mem w p.id D j else none) = some ph := hj
         by_cases e : j = 0
         ·rw [if_pos e] at hj; exact ⟨by omega, (hm.fresh _ _ hj).2⟩
         ·rw [if_neg e] at hj
          by_cases e2 : j ∈ D.nms
          ·rw [if_pos e2] at hj; exact ⟨(hlt j e2).2, obPh_lt (fun i ph h => (hm.fresh i ph h).2) hj⟩
          ·rw [if_neg e2] at hj; cases hj
       have A1 : AR φ1 (⟨.ptr, some ⟨0, rp⟩⟩ :: mkA ts z) xs := by
        rw [AR_iff] at hA ⊢
        cases hxs : xs.toList with
        | nil => rw [hxs] at hA; exact absurd hA.1 (by simp)
        | cons y ys =>
         rw [hxs] at hA
         have h0 : VR φ ⟨.ptr, some p⟩ y := by
          obtain ⟨q, hq, hr⟩ := hA.2 0 _ rfl
          simp at hq; subst hq; exact hr
         have hl : ARL φ rest ys := ⟨by simpa using hA.1, fun i u hi => by simpa using hA.2 (i + 1) u (by simpa using hi)⟩
         have hl := asTs_AR has hl
         refine ARL.cons ?_ ⟨hl.1, fun i u hi => ?_⟩
         ·obtain ⟨ad, had, hav⟩ := VR_ptr.1 h0
          refine VR_ptr.2 ⟨ad, ?_, hav⟩
          rw [← had]
          unfold addr
          rw [hpath]
          rfl
         ·obtain ⟨q, hq, hr⟩ := hl.2 i u hi
          exact ⟨q, hq, valV_ok (φ := φ) (ψ := φ1) (fun _ _ h => h) (by unfold valV; rw [mkA_val hts hi]; rfl) hr⟩
       refine (h x' z hk φ1 w xs M1 A1).mono ?_
       rintro e w' ⟨χ, zv, rfl, hbw, hV⟩
       exact ⟨φ, zv, rfl, Phi.le_refl _, hm.same (Below.same hbw (Nat.le_refl _)) (Nat.le_refl _), hbw.mono hm.base, plainV_ok (φ := χ) (ψ := φ) (by unfold plainV; rw [hT]; rfl) hV⟩
     ·cases hob
    ·cases hob
   ·cases hg
  ·cases hg
 ·cases hg
def fnR (C : Cx) (fn : Func) (D : Dk) (rp : List Nat) (n1 : Nat) (T : Ty) (args : List V) (x : D.den) : Option T.den :=
 match fn.body with
 | none => none
 | some c => bif Nat.ble (args.length + 1) fn.ntmps then
  codeT C c ⟨putArgs (⟨.ptr, some ⟨0, rp⟩⟩ :: args) 0 .lf, fn.ntmps, obMemR D x, n1, true⟩ fun e s => match e with
   | .exit _ => none
   | .goto _ => none
   | .pan _ _ => none
   | _ => match resY C.Θ fn s with
    | some (v, s', c) => bif c then asT T v else none
    | none => none
  else none
theorem fnR_ok {P : Program} {C : Cx} (hC : CxOK P C) {fn : Func} {f : Nat} (hf : P.funcs[f]? = some fn) {D : Dk} {rp : List Nat} {n1 : Nat} {T : Ty} {args : List V} {x : D.den} {y : T.den} (hL : ∀ c, fn.body = some c → LOK P C 0 c)
 (h : fnR C fn D rp n1 T args x = some y) : ObjRd P f D rp n1 args x ⟨T, y⟩ := by
 intro φ w xs hm hA
 unfold fnR at h
 split at h
 ·cases h
 ·rename_i c hc
  cases hb : Nat.ble (args.length + 1) fn.ntmps <;> rw [hb] at h
  ·cases h
  ·simp only [cond_true] at h
   have hle := Nat.le_of_ble_eq_true hb
   refine calls_of_wp hf hc (codeT_ok hC (hL c hc) (base := w.heap.size) (φ := φ) (fun e s hs => ?_) h ⟨fun s u c' hs => ?_, by simp [hA.1]; omega, hm, rfl⟩ ?_)
   ·split at hs
    ·cases hs
    ·cases hs
    ·cases hs
    ·split at hs
     ·rename_i v s' c hres
      cases hk : c <;> rw [hk] at hs hres
      ·cases hs
      ·unfold resY at hres
       split at hres
       ·simp only [Option.some.injEq, Prod.mk.injEq] at hres
        exact pubs_mono (and_split hres.2.2).2
       ·cases hres
     ·cases hs
   ·rcases putArgs_get hs with ⟨hc', _, hg⟩ | hg
    ·subst hc'
     simp only [Nat.sub_zero] at hg
     obtain ⟨x, hx, hr⟩ := hA.2 s u hg
     refine ⟨fun _ => ?_, fun e => by cases e⟩
     have hsz : s < xs.size := (Array.getElem?_eq_some_iff.1 hx).1
     rw [Array.getD_eq_getD_getElem?, Array.getElem?_append_left hsz, hx]
     exact hr
    ·simp [Tr.get] at hg
   ·intro e0 e s ψ a' w' he h1 hr' hb' h4
    have post : a'.defers = [] ∧ ∃ z, (results fn a'.tmps).run P w' = .ok z w' ∧ (∃ ψ z', Ending.returned z = .returned z' ∧ Below w.heap.size w w' ∧ VR ψ ⟨T, y⟩ z') := by
     have h4 : (match resY C.Θ fn s with | some (v, s', c) => bif c then asT T v else none | none => none) = some y := by
      rcases EX_of he with ⟨rfl, rfl⟩ | ⟨j, rfl, rfl⟩ | ⟨rfl, rfl⟩ | ⟨j, rfl, rfl⟩ | ⟨_, _, rfl, rfl⟩
      ·exact h4
      ·cases h4
      ·exact h4
      ·cases h4
      ·cases h4
     split at h4
     ·rename_i v s' cc hres
      cases hk : cc <;> rw [hk] at h4 hres
      ·cases h4
      ·simp only [cond_true] at h4
       have hv := asT_eq h4
       subst hv
       obtain ⟨χ, hχ, hr2, _, z, hrun, hz⟩ := resY_ok hC.Θ hr' hres
       exact ⟨hr'.defers, z, hrun, χ, z, rfl, hb', hz⟩
     ·cases h4
    rcases EX_of he with ⟨rfl, rfl⟩ | ⟨j, rfl, rfl⟩ | ⟨rfl, rfl⟩ | ⟨j, rfl, rfl⟩ | ⟨_, _, rfl, rfl⟩
    ·exact post
    ·cases h4
    ·exact post
    ·cases h4
    ·cases h4
theorem SmOK.ofR {P : Program} {C : Cx} (hC : CxOK P C) {fn : Func} {f : Nat} (hf : P.funcs[f]? = some fn) {D : Dk} {rp : List Nat} {n1 : Nat} {ts : List Ty} {T : Ty} {S : D.den → AD ts → Option T.den} (hL : ∀ c, fn.body = some c → LOK P C 0 c)
 (hplain : D.plain = true) (hnd : noDup D.nms = true) (hlt : ∀ c ∈ D.nms, 1 ≤ c ∧ c < n1) (hn1 : 1 ≤ n1) (hts : ts.all valT = true) (h : ∀ x z, fnR C fn D rp n1 T (mkA ts z) x = S x z) :
 SmOK P f (GX.smR D rp ts T (fun x z => (S x z).getD (dflt T)) (fun x z => (S x z).isSome)) := by
 refine SmOK.smR hplain hnd hlt hn1 hts (fun x z hk => ?_)
 cases hs : S x z with
 | none => rw [hs] at hk; cases hk
 | some y => exact fnR_ok hC hf hL ((h x z).trans hs)
end Go.GX

namespace Go.GX
set_option linter.unusedSimpArgs false
set_option linter.unusedVariables false
set_option linter.unusedSectionVars false
open Go.RowKit (Below)
def endK (Θ : Tab) (fn : Func) (T : Ty) : X → St → Option T.den := fun e s => match e with
 | .exit _ => none
 | .goto _ => none
 | .pan _ _ => none
 | _ => match resY Θ fn s with
  | some (v, _, c) => bif c then asT T v else none
  | none => none
theorem run_eqlNil {P : Program} {T eT : Nat} {a : Act} {w : World} {x : Operand} {ad : Option Addr} {n c : Nat} {T' : Nat} {dst : Option Tmp} {type : TypeId} {pos : String} {after : Array Edge} {guard : Option (Nat × Bool)}
 (hT : P.underlying T = some (.slice eT)) (hx : a.eval x = .slice ad n c) :
 (execOp a.eval ⟨dst, .binOp .eql T x (.const (.slice none 0 0)) T', type, pos, after, guard⟩).run P w = .ok (.value (.bool ad.isNone)) w := by
 have hc : a.eval (.const (.slice none 0 0)) = .slice none 0 0 := rfl
 simp only [execOp, Sem.run_bind, hx, hc, run_eqGuard_other (P := P) (op := .eql) (t := T) (ox := x) (oy := .const (.slice none 0 0)) w (a := .slice ad n c) (by simp) (by simp), Result.andThen]
 rw [run_binOp_equal (e := true) rfl (by simp) (by simp) (by simp) (by simp) (run_equal_slicenil hT)]
 simp
def clOp (b : Option Code) (k : Nat) : Oper := match b with
 | some (.seq (.region _ a _) (.seq (.seq (.region _ c _) _) _)) => ((a.toList ++ c.toList).drop k).headD ⟨none, .move (.tmp 0), 0, "", #[], none⟩
 | _ => ⟨none, .move (.tmp 0), 0, "", #[], none⟩
def clThn (b : Option Code) : Code := match b with
 | some (.seq _ (.seq (.seq _ (.cond _ t _)) _)) => t
 | _ => .skip
def clTail (b : Option Code) : Code := match b with
 | some (.seq _ (.seq _ t)) => t
 | _ => .skip
theorem clone_pure {P : Program} {C : Cx} (hC : CxOK P C) {fn : Func} {f : Nat} (hf : P.funcs[f]? = some fn) {te : Ty} {T T' eT i0 i1 : Nat} {o2 o3 o4 : Oper} {thn tail : Code}
 (hb : fn.body = some (.seq (.region i0 #[o2] false) (.seq (.seq (.region i1 #[o3, o4] false) (.cond (.tmp 4) thn .skip)) tail)))
 (h2 : o2.op = .assign (.const (.slice none 0 0)) ∧ o2.dst = some 2 ∧ o2.guard = none) (h3 : o3.op = .move (.tmp 0) ∧ o3.dst = some 3 ∧ o3.guard = none)
 (h4 : o4.op = .binOp .eql T (.tmp 3) (.const (.slice none 0 0)) T' ∧ o4.dst = some 4 ∧ o4.guard = none)
 (hT : P.underlying T = some (.slice eT)) (hn : fn.ntmps = 8) (hte : valT te = true) {l : List te.den}
 (hnil : l = [] → PureOK P f [⟨.slice, none⟩] ⟨.vsl te, l⟩) (hL : LOK P C 0 tail)
 (h : codeT C tail ⟨putArgs [⟨.vsl te, l⟩] 0 .lf, 8, [], 0, true⟩ (endK C.Θ fn (.vsl te)) = some l) : PureOK P f [⟨.vsl te, l⟩] ⟨.vsl te, l⟩ := by
 intro φ w xs hI hA
 obtain ⟨v, hxs, hv⟩ : ∃ v, xs = #[v] ∧ VR φ ⟨.vsl te, l⟩ v := by
  have h1 := hA.1
  obtain ⟨v, hv, hr⟩ := hA.2 0 _ rfl
  refine ⟨v, ?_, hr⟩
  apply Array.ext'
  have hl : xs.toList.length = 1 := by simpa using h1
  match hx : xs.toList, hl with
  | [u], _ =>
   have : xs.toList[0]? = some v := by simpa using hv
   rw [hx] at this
   simp at this
   rw [this]
 subst hxs
 have hv0 := hv
 have hv := VR_vsl.1 hv
 unfold CR at hv
 rcases hv with ⟨hl0, hvn⟩ | ⟨ad, cc, hvs, hlc, himm⟩
 ·have hl : l = [] := List.length_eq_zero_iff.1 hl0
  refine hnil hl φ w #[v] hI ⟨rfl, fun i u hi => ?_⟩
  cases i with
  | zero => simp at hi; subst hi; exact ⟨v, rfl, VR_nilslice.2 hvn⟩
  | succ i => simp at hi
 ·let φ0 : Phi := φ.bare w.heap.size
  have hvv : VR φ0 ⟨.vsl te, l⟩ v := valV_ok (φ := φ) (ψ := φ.bare w.heap.size) (fun _ _ h => h) (by unfold valV; simp [valT, hte]) hv0
  have fin : ∀ a1 : Act, a1.tmps.size = 8 → a1.defers = [] → a1.tmps.getD 0 undef = v → tail.wp P (bodyPost P fn fun e w' => ∃ ψ m n x, e = .returned x ∧ (φ.bare w.heap.size).le ψ ∧ MemRel w.heap.size ψ m n w' ∧ VR ψ ⟨.vsl te, l⟩ x ∧ Below w.heap.size w w') a1 w := by
   intro a1 hsz hdf h0
   refine codeT_ok hC hL (base := w.heap.size) (φ := φ0) (fun x s hs => ?_) h ⟨fun s u c' hs => ?_, hsz, MemRel.nil w hI, hdf⟩ ?_
   ·unfold endK at hs
    split at hs
    ·cases hs
    ·cases hs
    ·cases hs
    ·split at hs
     ·rename_i v s' c hres
      cases hk : c <;> rw [hk] at hs hres
      ·cases hs
      ·unfold resY at hres
       split at hres
       ·simp only [Option.some.injEq, Prod.mk.injEq] at hres
        exact pubs_mono (and_split hres.2.2).2
       ·cases hres
     ·cases hs
   ·rcases putArgs_get hs with ⟨hc', _, hg⟩ | hg
    ·subst hc'
     cases s with
     | zero => simp at hg; subst hg; exact ⟨fun _ => by rw [h0]; exact hvv, fun e => by cases e⟩
     | succ s => simp at hg
    ·simp [Tr.get] at hg
   ·intro x e s ψ a' w' he h1 hr' hb' h4
    have post : a'.defers = [] ∧ ∃ z, (results fn a'.tmps).run P w' = .ok z w' ∧ (∃ ψ m n x, Ending.returned z = .returned x ∧ (φ.bare w.heap.size).le ψ ∧ MemRel w.heap.size ψ m n w' ∧ VR ψ ⟨.vsl te, l⟩ x ∧ Below w.heap.size w w') := by
     have h4 : (match resY C.Θ fn s with | some (v, _, c) => bif c then asT (.vsl te) v else none | none => none) = some l := by
      rcases EX_of he with ⟨rfl, rfl⟩ | ⟨j, rfl, rfl⟩ | ⟨rfl, rfl⟩ | ⟨j, rfl, rfl⟩ | ⟨_, _, rfl, rfl⟩
      ·exact h4
      ·cases h4
      ·exact h4
      ·cases h4
      ·cases h4
     split at h4
     ·rename_i v s' cc hres
      cases hk : cc <;> rw [hk] at h4 hres
      ·cases h4
      ·simp only [cond_true] at h4
       have hv := asT_eq h4
       subst hv
       obtain ⟨χ, hχ, hr2, _, z, hrun, hz⟩ := resY_ok hC.Θ hr' hres
       exact ⟨hr'.defers, z, hrun, χ, _, _, _, rfl, Phi.le_trans (h1.toLe (fun i p hp => by cases hp)) hχ, hr2.mem, hz, hb'⟩
     ·cases h4
    rcases EX_of he with ⟨rfl, rfl⟩ | ⟨j, rfl, rfl⟩ | ⟨rfl, rfl⟩ | ⟨j, rfl, rfl⟩ | ⟨_, _, rfl, rfl⟩
    ·exact post
    ·cases h4
    ·exact post
    ·cases h4
    ·cases h4
  refine calls_of_wp hf hb ?_
  refine wp_seq (wp_region_list ?_)
  have st2 : ∀ (o : Oper) (x : Operand) (y : Value) (a : Act) (w : World) (ops : Array Oper) (r : List Oper) (Q : Exit → Act → World → Prop), o.guard = none → (o.op = .assign x ∨ o.op = .move x) → wpList P ops Q r (a.put o.dst (a.eval x)) w → wpList P ops Q (o :: r) a w := by
   intro o x y a w ops r Q hg ho hr
   rw [wpList, if_pos (by simp [Region.wanted, hg])]
   rcases ho with ho | ho
   ·exact .inl (by unfold Oper.wp execOp; rw [ho]; exact hr)
   ·exact .inl (by unfold Oper.wp execOp; rw [ho]; exact hr)
  refine st2 o2 _ v _ _ _ _ _ h2.2.2 (.inl h2.1) ?_
  show (Code.seq _ tail).wp P _ _ _
  refine wp_seq ?_
  refine wp_seq (wp_region_list ?_)
  refine st2 o3 _ v _ _ _ _ _ h3.2.2 (.inr h3.1) ?_
  rw [wpList, if_pos (by simp [Region.wanted, h4.2.2])]
  refine .inl ?_
  obtain ⟨g1, g2, g3⟩ := h4
  obtain ⟨dst, op, type, pos, after, guard⟩ := o4
  simp only at g1 g2 g3
  subst g1; subst g2; subst g3
  rw [h2.2.1, h3.2.1, hn]
  unfold Oper.wp
  rw [run_eqlNil (ad := some ad) (n := l.length) (c := cc) hT (by rw [← hvs]; rfl)]
  show (Code.cond (.tmp 4) thn .skip).wp P _ _ _
  refine wp_cond_false rfl ?_
  refine wp_skip ?_
  exact fin _ (by simp [Act.put]) (by simp [Act.put]) (by simp [Act.put])
end Go.GX

namespace Go.GX
set_option linter.unusedSimpArgs false
set_option linter.unusedVariables false
set_option linter.unusedSectionVars false
open Go.RowKit (Below)
theorem start_ok {φ : Phi} {w : World} {args : List V} {xs : Array Value} {n : Nat} (hI : ImmOK φ w) (hA : AR φ args xs) (hb : (Nat.ble args.length n && args.all valV) = true) :
 Rel w.heap.size (φ.bare w.heap.size) ⟨putArgs args 0 .lf, n, [], 0, true⟩ { tmps := xs ++ Array.replicate (n - xs.size) undef, defers := [] } w := by
 obtain ⟨hb1, hpa⟩ := and_split hb
 have hle := Nat.le_of_ble_eq_true hb1
 have hA0 : AR (φ.bare w.heap.size) args xs := ⟨hA.1, fun i v hi => by
  obtain ⟨x, hx, hxr⟩ := hA.2 i v hi
  exact ⟨x, hx, valV_ok (φ := φ) (ψ := φ.bare w.heap.size) (fun _ _ h => h) (List.all_eq_true.1 hpa v (List.mem_of_getElem? hi)) hxr⟩⟩
 refine ⟨fun s u c' hs => ?_, by simp [hA.1]; omega, MemRel.nil w hI, rfl⟩
 rcases putArgs_get hs with ⟨hc', _, hg⟩ | hg
 ·subst hc'
  simp only [Nat.sub_zero] at hg
  obtain ⟨x, hx, hr⟩ := hA0.2 s u hg
  refine ⟨fun _ => ?_, fun e => by cases e⟩
  have hsz : s < xs.size := (Array.getElem?_eq_some_iff.1 hx).1
  rw [Array.getD_eq_getD_getElem?, Array.getElem?_append_left hsz, hx]
  exact hr
 ·simp [Tr.get] at hg
theorem resY_okk {Θ : Tab} {fn : Func} {s : St} {v : V} {s' : St} (h : resY Θ fn s = some (v, s', true)) : s.ok = true := by
 unfold resY at h
 split at h
 ·simp only [Option.some.injEq, Prod.mk.injEq] at h
  exact pubs_mono (and_split h.2.2).2
 ·cases h
def endP (Θ : Tab) (t : Nat) (fn : Func) (T : Ty) : X → St → Option (Int ⊕ T.den) := fun x s => match x with
 | .exit _ => none
 | .goto _ => none
 | .pan t' n => bif Nat.beq t' t && s.ok then some (.inl n) else none
 | _ => match resY Θ fn s with
  | some (v, _, c) => bif c then (asT T v).map .inr else none
  | none => none
def fnP (C : Cx) (t : Nat) (fn : Func) (T : Ty) (args : List V) : Option (Int ⊕ T.den) :=
 match fn.body with
 | none => none
 | some c => bif Nat.ble args.length fn.ntmps && args.all valV then codeT C c ⟨putArgs args 0 .lf, fn.ntmps, [], 0, true⟩ (endP C.Θ t fn T) else none
theorem endP_mono {Θ : Tab} {t : Nat} {fn : Func} {T : Ty} {r : Int ⊕ T.den} {x : X} {s : St} (hs : endP Θ t fn T x s = some r) : s.ok = true := by
 unfold endP at hs
 split at hs
 ·cases hs
 ·cases hs
 ·rename_i t' n
  cases hb : (Nat.beq t' t && s.ok) <;> rw [hb] at hs
  ·cases hs
  ·exact (and_split hb).2
 ·split at hs
  ·rename_i v s' c hres
   cases hk : c <;> rw [hk] at hs hres
   ·cases hs
   ·exact resY_okk hres
  ·cases hs
def OutP (P : Program) (f : Nat) (args : List V) (t : Nat) (T : Ty) : Int ⊕ T.den → Prop
 | .inl n => PanOK P f args t n
 | .inr y => PureOK P f args ⟨T, y⟩
def PostP (φ : Phi) (w : World) (t : Nat) (T : Ty) : Int ⊕ T.den → Ending → World → Prop
 | .inl n, e, w' => e = .panicked (chainOf t n) ∧ Below w.heap.size w w'
 | .inr y, e, w' => ∃ ψ m n x, e = .returned x ∧ (φ.bare w.heap.size).le ψ ∧ MemRel w.heap.size ψ m n w' ∧ VR ψ ⟨T, y⟩ x ∧ Below w.heap.size w w'
theorem fnP_ok {P : Program} {C : Cx} (hC : CxOK P C) {fn : Func} {f : Nat} (hf : P.funcs[f]? = some fn) (hL : ∀ c, fn.body = some c → LOK P C 0 c) {t : Nat} {T : Ty} {args : List V} {r : Int ⊕ T.den}
 (h : fnP C t fn T args = some r) : OutP P f args t T r := by
 unfold fnP at h
 split at h
 ·cases h
 ·rename_i c hc
  cases hb : (Nat.ble args.length fn.ntmps && args.all valV) <;> rw [hb] at h
  ·cases h
  ·simp only [cond_true] at h
   have key : ∀ φ w xs, ImmOK φ w → AR φ args xs → Calls P f xs w (PostP φ w t T r) := by
    intro φ w xs hI hA
    refine calls_of_wp hf hc (codeT_ok hC (hL c hc) (base := w.heap.size) (φ := φ.bare w.heap.size) (fun x s hs => endP_mono hs) h (start_ok hI hA hb) ?_)
    intro x e s ψ a' w' he h1 hr' hb' h4
    have post : (match resY C.Θ fn s with | some (v, _, c) => bif c then (asT T v).map Sum.inr else none | none => none) = some r → a'.defers = [] ∧ ∃ z, (results fn a'.tmps).run P w' = .ok z w' ∧ PostP φ w t T r (.returned z) w' := by
     intro h4
     split at h4
     ·rename_i v s' cc hres
      cases hk : cc <;> rw [hk] at h4 hres
      ·cases h4
      ·simp only [cond_true, Option.map_eq_some_iff] at h4
       obtain ⟨y, hy, rfl⟩ := h4
       have hv := asT_eq hy
       subst hv
       obtain ⟨χ, hχ, hr2, _, z, hrun, hz⟩ := resY_ok hC.Θ hr' hres
       exact ⟨hr'.defers, z, hrun, χ, _, _, _, rfl, Phi.le_trans (h1.toLe (fun i p hp => by cases hp)) hχ, hr2.mem, hz, hb'⟩
     ·cases h4
    rcases EX_of he with ⟨rfl, rfl⟩ | ⟨j, rfl, rfl⟩ | ⟨rfl, rfl⟩ | ⟨j, rfl, rfl⟩ | ⟨t', n, rfl, rfl⟩
    ·exact post h4
    ·cases h4
    ·exact post h4
    ·cases h4
    ·simp only [endP] at h4
     cases hb2 : (Nat.beq t' t && s.ok) <;> rw [hb2] at h4
     ·cases h4
     ·simp only [cond_true, Option.some.injEq] at h4
      subst h4
      have := Nat.eq_of_beq_eq_true (and_split hb2).1
      subst this
      exact ⟨hr'.defers, rfl, hb'⟩
   cases r with
   | inl n => exact fun φ w xs hI hA => key φ w xs hI hA
   | inr y => exact fun φ w xs hI hA => key φ w xs hI hA
def pm (ts : List Ty) (T : Ty) (t : Nat) (ps : List ((AD ts → Bool) × (AD ts → Int))) (v : AD ts → T.den) (k : AD ts → Bool) : PSm := fun args => match asTs ts args with
 | some x => bif valT T then some (ps.map fun p => (p.1 x, t, p.2 x), ⟨T, v x⟩, k x) else none
 | none => none
noncomputable def panV {α T : Type} (d : T) (E : α → Option (Int ⊕ T)) : α → T := fun x => match E x with | some (.inr y) => y | _ => d
noncomputable def panK {α T : Type} (E : α → Option (Int ⊕ T)) : α → Bool := fun x => match E x with | some (.inr _) => true | _ => false
noncomputable def panQ {α T : Type} (E : α → Option (Int ⊕ T)) (c : α → Int) : α → Bool := fun x => match E x with | some (.inl n) => decide (n = c x) | _ => false
def pOf : List (Nat × PSm) → Nat → Option PSm
 | [], _ => none
 | (g, s) :: r, f => bif Nat.beq g f then some s else pOf r f
def POK1 (P : Program) (f : Nat) (g : PSm) : Prop := ∀ args al v k, g args = some (al, v, k) → valV v = true ∧ match pickP al with | some (t, n) => PanOK P f args t n | none => k = true → PureOK P f args v
theorem POK.nil {P : Program} : POK P (pOf []) := fun f g h => by cases h
theorem POK.cons {P : Program} {f : Nat} {g : PSm} {r : List (Nat × PSm)} (hc : ∀ args w, (callFunc f args).run P w = .ok (.enter f args) w) (h : POK1 P f g) (hr : POK P (pOf r)) : POK P (pOf ((f, g) :: r)) := by
 intro f' g' hg
 simp only [pOf] at hg
 cases hb : Nat.beq f f' <;> rw [hb] at hg
 ·exact hr f' g' hg
 ·simp only [cond_true, Option.some.injEq] at hg
  have := Nat.eq_of_beq_eq_true hb
  subst this; subst hg
  exact ⟨hc, h⟩
theorem POK1.pm {P : Program} {f : Nat} {ts : List Ty} {T : Ty} {t : Nat} {E : AD ts → Option (Int ⊕ T.den)} (cs : List (AD ts → Int))
 (h : ∀ x r, E x = some r → OutP P f (mkA ts x) t T r) : POK1 P f (GX.pm ts T t (cs.map fun c => (panQ E c, c)) (panV (dflt T) E) (panK E)) := by
 intro args al v k hg
 unfold GX.pm at hg
 split at hg
 ·rename_i x has
  cases hT : valT T <;> rw [hT] at hg
  ·cases hg
  simp only [cond_true, Option.some.injEq, Prod.mk.injEq] at hg
  obtain ⟨rfl, rfl, rfl⟩ := hg
  refine ⟨by unfold valV; rw [hT]; rfl, ?_⟩
  have har : ∀ {φ : Phi} {xs : Array Value}, AR φ args xs → AR φ (mkA ts x) xs := fun hA => AR_iff.2 (asTs_AR has (AR_iff.1 hA))
  have hpick : ∀ (l : List (AD ts → Int)), match pickP ((l.map fun c => (panQ E c, c)).map fun p => (p.1 x, t, p.2 x)) with | some (t', n) => t' = t ∧ E x = some (.inl n) | none => True := by
   intro l
   induction l with
   | nil => trivial
   | cons c l ih =>
    simp only [List.map_cons, pickP]
    cases hq : panQ E c x
    ·exact ih
    ·refine ⟨rfl, ?_⟩
     unfold panQ at hq
     split at hq
     ·rename_i n he
      rw [he, of_decide_eq_true hq]
     ·cases hq
  have hp := hpick cs
  split
  ·rename_i t' n hpk
   rw [hpk] at hp
   obtain ⟨rfl, he⟩ := hp
   exact fun φ w xs hI hA => h x _ he φ w xs hI (har hA)
  ·intro hk
   unfold panK at hk
   split at hk
   ·rename_i y he
    have : panV (dflt T) E x = y := by unfold panV; rw [he]
    rw [this]
    exact fun φ w xs hI hA => h x _ he φ w xs hI (har hA)
   ·cases hk
 ·cases hg
theorem fnP_E {P : Program} {C : Cx} (hC : CxOK P C) {fn : Func} {f : Nat} (hf : P.funcs[f]? = some fn) (hL : ∀ c, fn.body = some c → LOK P C 0 c) {t : Nat} {ts : List Ty} {T : Ty} {E : AD ts → Option (Int ⊕ T.den)}
 (h : ∀ x, fnP C t fn T (mkA ts x) = E x) : ∀ x r, E x = some r → OutP P f (mkA ts x) t T r :=
 fun x r hr => fnP_ok hC hf hL ((h x).trans hr)
end Go.GX

namespace Go.GX
set_option linter.unusedSimpArgs false
set_option linter.unusedVariables false
set_option linter.unusedSectionVars false
open Go.RowKit (Below)
def ifcD : Option TypeDesc → Bool
 | some (.interface _) => true
 | _ => false
def strD : Option TypeDesc → Bool
 | some (.struct _) => true
 | _ => false
theorem ifcD_spec {d : Option TypeDesc} (h : ifcD d = true) : ∃ ms, d = some (.interface ms) := by
 unfold ifcD at h
 split at h
 ·exact ⟨_, rfl⟩
 ·cases h
theorem strD_spec {d : Option TypeDesc} (h : strD d = true) : ∃ fs, d = some (.struct fs) := by
 unfold strD at h
 split at h
 ·exact ⟨_, rfl⟩
 ·cases h
structure DfText (P : Program) (gfn : Func) (t : Nat) (tail : Code) : Prop where
 ex : ∃ (i0 bi i3 i4 i5 I I' : Nat) (o0 o3 o4 o5 o6 o7 : Oper) (other : Code), gfn.body = some (.seq (.region i0 #[o0] false) (.block bi (.seq (.region i3 #[o3] false) (.cond (.tmp 7) (.region i4 #[o4] false) (.seq (.region i5 #[o5, o6, o7] false) (.cond (.tmp 9) tail other)))))) ∧
  (o0.op = .call ⟨.builtin .recover, #[], #[]⟩ ∧ o0.dst = some 5 ∧ o0.guard = none) ∧ (o3.op = .binOp .eql I (.tmp 5) (.const .nilIface) I' ∧ o3.dst = some 7 ∧ o3.guard = none) ∧
  (o4.op = .assign (.tmp 5) ∧ o4.dst = some 2 ∧ o4.guard = none) ∧ (o5.op = .typeAssert (.tmp 5) I t true ∧ o5.dst = some 8 ∧ o5.guard = none) ∧
  (o6.op = .extract (.tmp 8) 1 ∧ o6.dst = some 9 ∧ o6.guard = none) ∧ (o7.op = .extract (.tmp 8) 0 ∧ o7.dst = some 10 ∧ o7.guard = none) ∧
  ifcD (P.underlying I) = true ∧ strD (P.underlying t) = true ∧ gfn.ntmps = 15 ∧ gfn.results = #[]
def dfTail : Option Code → Code
 | some (.seq _ (.block _ (.seq _ (.cond _ _ (.seq _ (.cond _ t _)))))) => t
 | _ => .skip
theorem wpOpsS_recover {P : Program} {o : Oper} (hop : o.op = .call ⟨.builtin .recover, #[], #[]⟩) (hg : o.guard = none) {Q : Exit → Act → List Frame → World → Prop} {a : Act} {cs : List Frame} {w : World}
 (h : match recoverD cs with | some (v, cs') => Q .normal (a.put o.dst v) cs' w | none => Q .normal (a.put o.dst .nilIface) cs w) : wpOpsS P #[o] Q [0] a cs w := by
 have hrun : (execOp a.eval o).run P w = .ok .recover w := by
  unfold execOp
  rw [hop]
  rfl
 have hw : Region.wanted o (yielded #[o] a.tmps) = true := by simp [Region.wanted, hg]
 have ho : (#[o] : Array Oper)[0]? = some o := rfl
 unfold wpOpsS
 simp only [ho, hw, if_true, hrun]
 cases hr : recoverD cs with
 | none => rw [hr] at h; exact h
 | some p => rw [hr] at h; exact h
theorem wpOne {P : Program} {o : Oper} {ops : Array Oper} {r : List Oper} {Q : Exit → Act → World → Prop} {a : Act} {w w' : World} {v : Value} (hg : o.guard = none) (h : (execOp a.eval o).run P w = .ok (.value v) w') (hn : wpList P ops Q r (a.put o.dst v) w') : wpList P ops Q (o :: r) a w := by
 rw [wpList, if_pos (by simp [Region.wanted, hg])]
 refine .inl ?_
 unfold Oper.wp
 rw [h]
 exact hn
theorem run_equalIn_nilnil {P : Program} (d : Nat) {I : Nat} {ms} {w : World} (hI : P.underlying I = some (.interface ms)) : (Op.equalIn (d + 1) I .nilIface .nilIface).run P w = .ok true w := by
 have hu : ∀ w, (underlying I).run P w = .ok (.interface ms) w := fun w => Go.run_underlying hI w
 simp only [Op.equalIn, Sem.run_bind, hu, Result.andThen]; rfl
theorem run_equalIn_ifacenil {P : Program} (d : Nat) {I t : Nat} {u : Value} {ms} {w : World} (hI : P.underlying I = some (.interface ms)) : (Op.equalIn (d + 1) I (.iface t u) .nilIface).run P w = .ok false w := by
 have hu : ∀ w, (underlying I).run P w = .ok (.interface ms) w := fun w => Go.run_underlying hI w
 simp only [Op.equalIn, Sem.run_bind, hu, Result.andThen]; rfl
def isNilI : Value → Bool
 | .nilIface => true
 | _ => false
theorem run_eqlIface {P : Program} {I I' : Nat} {ms} (hI : P.underlying I = some (.interface ms)) {a : Act} {w : World} {x : Operand} {v : Value} (hx : a.eval x = v) (hv : v = .nilIface ∨ ∃ t u, v = .iface t u) {o : Oper} (ho : o.op = .binOp .eql I x (.const .nilIface) I') :
 (execOp a.eval o).run P w = .ok (.value (.bool (isNilI v))) w := by
 have hc : a.eval (.const .nilIface) = .nilIface := rfl
 have hu : ∀ w, (underlying I).run P w = .ok (.interface ms) w := fun w => Go.run_underlying hI w
 unfold execOp
 rw [ho]
 rcases hv with rfl | ⟨t, u, rfl⟩
 ·have h1 : ∀ w, (eqGuard .eql I x (.const .nilIface) .nilIface .nilIface).run P w = .ok () w := fun w => by
   unfold eqGuard
   simp
  have h2 : ∀ w, (Op.equal I .nilIface .nilIface).run P w = .ok true w := fun w => run_equalIn_nilnil 9999 hI
  simp only [Sem.run_bind, hx, hc, h1, Result.andThen]
  rw [run_binOp_equal (e := true) rfl (by simp) (by simp) (by simp) (by simp) (h2 _)]
  simp [isNilI]
 ·have h1 : ∀ w, (eqGuard .eql I x (.const .nilIface) (.iface t u) .nilIface).run P w = .ok () w := fun w => by
   unfold eqGuard
   simp
  have h2 : ∀ w, (Op.equal I (.iface t u) .nilIface).run P w = .ok false w := fun w => run_equalIn_ifacenil 9999 hI
  simp only [Sem.run_bind, hx, hc, h1, Result.andThen]
  rw [run_binOp_equal (e := true) rfl (by simp) (by simp) (by simp) (by simp) (h2 _)]
  simp [isNilI]
theorem eval_put {a : Act} {d : Nat} {v : Value} (h : d < a.tmps.size) : (a.put (some d) v).eval (.tmp d) = v := by
 show (a.tmps.setIfInBounds d v).getD d undef = v
 rw [Array.getD_eq_getD_getElem?, Array.getElem?_setIfInBounds_self_of_lt h]; rfl
theorem eval_put_ne {a : Act} {d d' : Nat} {v : Value} (h : d ≠ d') : (a.put (some d') v).eval (.tmp d) = a.eval (.tmp d) := by
 show (a.tmps.setIfInBounds d' v).getD d undef = a.tmps.getD d undef
 rw [Array.getD_eq_getD_getElem?, Array.getD_eq_getD_getElem?, Array.getElem?_setIfInBounds_ne (fun e => h e.symm)]
theorem size_put {a : Act} {d : Option Nat} {v : Value} : (a.put d v).tmps.size = a.tmps.size := by
 cases d <;> simp [Act.put]
theorem defers_put {a : Act} {d : Option Nat} {v : Value} : (a.put d v).defers = a.defers := by
 cases d <;> rfl
theorem run_noResults {P : Program} {fn : Func} (h : fn.results = #[]) (tmps : Array Value) (w : World) : ∃ v, (results fn tmps).run P w = .ok v w := by
 unfold results
 simp [h]
theorem act15 {v0 : Value} : ∃ a0 : Act, ({ tmps := #[v0] ++ Array.replicate (15 - #[v0].size) undef, defers := [] } : Act) = a0 ∧ a0.tmps.size = 15 ∧ a0.eval (.tmp 0) = v0 ∧ a0.defers = [] := ⟨_, rfl, by simp, by show (#[v0] ++ Array.replicate (15 - #[v0].size) undef).getD 0 undef = v0; simp [Array.getD_eq_getD_getElem?], rfl⟩
theorem caught_ret {P : Program} {g : Nat} {gfn : Func} (hf : P.funcs[g]? = some gfn) {t : Nat} {tail : Code} (hT : DfText P gfn t tail) {v0 : Value} {w : World} :
 CallsD P g #[v0] .returning w (fun e u' w' => (∃ v, e = .returned v) ∧ u' = .returning ∧ w' = w) := by
 obtain ⟨i0, bi, i3, i4, i5, I, I', o0, o3, o4, o5, o6, o7, other, hb, h0, h3, h4, h5, h6, h7, hI, ht, hn, hres⟩ := hT.ex
 obtain ⟨ms, hI⟩ := ifcD_spec hI
 obtain ⟨fs, ht⟩ := strD_spec ht
 refine callsD_of_wpS hf hb (fun c₀ cs hm => ?_)
 rw [hn]
 obtain ⟨a0, ha0, hsz, h00, hd0⟩ := act15 (v0 := v0)
 rw [ha0]
 refine wpS_seq (wpS_region ?_)
 show wpOpsS P #[o0] _ [0] _ _ _
 refine wpOpsS_recover h0.1 h0.2.2 ?_
 have hrec : recoverD (c₀ :: cs) = none := by simp [recoverD, hm]
 rw [hrec]
 simp only
 show Code.wpS P _ _ _ _ _
 refine wpS_of_wp (wp_block (wp_seq (wp_region_list ?_)))
 rw [h0.2.1]
 refine wpOne h3.2.2 (run_eqlIface hI (eval_put (by rw [hsz]; decide)) (.inl rfl) h3.1) ?_
 rw [h3.2.1]
 refine wp_cond_true (eval_put (by rw [size_put, hsz]; decide)) (wp_region_list ?_)
 refine wpOne (w' := w) (v := .nilIface) h4.2.2 ?_ ?_
 ·unfold execOp
  rw [h4.1]
  show Result.ok (Next.value (Act.eval _ (.tmp 5))) w = _
  rw [eval_put_ne (by decide), eval_put (by rw [hsz]; decide)]
 obtain ⟨v, hv⟩ := run_noResults (P := P) hres (((a0.put (some 5) .nilIface).put (some 7) (.bool true)).put o4.dst .nilIface).tmps w
 refine ⟨by rw [defers_put, defers_put, defers_put]; exact hd0, .returning, ?_, v, hv, ⟨v, rfl⟩, rfl, rfl⟩
 rw [← hm]
def tmD (p : PA) (n : Int) : TM := (((Tr.lf).set 0 (⟨.ptr, some p⟩, true)).set 10 (⟨.pair (.int .i64) .unit, (n, ())⟩, true))
def dfC (Θ : Tab) : Cx := ⟨true, Θ, fun _ => none, 100, fun _ => none, fun _ => none⟩
def dfK {ρ : Type} (k : St → Option ρ) : X → St → Option ρ := fun x s => match x with | .normal => k s | _ => none
theorem caught_pan {P : Program} {Θ : Tab} (hΘ : TabOK P Θ) (hmix : P.follows .mixedOrders = true) {g : Nat} {gfn : Func} (hf : P.funcs[g]? = some gfn) {t : Nat} {tail : Code} (hT : DfText P gfn t tail) {ρ : Type} {k : St → Option ρ} {r : ρ} (hk : ∀ s, k s = some r → s.ok = true)
 {base : Nat} {φ : Phi} {mem : Mem} {nxt : Nat} {w : World} (hm : MemRel base φ mem nxt w) {p : PA} {ad : Addr} (hp : addr φ p = some ad) {n : Int} (h : codeT (dfC Θ) tail ⟨tmD p n, 15, mem, nxt, true⟩ (dfK k) = some r) :
 CallsD P g #[.pointer (some ad)] (.panicking (chainOf t n)) w (fun e u' w' => (∃ v, e = .returned v) ∧ settle u' = .returning ∧ ∃ s ψ, φ.le ψ ∧ MemRel base ψ s.mem s.nxt w' ∧ Below base w w' ∧ k s = some r) := by
 obtain ⟨i0, bi, i3, i4, i5, I, I', o0, o3, o4, o5, o6, o7, other, hb, h0, h3, h4, h5, h6, h7, hI, ht, hn, hres⟩ := hT.ex
 obtain ⟨ms, hI⟩ := ifcD_spec hI
 obtain ⟨fs, ht⟩ := strD_spec ht
 refine callsD_of_wpS hf hb (fun c₀ cs hm0 => ?_)
 rw [hn]
 obtain ⟨a0, ha0, hsz, h00, hd0⟩ := act15 (v0 := .pointer (some ad))
 rw [ha0]
 refine wpS_seq (wpS_region ?_)
 show wpOpsS P #[o0] _ [0] _ _ _
 refine wpOpsS_recover h0.1 h0.2.2 ?_
 have hrec : recoverD (c₀ :: cs) = some (.iface t (.agg #[.int .i64 n]), { c₀ with mode := .panicking [{ v := .iface t (.agg #[.int .i64 n]), recovered := true }] } :: cs) := by simp [recoverD, hm0, chainOf]
 rw [hrec]
 simp only
 show Code.wpS P _ _ _ _ _
 refine wpS_of_wp (wp_block (wp_seq (wp_region_list ?_)))
 rw [h0.2.1]
 generalize hx : Value.iface t (.agg #[.int .i64 n]) = x
 refine wpOne h3.2.2 (run_eqlIface hI (eval_put (by rw [hsz]; decide)) (.inr ⟨_, _, hx.symm⟩) h3.1) ?_
 rw [h3.2.1]
 rw [show isNilI x = false from by rw [← hx]; rfl]
 refine wp_cond_false (eval_put (by rw [size_put, hsz]; decide)) (wp_seq (wp_region_list ?_))
 have hu : ∀ w, (underlying t).run P w = .ok (.struct fs) w := fun w => Go.run_underlying ht w
 refine wpOne (v := .tuple #[.agg #[.int .i64 n], .bool true]) (w' := w) h5.2.2 ?_ ?_
 ·unfold execOp
  rw [h5.1]
  refine run_v ?_
  show (Instr.typeAssert (Act.eval _ (.tmp 5)) I t true).run P w = _
  rw [eval_put_ne (by decide), eval_put (by rw [hsz]; decide), ← hx]
  unfold Instr.typeAssert
  simp only [Sem.run_bind, hu, Result.andThen, if_true]
  rfl
 rw [h5.2.1]
 refine wpOne (v := .bool true) (w' := w) h6.2.2 ?_ ?_
 ·unfold execOp
  rw [h6.1]
  refine run_v ?_
  show (Instr.extract (Act.eval _ (.tmp 8)) 1).run P w = _
  rw [eval_put (by rw [size_put, size_put, hsz]; decide)]
  rfl
 rw [h6.2.1]
 refine wpOne (v := .agg #[.int .i64 n]) (w' := w) h7.2.2 ?_ ?_
 ·unfold execOp
  rw [h7.1]
  refine run_v ?_
  show (Instr.extract (Act.eval _ (.tmp 8)) 0).run P w = _
  rw [eval_put_ne (by decide), eval_put (by rw [size_put, size_put, hsz]; decide)]
  rfl
 rw [h7.2.1]
 refine wp_cond_true (by rw [eval_put_ne (by decide), eval_put (by rw [size_put, size_put, size_put, hsz]; decide)]) ?_
 have hC : CxOK P (dfC Θ) := ⟨hΘ, KOK.none, hmix, POK.none⟩
 generalize hA : ((((a0.put (some 5) x).put (some 7) (.bool false)).put (some 8) (.tuple #[.agg #[.int .i64 n], .bool true])).put (some 9) (.bool true)).put (some 10) (.agg #[.int .i64 n]) = aF
 have hszF : aF.tmps.size = 15 := by rw [← hA, size_put, size_put, size_put, size_put, size_put, hsz]
 have hdF : aF.defers = [] := by rw [← hA, defers_put, defers_put, defers_put, defers_put, defers_put]; exact hd0
 have h10 : aF.eval (.tmp 10) = .agg #[.int .i64 n] := by rw [← hA, eval_put (by rw [size_put, size_put, size_put, size_put, hsz]; decide)]
 have h0F : aF.eval (.tmp 0) = .pointer (some ad) := by rw [← hA, eval_put_ne (by decide), eval_put_ne (by decide), eval_put_ne (by decide), eval_put_ne (by decide), eval_put_ne (by decide), h00]
 clear hA
 refine codeT_ok (kp := nxt) hC (fun id b _ f hf => by cases hf) (base := base) (φ := φ) (fun x s hs => ?_) h ⟨fun s u c' hs => ?_, hszF, hm, hdF⟩ ?_
 ·cases x <;> first | exact hk _ hs | cases hs
 ·have hs : Tr.get (tmD p n) s = some (u, c') := hs
  unfold tmD at hs
  rcases Tr.get_set hs with ⟨rfl, he⟩ | ⟨_, hs⟩
  ·cases he
   refine ⟨fun _ => ?_, fun e => by cases e⟩
   show VR φ ⟨.pair (.int .i64) .unit, (n, ())⟩ (aF.eval (.tmp 10))
   rw [h10]
   unfold VR
   rw [if_neg (by simp [isTup])]
   unfold V1
   rw [if_pos (show isAgg (.pair (.int .i64) .unit) = true from rfl)]
   refine ⟨_, rfl, rfl, fun i c hi => ?_⟩
   cases i with
   | zero => cases hi; exact ⟨_, rfl, CR_c0.2 rfl⟩
   | succ i => cases hi
  ·rcases Tr.get_set hs with ⟨rfl, he⟩ | ⟨_, hs⟩
   ·cases he
    refine ⟨fun _ => ?_, fun e => by cases e⟩
    show VR φ ⟨.ptr, some p⟩ (aF.eval (.tmp 0))
    rw [h0F]
    exact VR_ptr.2 ⟨ad, hp, rfl⟩
   ·simp [Tr.get] at hs
 ·intro x' e s ψ a' w' he h1 hr' hb' h4
  cases x' with
  | normal =>
   have : e = .normal := by cases e <;> simp [EX] at he; rfl
   subst this
   obtain ⟨v, hv⟩ := run_noResults (P := P) hres a'.tmps w'
   exact ⟨hr'.defers, _, rfl, v, hv, ⟨v, rfl⟩, rfl, s, ψ, h1.toLe (fun i p hp => (hm.fresh i p hp).1), hr'.mem, hb', h4⟩
  | _ => cases h4
def endV (Θ : Tab) (fn : Func) (T : Ty) (s : St) : Option T.den := match resY Θ fn s with
 | some (v, _, c) => bif c then asT T v else none
 | none => none
def endD (Θ : Tab) (tail : Code) (t : Nat) (fn : Func) (T : Ty) (p : PA) : X → St → Option T.den := fun x s => match x with
 | .exit _ => none
 | .goto _ => none
 | .pan t' n => bif Nat.beq t' t && s.ok then codeT (dfC Θ) tail ⟨tmD p n, 15, s.mem, s.nxt, true⟩ (dfK fun s2 => bif s2.ok then endV Θ fn T ⟨s.tm, s.n, s2.mem, s2.nxt, true⟩ else none) else none
 | _ => endV Θ fn T s
def headD (q kp : Nat) {ρ : Type} (k : PA → St → Option ρ) : X → St → Option ρ := fun x s => match x with
 | .normal => match s.tm.get q with
  | some (⟨.ptr, some p⟩, true) => bif Nat.blt p.id kp then k p s else none
  | _ => none
 | _ => none
def dfHead : Option Code → Option (Code × Nat × Nat × Code)
 | some (.seq r0 (.seq (.region _ ops false) rest)) => match ops.toList with
  | [⟨none, .defer ⟨.value (.func g), args, _⟩, _, _, _, none⟩] => match args.toList with
   | [.tmp q] => some (r0, g, q, rest)
   | _ => none
  | _ => none
 | _ => none
def fnD (C : Cx) (g : Nat) (tail : Code) (t kp : Nat) (fn : Func) (T : Ty) (args : List V) : Option T.den :=
 match dfHead fn.body with
 | some (r0, g', q, rest) => bif Nat.beq g' g && (Nat.ble args.length fn.ntmps && args.all valV) then
  codeT C r0 ⟨putArgs args 0 .lf, fn.ntmps, [], 0, true⟩ (headD q kp fun p s => codeT C rest s (endD C.Θ tail t fn T p)) else none
 | none => none
theorem endV_mono {Θ : Tab} {fn : Func} {T : Ty} {s : St} {r : T.den} (h : endV Θ fn T s = some r) : s.ok = true := by
 unfold endV at h
 split at h
 ·rename_i v s' c hres
  cases hk : c <;> rw [hk] at h hres
  ·cases h
  ·exact resY_okk hres
 ·cases h
theorem endD_mono {Θ : Tab} {tail : Code} {t : Nat} {fn : Func} {T : Ty} {p : PA} {x : X} {s : St} {r : T.den} (h : endD Θ tail t fn T p x s = some r) : s.ok = true := by
 unfold endD at h
 split at h
 ·cases h
 ·cases h
 ·rename_i t' n
  cases hb : (Nat.beq t' t && s.ok) <;> rw [hb] at h
  ·cases h
  ·exact (and_split hb).2
 ·exact endV_mono h
theorem fnD_ok {P : Program} {C : Cx} (hC : CxOK P C) {fn : Func} {f : Nat} (hf : P.funcs[f]? = some fn) {g : Nat} {gfn : Func} (hg : P.funcs[g]? = some gfn) (hcg : ∀ args w, (callFunc g args).run P w = .ok (.enter g args) w) {t : Nat} {tail : Code} (hT : DfText P gfn t tail) {kp : Nat}
 (hL : ∀ r0 g q rest, dfHead fn.body = some (r0, g, q, rest) → LOK P C 0 r0 ∧ ∀ D : DefL, @LOK D P C kp rest) {T : Ty} {args : List V} {r : T.den} (h : fnD C g tail t kp fn T args = some r) : PureOK P f args ⟨T, r⟩ := by
 intro φ w xs hI hA
 unfold fnD at h
 split at h
 ·rename_i r0 g' q rest hd
  obtain ⟨hL0, hLr⟩ := hL _ _ _ _ hd
  cases hb : (Nat.beq g' g && (Nat.ble args.length fn.ntmps && args.all valV)) <;> rw [hb] at h
  ·cases h
  simp only [cond_true] at h
  obtain ⟨hgb, hb9⟩ := and_split hb
  have hgb := Nat.eq_of_beq_eq_true hgb
  subst hgb
  unfold dfHead at hd
  split at hd
  ·rename_i r0' i1 ops rest' hbody
   split at hd
   ·rename_i g2 dargs dts dty dpos daft hops
    split at hd
    ·rename_i q' hda
     simp only [Option.some.injEq, Prod.mk.injEq] at hd
     obtain ⟨rfl, rfl, rfl, rfl⟩ := hd
     have eops : ops = #[⟨none, .defer ⟨.value (.func g2), dargs, dts⟩, dty, dpos, daft, none⟩] := by apply Array.ext'; simpa using hops
     have eda : dargs = #[.tmp q'] := by apply Array.ext'; simpa using hda
     subst eops; subst eda
     have hm0 : ∀ x s, headD q' kp (fun p s => codeT C rest' s (endD C.Θ tail t fn T p)) x s = some r → s.ok = true := by
      intro x s hs
      unfold headD at hs
      split at hs
      ·split at hs
       ·rename_i p _
        cases hlt : Nat.blt p.id kp <;> rw [hlt] at hs
        ·cases hs
        ·exact codeT_mono hC (hLr DefL.none) (fun x s h => endD_mono h) hs
       ·cases hs
      ·cases hs
     refine calls_of_wp_defers hf hbody (wp_seq (codeT_ok hC hL0 (base := w.heap.size) (φ := φ.bare w.heap.size) hm0 h (start_ok hI hA hb9) ?_))
     intro x e s φ1 a1 w1 he h1 hr1 hb1 hs
     unfold headD at hs
     split at hs
     rotate_left
     ·cases hs
     have : e = .normal := by cases e <;> simp [EX] at he; rfl
     subst this
     split at hs
     rotate_left
     ·cases hs
     rename_i p hq
     cases hlt : Nat.blt p.id kp <;> rw [hlt] at hs
     ·cases hs
     simp only [cond_true] at hs
     have hlt : p.id < kp := Nat.le_of_ble_eq_true hlt
     obtain ⟨ad, had, hav⟩ := VR_ptr.1 ((hr1.tm q' _ _ hq).1 rfl)
     have h1 := h1.toLe (fun i p hp => by cases hp)
     show (Code.seq _ rest').wp P _ a1 w1
     refine wp_seq (wp_region_list ?_)
     let d : Deferred := { target := .fn (.func g2) #[], args := #[.pointer (some ad)] }
     have hdf : a1.defers = [] := hr1.defers
     have hex : (execOp a1.eval ⟨none, .defer ⟨.value (.func g2), #[.tmp q'], dts⟩, dty, dpos, daft, none⟩).run P w1 = .ok (.defer d) w1 := by
      have e1 : a1.eval (.tmp q') = .pointer (some ad) := hav
      have e2 : a1.eval (.func g2) = .func (.func g2) #[] #[] := rfl
      simp only [execOp, resolve, e2, Deferred.ofValue, Sem.run_bind, Sem.run_pure, Result.andThen, List.map_toArray, List.map_cons, List.map_nil, e1]
      rfl
     show wpList P _ _ [_] a1 w1
     rw [wpList, if_pos (by rfl)]
     refine .inl ?_
     unfold Oper.wp
     rw [hex]
     show Code.wp P rest' _ { a1 with defers := d :: a1.defers } w1
     rw [hdf]
     have ht1 := hr1.tm
     have hn1 := hr1.n
     have hm1 := hr1.mem
     letI D : DefL := ⟨[d]⟩
     have hcc : ∀ w, (invoke (.fn (.func g2) #[]) #[.pointer (some ad)]).run P w = .ok (.enter g2 #[.pointer (some ad)]) w := fun w => hcg _ _
     refine @codeT_ok D _ P C hC r kp rest' (hLr D) s (endD C.Θ tail t fn T p) w.heap.size φ1 { a1 with defers := [d] } w1 _ (fun x s h => endD_mono h) hs ⟨ht1, hn1, hm1, rfl⟩ ?_
     intro x e s2 φ2 a2 w2 he h2 hr2 hb2 h4
     have hdf2 : a2.defers = [d] := hr2.defers
     have had2 : addr φ2 p = some ad := by
      unfold addr at had ⊢
      cases hp : φ1 p.id with
      | none => rw [hp] at had; cases had
      | some ph => rw [hp] at had; rw [h2.ad p.id ph hlt hp]; exact had
     have hle2 : (φ.bare w.heap.size).le φ2 := (Phi.leK_trans (kp := 0) h1.toK ⟨fun i p hi _ => absurd hi (Nat.not_lt_zero _), h2.imm, h2.new, h2.lo⟩).toLe (fun i p hp => by cases hp)
     have fin : ∀ (s3 : St) (φ3 : Phi) (w3 : World), φ2.le φ3 → Rel w.heap.size φ3 s3 a2 w3 → Below w.heap.size w2 w3 → endV C.Θ fn T s3 = some r → Leaves P fn a2.tmps (fun e w' => ∃ ψ m n x, e = .returned x ∧ (φ.bare w.heap.size).le ψ ∧ MemRel w.heap.size ψ m n w' ∧ VR ψ ⟨T, r⟩ x ∧ Below w.heap.size w w') [] .returning w3 := by
      intro s3 φ3 w3 g1 g2 g3 g4
      unfold endV at g4
      split at g4
      ·rename_i v s' cc hres
       cases hk : cc <;> rw [hk] at g4 hres
       ·cases g4
       ·simp only [cond_true] at g4
        have hv := asT_eq g4
        subst hv
        obtain ⟨χ, hχ, hr3, _, z, hrun, hz⟩ := resY_ok hC.Θ g2 hres
        exact ⟨z, hrun, χ, _, _, _, rfl, Phi.le_trans (Phi.le_trans hle2 g1) hχ, hr3.mem, hz, ((hb1.trans hb2).trans g3)⟩
      ·cases g4
     have ret : endV C.Θ fn T s2 = some r → Leaves P fn a2.tmps (fun e w' => ∃ ψ m n x, e = .returned x ∧ (φ.bare w.heap.size).le ψ ∧ MemRel w.heap.size ψ m n w' ∧ VR ψ ⟨T, r⟩ x ∧ Below w.heap.size w w') a2.defers .returning w2 := by
      intro h4
      rw [hdf2]
      refine leaves_cons (by simp) (hcc w2) ((caught_ret hg hT).mono ?_)
      rintro e u' w' ⟨⟨v, rfl⟩, rfl, rfl⟩
      exact fin s2 φ2 _ (Phi.le_refl _) hr2 (Below.refl _ _) h4
     rcases EX_of he with ⟨rfl, rfl⟩ | ⟨j, rfl, rfl⟩ | ⟨rfl, rfl⟩ | ⟨j, rfl, rfl⟩ | ⟨t', n, rfl, rfl⟩
     ·exact ret h4
     ·cases h4
     ·exact ret h4
     ·cases h4
     ·simp only [endD] at h4
      cases hb2 : (Nat.beq t' t && s2.ok) <;> rw [hb2] at h4
      ·cases h4
      simp only [cond_true] at h4
      have := Nat.eq_of_beq_eq_true (and_split hb2).1
      subst this
      show Leaves P fn a2.tmps _ a2.defers (.panicking (chainOf t' n)) w2
      rw [hdf2]
      refine leaves_cons (by simp) (hcc w2) ((caught_pan hC.Θ hC.mix hg hT (k := fun s3 => bif s3.ok then endV C.Θ fn T ⟨s2.tm, s2.n, s3.mem, s3.nxt, true⟩ else none) (fun s hs => ?_) hr2.mem had2 h4).mono ?_)
      ·cases hk : s.ok with
       | true => rfl
       | false => rw [hk] at hs; cases hs
      ·rintro e u' w' ⟨⟨v, rfl⟩, hu, s3, φ3, g1, g2, g3, g4⟩
       show Leaves P fn a2.tmps _ [] (settle u') w'
       rw [hu]
       cases hk : s3.ok <;> rw [hk] at g4
       ·cases g4
       ·exact fin ⟨s2.tm, s2.n, s3.mem, s3.nxt, true⟩ φ3 w' g1 ⟨TmR_mono g1 hr2.tm, hr2.n, g2, hr2.defers⟩ g3 g4
    ·cases hd
   ·cases hd
  ·cases hd
 ·cases h
def restD (fn : Func) : Code := match dfHead fn.body with | some (_, _, _, r) => r | none => .skip
def headC (fn : Func) : Code := match dfHead fn.body with | some (r, _, _, _) => r | none => .skip
theorem LOK.df {P : Program} {C : Cx} {kp : Nat} {fn : Func} (h0 : (blocksOf (headC fn)).isEmpty = true) (hL : ∀ D : DefL, @LOK D P C kp (restD fn)) : ∀ r0 g q rest, dfHead fn.body = some (r0, g, q, rest) → LOK P C 0 r0 ∧ ∀ D : DefL, @LOK D P C kp rest := by
 intro r0 g q rest h
 unfold headC at h0
 unfold restD at hL
 rw [h] at h0 hL
 refine ⟨fun id b hb => ?_, hL⟩
 rw [List.isEmpty_iff.1 h0] at hb
 cases hb
theorem PureOK.ofD {P : Program} {C : Cx} (hC : CxOK P C) {fn : Func} {f : Nat} (hf : P.funcs[f]? = some fn) {g : Nat} {gfn : Func} (hg : P.funcs[g]? = some gfn) (hcg : ∀ args w, (callFunc g args).run P w = .ok (.enter g args) w) {t : Nat} {tail : Code} (hT : DfText P gfn t tail) {kp : Nat}
 (h0 : (blocksOf (headC fn)).isEmpty = true) (hL : ∀ D : DefL, @LOK D P C kp (restD fn)) {ts : List Ty} {T : Ty} {S : AD ts → Option T.den} (h : ∀ x, fnD C g tail t kp fn T (mkA ts x) = S x) :
 ∀ x, (S x).isSome = true → PureOK P f (mkA ts x) ⟨T, (S x).getD (dflt T)⟩ := by
 intro x hk
 cases hs : S x with
 | none => rw [hs] at hk; cases hk
 | some y => exact fnD_ok hC hf hg hcg hT (LOK.df h0 hL) ((h x).trans hs)
end Go.GX

namespace Go.GX
set_option linter.unusedSimpArgs false
set_option linter.unusedVariables false
set_option linter.unusedSectionVars false
open Go.RowKit (Below)
def seO {α : Type} (d : α) (l : List α) : List α := sec d l 0 l.length
def seI {α : Type} (d : α) (l : List α) : List α := sec d l (impS l) l.length
theorem seO_eq {α : Type} (d : α) (l : List α) : seO d l = l := by
 unfold seO sec
 apply List.ext_getElem
 ·simp
 ·intro i h1 h2
  simp [List.getD, h2]
theorem seI_eq {α : Type} (d : α) (l : List α) : seI d l = l := by
 cases l with
 | nil => rfl
 | cons a r => exact seO_eq d (a :: r)
def fl0 {α : Type} (l : List α) : Bool := decide ((0 + l.length : Nat) ≤ l.length)
def flO {α : Type} (l : List α) : Bool := decide ((0 + l.length : Nat) ≤ l.length) || Nat.beq l.length 0
def flI {α : Type} (l : List α) : Bool := decide ((impS l + l.length : Nat) ≤ l.length) || Nat.beq l.length 0
theorem fl0_eq {α : Type} (l : List α) : fl0 l = true := by unfold fl0; simp
theorem flO_eq {α : Type} (l : List α) : flO l = true := by unfold flO; simp
theorem flI_eq {α : Type} (l : List α) : flI l = true := by
 cases l with
 | nil => rfl
 | cons a r => unfold flI impS; simp
def Dk.reO : (D : Dk) → D.den → D.den
 | .v _, x => x
 | .own _ e, l => seO (GX.dflt e) l
 | .mp _ _ _, x => x
 | .pr a b, x => (a.reO x.1, b.reO x.2)
def Dk.reI : (D : Dk) → D.den → D.den
 | .v _, x => x
 | .own _ e, l => seI (GX.dflt e) l
 | .mp _ _ _, x => x
 | .pr a b, x => (a.reI x.1, b.reI x.2)
theorem Dk.reO_eq : ∀ (D : Dk) (x : D.den), D.reO x = x
 | .v _, _ => rfl
 | .own _ e, l => seO_eq _ l
 | .mp _ _ _, _ => rfl
 | .pr a b, x => by simp only [Dk.reO, Dk.reO_eq a, Dk.reO_eq b]
theorem Dk.reI_eq : ∀ (D : Dk) (x : D.den), D.reI x = x
 | .v _, _ => rfl
 | .own _ e, l => seI_eq _ l
 | .mp _ _ _, _ => rfl
 | .pr a b, x => by simp only [Dk.reI, Dk.reI_eq a, Dk.reI_eq b]
@[reducible] def Dk.vty : Dk → Ty
 | .v t => t
 | .own _ e => .vsl e
 | .mp _ _ _ => .map
 | .pr a b => .pair a.vty b.vty
@[reducible] def Dk.toV : (D : Dk) → D.den → D.vty.den
 | .v _, x => x
 | .own _ _, l => l
 | .mp _ _ _, _ => none
 | .pr a b, x => (a.toV x.1, b.toV x.2)
def Dk.okI : Dk → Bool
 | .v t => valT t && !isTup t
 | .own _ e => plainT e && !isTup e
 | .mp _ _ _ => false
 | .pr a b => a.okI && b.okI
structure To (φ ψ : Phi) (t : Ty) (x : t.den) (t' : Ty) (x' : t'.den) : Prop where
 agg : isAgg t' = isAgg t
 tup : isTup t' = false
 tup0 : isTup t = false
 size : GX.size t' = GX.size t
 cell : ∀ (j : Nat) c', (flat t' x')[j]? = some c' → ∃ c, (flat t x)[j]? = some c ∧ ∀ v, CR φ c v → CR ψ c' v
theorem To.V1 {φ ψ : Phi} {t t' : Ty} {x : t.den} {x' : t'.den} (h : To φ ψ t x t' x') {v : Value} (hv : GX.V1 φ t x v) : GX.V1 ψ t' x' v := by
 unfold GX.V1 at hv ⊢
 rw [h.agg]
 split
 ·rename_i ha
  rw [if_pos ha] at hv
  obtain ⟨l, e, h1, h2⟩ := hv
  refine ⟨l, e, by rw [h1, length_flat, length_flat, h.size], fun i c' hi => ?_⟩
  obtain ⟨c, hc, hh⟩ := h.cell i c' hi
  obtain ⟨v, hv, hx⟩ := h2 i c hc
  exact ⟨v, hv, hh v hx⟩
 ·rename_i ha
  rw [if_neg ha] at hv
  obtain ⟨c, e, h1⟩ := hv
  have hl : (flat t' x').length = 1 := by rw [length_flat, h.size, ← length_flat t x, e]; rfl
  match hf : flat t' x', hl with
  | [c'], _ =>
   refine ⟨c', rfl, ?_⟩
   obtain ⟨c0, hc, hh⟩ := h.cell 0 c' (by rw [hf]; rfl)
   rw [e] at hc
   simp at hc; subst hc
   exact hh v h1
theorem To.pair {φ ψ : Phi} {a b a' b' : Ty} {x : a.den} {y : b.den} {x' : a'.den} {y' : b'.den} (h : To φ ψ a x a' x') (k : To φ ψ b y b' y') : To φ ψ (.pair a b) (x, y) (.pair a' b') (x', y') := by
 refine ⟨rfl, rfl, rfl, by simp only [GX.size, h.size, k.size], fun j c' hj => ?_⟩
 simp only [flat] at hj ⊢
 rcases Nat.lt_or_ge j (GX.size a') with hlt | hge
 ·rw [List.getElem?_append_left (by rw [length_flat]; exact hlt)] at hj
  obtain ⟨c, h1, h2⟩ := h.cell j c' hj
  exact ⟨c, by rw [List.getElem?_append_left (by rw [length_flat, ← h.size]; exact hlt)]; exact h1, h2⟩
 ·rw [List.getElem?_append_right (by rw [length_flat]; exact hge), length_flat] at hj
  obtain ⟨c, h1, h2⟩ := k.cell _ c' hj
  exact ⟨c, by rw [List.getElem?_append_right (by rw [length_flat, ← h.size]; exact hge), length_flat, ← h.size]; exact h1, h2⟩
def lendQ (ow : Bool) (mem : Mem) (s : SL) (e : Ty) : Option (List e.den × Bool) := match s.path, Mem.getC mem s.id with
 | [], some b => bif ow && !b.wr then none else if h : b.t = e then some (h ▸ sec (GX.dflt b.t) b.row s.start s.len, decide (s.start + s.len ≤ b.n) || Nat.beq s.len 0) else none
 | _, _ => none
def lendS1 (ow : Bool) (mem : Mem) (e : Ty) : (t : Ty) → t.den → Option (List e.den × Bool)
 | .slice, none => some ([], true)
 | .slice, some s => lendQ ow mem s e
 | t, x => (asT (.vsl e) ⟨t, x⟩).map fun y => (y, true)
def lendD (ow : Bool) (mem : Mem) : (D : Dk) → (t : Ty) → t.den → Option (D.den × Bool)
 | .v t, t', x => (asT t (coeV t ⟨t', x⟩)).map fun y => (y, true)
 | .own _ e, t', x => lendS1 ow mem e t' x
 | .mp _ _ _, _, _ => none
 | .pr a b, .pair t u, x => match lendD ow mem a t x.1, lendD ow mem b u x.2 with
  | some (y, c), some (z, d) => some ((y, z), c && d)
  | _, _ => none
 | .pr _ _, _, _ => none
theorem To.val {φ ψ : Phi} (hi : ∀ k o, φ.imm k = some o → ψ.imm k = some o) {t : Ty} (ht : (valT t && !isTup t) = true) (x : t.den) : To φ ψ t x t x := by
 obtain ⟨h1, h2⟩ := and_split ht
 exact ⟨rfl, by simpa using h2, by simpa using h2, rfl, fun j c hj => ⟨c, hj, fun v hv => CR_imm hi (val_cells h1 c (List.mem_of_getElem? hj)) hv⟩⟩
theorem To.asT {φ ψ : Phi} (hi : ∀ k o, φ.imm k = some o → ψ.imm k = some o) {t t' : Ty} (ht : (valT t && !isTup t) = true) {x : t'.den} {y : t.den} (h : GX.asT t (coeV t ⟨t', x⟩) = some y) : To φ ψ t' x t y := by
 have h := asT_eq h
 unfold coeV at h
 split at h
 ·rename_i heq
  cases heq
  split at h
  ·cases h
   refine ⟨rfl, rfl, rfl, rfl, fun j c hj => ?_⟩
   cases j with
   | zero =>
    simp [flat] at hj; subst hj
    refine ⟨_, rfl, fun v hv => ?_⟩
    unfold CR at hv ⊢
    exact .inl ⟨rfl, hv⟩
   | succ j => simp [flat] at hj
  ·cases h; exact To.val hi ht _
 ·cases h; exact To.val hi ht _
section
variable {base : Nat} {φ : Phi} {mem : Mem} {nxt : Nat} {w : World} {im : Nat → Option Obj} {ow : Bool}
theorem lendQ_ok (hm : MemRel base φ mem nxt w) (him : ∀ k o, φ.imm k = some o → im k = some o) (hall : ∀ i b ph, Mem.get mem i = some b → φ i = some ph → (ow = true → b.wr = true) → im ph.blk = w.heap[ph.blk]?)
 {e : Ty} (he : (plainT e && !isTup e) = true) {s : SL} {z : List e.den} (h : lendQ ow mem s e = some (z, true)) {v : Value} (hv : SR φ s v) : CR (φ.with im) (.vs z.length (flat (.arr z.length e) z)) v := by
 obtain ⟨hpe, _⟩ := and_split he
 unfold lendQ at h
 split at h
 ·rename_i b hp hb
  obtain ⟨hb, hbnt⟩ := Mem.getC_spec hb
  cases how : ow && !b.wr <;> rw [how] at h
  case true => cases h
  have how' : ow = true → b.wr = true := fun e => by rw [e] at how; simpa using how
  simp only [cond_false] at h
  split at h
  ·rename_i hbe
   subst hbe
   simp only [Option.some.injEq, Prod.mk.injEq] at h
   obtain ⟨rfl, hok⟩ := h
   unfold CR
   rw [length_sec]
   rcases hv with ⟨q0, _, q1⟩ | ⟨q, cc, q1, q3, _, _, had⟩
   ·exact .inl ⟨q0, q1⟩
   ·refine .inr ⟨q, cc, q1, q3, fun hne => ?_⟩
    have hle' : s.start + s.len ≤ b.n := by
     rcases Bool.or_eq_true_iff.1 hok with h | h
     ·exact of_decide_eq_true h
     ·exact absurd (Nat.eq_of_beq_eq_true h) hne
    have had := had (by omega) (VD.not (by omega))
    obtain ⟨ph, hph⟩ := addr_phys had
    have hph : φ s.id = some ph := hph
    have hbr := hm.blkAt hb hph
    obtain ⟨cs, el, fr, h1, h2, _⟩ := hbr.cells hbnt
    have : q = ⟨ph.blk, ph.off + s.start * size b.t, none⟩ := by
     unfold addr at had
     have h0 : offs b.t [] = some 0 := by cases b.t <;> rfl
     simp only [hph, hp, List.nil_append, hbr.t] at had
     simp only [offs, h0, Option.map_some, Nat.add_zero, Option.some.injEq] at had
     exact had.symm
    subst this
    refine ⟨rfl, cs, el, fr, by show im ph.blk = _; rw [hall _ _ _ hb hph how', h1], ?_⟩
    rw [CRs_iff]
    intro i d hi
    have hlt := (List.getElem?_eq_some_iff.1 hi).1
    rw [length_flat, size] at hlt
    have hpos : 0 < size b.t := by
     rcases Nat.eq_zero_or_pos (size b.t) with h0 | h0
     ·rw [h0] at hlt; omega
     ·exact h0
    have hq : i / size b.t < s.len := Nat.div_lt_of_lt_mul (by rw [Nat.mul_comm]; exact hlt)
    have hrr : i % size b.t < size b.t := Nat.mod_lt _ hpos
    have hkk : i = i / size b.t * size b.t + i % size b.t := by rw [Nat.mul_comm]; exact (Nat.div_add_mod i (size b.t)).symm
    rw [flat, hkk, get_flatMap_const _ (size b.t) (fun i => length_flat b.t _) _ _ _ hq hrr, getD_sec _ _ _ _ _ hq] at hi
    obtain ⟨v, hv, hvr⟩ := h2 ((s.start + i / size b.t) * size b.t + i % size b.t) d (by
     rw [flat, get_flatMap_const _ (size b.t) (fun i => length_flat b.t _) _ _ _ (by omega) hrr]; exact hi)
    refine ⟨v, ?_, CR_bare hpe hi hvr⟩
    rw [List.getElem?_drop, Array.getElem?_toList, ← hv]
    congr 1
    show ph.off + s.start * size b.t + i = _
    rw [Nat.add_mul]; omega
  ·cases h
 ·cases h
theorem lendD_ok (hm : MemRel base φ mem nxt w) (him : ∀ k o, φ.imm k = some o → im k = some o) (hall : ∀ i b ph, Mem.get mem i = some b → φ i = some ph → (ow = true → b.wr = true) → im ph.blk = w.heap[ph.blk]?) :
 ∀ {D : Dk} {t : Ty} {x : t.den} {y : D.den}, D.okI = true → lendD ow mem D t x = some (y, true) → To φ (φ.with im) t x D.vty (D.toV y)
 | .v t, t', x, y, ho, h => by
  simp only [lendD, Option.map_eq_some_iff, Prod.mk.injEq] at h
  obtain ⟨z, hz, rfl, _⟩ := h
  exact To.asT him ho hz
 | .own c e, t', x, y, ho, h => by
  simp only [lendD] at h
  have one : ∀ {t' : Ty} {x : t'.den} {c0 : Cell}, isTup t' = false → isAgg t' = false → flat t' x = [c0] → (∀ v, CR φ c0 v → CR (φ.with im) (.vs (List.length y) (flat (.arr (List.length y) e) y)) v) → To φ (φ.with im) t' x (.vsl e) y := by
   intro t' x c0 ht ha hf hh
   refine ⟨by rw [ha]; rfl, rfl, ht, ?_, fun j c' hj => ?_⟩
   ·rw [← length_flat t' x, hf]; rfl
   ·cases j with
    | zero =>
     simp [flat] at hj; subst hj
     exact ⟨c0, by rw [hf]; rfl, hh⟩
    | succ j => simp [flat] at hj
  unfold lendS1 at h
  split at h
  ·simp only [Option.some.injEq, Prod.mk.injEq] at h
   obtain ⟨rfl, _⟩ := h
   refine one rfl rfl rfl (fun v hv => ?_)
   unfold CR at hv ⊢
   exact .inl ⟨rfl, hv⟩
  ·refine one rfl rfl rfl (fun v hv => ?_)
   exact lendQ_ok hm him hall ho h (by unfold CR at hv; exact hv)
  ·simp only [Option.map_eq_some_iff, Prod.mk.injEq] at h
   obtain ⟨z, hz, rfl, _⟩ := h
   have hz := asT_eq hz
   cases hz
   obtain ⟨hpe, _⟩ := and_split ho
   refine one rfl rfl rfl (fun v hv => ?_)
   exact CR_imm (φ := φ) (ψ := φ.with im) him (val_cells (t := .vsl e) (x := z) (by
    have : ∀ t : Ty, plainT t = true → valT t = true := by
     intro t
     induction t <;> simp_all [plainT, valT]
    exact this e hpe) _ (by simp [flat])) hv
 | .pr a b, .pair t u, x, y, ho, h => by
  simp only [lendD] at h
  split at h
  ·rename_i y1 c1 z1 d1 h1 h2
   simp only [Option.some.injEq, Prod.mk.injEq] at h
   obtain ⟨rfl, hok⟩ := h
   obtain ⟨rfl, rfl⟩ := and_split hok
   obtain ⟨ha, hb⟩ := and_split ho
   exact To.pair (lendD_ok hm him hall ha h1) (lendD_ok hm him hall hb h2)
  ·cases h
 | .mp _ _ _, t, x, y, ho, h => by cases ho
 | .pr a b, .bool, x, y, ho, h | .pr a b, .int _, x, y, ho, h | .pr a b, .str, x, y, ho, h | .pr a b, .ptr, x, y, ho, h | .pr a b, .slice, x, y, ho, h | .pr a b, .func, x, y, ho, h | .pr a b, .iface, x, y, ho, h | .pr a b, .map, x, y, ho, h | .pr a b, .vsl _, x, y, ho, h | .pr a b, .vptr _, x, y, ho, h | .pr a b, .unit, x, y, ho, h | .pr a b, .arr _ _, x, y, ho, h | .pr a b, .tnil, x, y, ho, h | .pr a b, .tup _ _, x, y, ho, h => by simp [lendD] at h
end
def iPh (v : Value) (n : Nat) (e : Ty) : Option Phys := match v with
 | .slice (some a) _ cc => if n = 0 then none else some ⟨a.block, a.off, e, cc⟩
 | _ => none
def Dk.iph (val : Nat → Value) : (D : Dk) → D.den → Nat → Nat → Option Phys
 | .v _, _, _, _ => none
 | .own _ e, l, k, _ => iPh (val k) l.length e
 | .mp _ _ _, _, _, _ => none
 | .pr a b, x, k, i => if i ∈ a.nms then a.iph val x.1 k i else b.iph val x.2 (k + size a.ty) i
theorem Dk.size_vty : ∀ {D : Dk}, size D.vty = size D.ty
 | .v _ | .own _ _ | .mp _ _ _ => rfl
 | .pr a b => by simp only [size, Dk.size_vty (D := a), Dk.size_vty (D := b)]
def RoAt (base : Nat) (Φ : Phi) (w : World) (i : Nat) (b : Blk) : Prop :=
 b.wr = false ∧ ((Φ i = none ∧ b.n = 0) ∨ ∃ ph, Φ i = some ph ∧ BlkRel base Φ ph b w ∧ ∃ o, Φ.imm ph.blk = some o)
theorem imp_sound {base : Nat} {Φ : Phi} {w : World} (hI : ∀ k o, Φ.imm k = some o → w.heap[k]? = some o) {val : Nat → Value} :
 ∀ {D : Dk} {y : D.den} {k0 : Nat}, D.okI = true → noDup D.nms = true → (∀ (j : Nat) c, (flat D.vty (D.toV y))[j]? = some c → CR Φ c (val (k0 + j))) → (∀ c ∈ D.nms, Φ c = D.iph val y k0 c) →
  (∀ (j : Nat) c, (flat D.ty (D.mkI y))[j]? = some c → CR Φ c (val (k0 + j))) ∧ (∀ i b, Mem.get (D.blksR y) i = some b → RoAt base Φ w i b)
 | .v t, y, k0, ho, hd, hc, hn => ⟨fun j c hj => hc j c hj, fun i b hi => by simp [Dk.blksR, Mem.get] at hi⟩
 | .mp _ _ _, y, k0, ho, hd, hc, hn => by cases ho
 | .own c e, y, k0, ho, hd, hc, hn => by
  obtain ⟨hpe, hnt⟩ := and_split ho
  have hnt : isTup e = false := by simpa using hnt
  have h0 := hc 0 _ rfl
  rw [Nat.add_zero] at h0
  have hn := hn c (by simp [Dk.nms])
  have hn : Φ c = iPh (val k0) (List.length y) e := hn
  have hblk : ∀ {b : Blk} {i : Nat}, Mem.get (Dk.blksR (.own c e) y) i = some b → i = c ∧ b = ⟨e, List.length y, y, false⟩ := by
   intro b i h
   simp only [Dk.blksR, Mem.get_cons] at h
   by_cases e : i = c
   ·rw [if_pos e] at h; cases h; exact ⟨e, rfl⟩
   ·rw [if_neg e] at h; cases h
  have cell : ∀ {s : SL}, SR Φ s (val k0) → s = ⟨c, [], impS y, List.length y, none⟩ → ∀ (j : Nat) d, (flat (Dk.ty (.own c e)) (Dk.mkI (.own c e) y))[j]? = some d → CR Φ d (val (k0 + j)) := by
   intro s hs he j d hj
   subst he
   cases j with
   | zero =>
    simp only [Dk.mkI, flat, List.getElem?_cons_zero, Option.some.injEq] at hj
    subst hj
    unfold CR
    exact hs
   | succ j => simp [Dk.mkI, flat] at hj
  unfold CR at h0
  rcases h0 with ⟨h1, h2⟩ | ⟨a, cc, h1, h2, h3⟩
  ·refine ⟨cell (s := ⟨c, [], impS y, List.length y, none⟩) (.inl ⟨h1, rfl, h2⟩) rfl, fun i b hi => ?_⟩
   obtain ⟨rfl, rfl⟩ := hblk hi
   exact ⟨rfl, .inl ⟨by rw [hn, h2]; rfl, h1⟩⟩
  ·rcases Nat.eq_zero_or_pos (List.length y) with hz | hp
   ·have hy : y = [] := List.length_eq_zero_iff.1 hz
    have hvd : VD ⟨c, [], impS y, List.length y, none⟩ := ⟨by rw [hy]; rfl, hz, rfl⟩
    refine ⟨cell (s := ⟨c, [], impS y, List.length y, none⟩) (.inr ⟨a, cc, h1, h2, fun k hk => (by cases hk), fun _ _ hv => absurd hvd hv, fun _ hv => absurd hvd hv⟩) rfl, fun i b hi => ?_⟩
    obtain ⟨rfl, rfl⟩ := hblk hi
    refine ⟨rfl, .inl ⟨?_, hz⟩⟩
    rw [hn, h1]
    simp [iPh, hz]
   ·obtain ⟨hsp, os, el, fr, him, hcs⟩ := h3 (Nat.pos_iff_ne_zero.1 hp)
    have hne : impS y = 0 := by
     unfold impS
     cases y with
     | nil => simp at hp
     | cons _ _ => rfl
    have hph : Φ c = some ⟨a.block, a.off, e, cc⟩ := by
     rw [hn, h1]
     simp only [iPh]
     rw [if_neg (by omega)]
    have ha : a = ⟨a.block, a.off, none⟩ := by
     obtain ⟨b, o, sp⟩ := a
     simp only at hsp
     rw [hsp]
    refine ⟨cell (s := ⟨c, [], impS y, List.length y, none⟩) (.inr ⟨a, cc, h1, h2, fun k hk => (by cases hk), fun _ _ _ => ⟨_, hph, rfl, by rw [hne]; simp⟩, fun _ _ => ?_⟩) rfl, fun i b hi => ?_⟩
    ·unfold addr
     simp only [hph]
     rw [hne]
     have h00 : offs e [] = some 0 := by cases e <;> rfl
     simp only [List.nil_append, offs, h00, Option.map_some, Nat.zero_mul, Nat.zero_add, Nat.add_zero]
     exact congrArg some ha.symm
    ·obtain ⟨rfl, rfl⟩ := hblk hi
     refine ⟨rfl, .inr ⟨_, hph, ⟨rfl, fun hw => (by cases hw), MpRel.plain hnt _, fun _ => ⟨os, el, fr, hI _ _ him, fun k d hk => ?_, fun hw => (by cases hw)⟩⟩, _, him⟩⟩
     rw [CRs_iff] at hcs
     obtain ⟨v, hv, hx⟩ := hcs k d hk
     refine ⟨v, ?_, hx⟩
     rw [List.getElem?_drop] at hv
     simpa using hv
 | .pr a b, y, k0, ho, hd, hc, hn => by
  obtain ⟨ha, hb⟩ := and_split ho
  obtain ⟨hda, hdb, hdis⟩ := noDup_append hd
  obtain ⟨a1, a2⟩ := imp_sound hI (D := a) (y := y.1) (k0 := k0) (base := base) ha hda (fun j c hj => hc j c (by
   simp only [Dk.toV, flat]
   rw [List.getElem?_append_left (List.getElem?_eq_some_iff.1 hj).1]; exact hj)) (fun c hcm => by
   rw [hn c (by simp [Dk.nms, hcm])]
   simp only [Dk.iph, if_pos hcm])
  obtain ⟨b1, b2⟩ := imp_sound hI (D := b) (y := y.2) (k0 := k0 + size a.ty) (base := base) hb hdb (fun j c hj => by
   have := hc (size a.ty + j) c (by
    simp only [Dk.toV, flat]
    rw [List.getElem?_append_right (by rw [length_flat, Dk.size_vty]; omega), length_flat, Dk.size_vty]
    rw [show size a.ty + j - size a.ty = j by omega]; exact hj)
   rwa [← Nat.add_assoc] at this) (fun c hcm => by
   rw [hn c (by simp [Dk.nms, hcm])]
   simp only [Dk.iph]
   rw [if_neg (fun h => hdis c h hcm)])
  refine ⟨fun j c hj => ?_, fun i b' hi => ?_⟩
  ·simp only [Dk.mkI, flat] at hj
   rcases Nat.lt_or_ge j (size a.ty) with hlt | hge
   ·rw [List.getElem?_append_left (by rw [length_flat]; exact hlt)] at hj
    exact a1 j c hj
   ·rw [List.getElem?_append_right (by rw [length_flat]; exact hge), length_flat] at hj
    have := b1 (j - size a.ty) c hj
    rwa [show k0 + size a.ty + (j - size a.ty) = k0 + j by omega] at this
  ·simp only [Dk.blksR, Mem.get_append] at hi
   split at hi
   ·rename_i x hx
    cases hi
    exact a2 i b' hx
   ·exact b2 i b' hi
theorem Dk.iph_lt {Φ : Phi} {w : World} (hI : ∀ k o, Φ.imm k = some o → w.heap[k]? = some o) {val : Nat → Value} : ∀ {D : Dk} {y : D.den} {k0 i : Nat} {p : Phys}, (∀ (j : Nat) c, (flat D.vty (D.toV y))[j]? = some c → CR Φ c (val (k0 + j))) → D.iph val y k0 i = some p → p.blk < w.heap.size
 | .v _, y, k0, i, p, hc, h => by cases h
 | .mp _ _ _, y, k0, i, p, hc, h => by cases h
 | .own c e, y, k0, i, p, hc, h => by
  have h0 := hc 0 _ rfl
  rw [Nat.add_zero] at h0
  have h : iPh (val k0) (List.length y) e = some p := h
  unfold CR at h0
  rcases h0 with ⟨h1, h2⟩ | ⟨a, cc, h1, h2, h3⟩
  ·rw [h2] at h; cases h
  ·rw [h1] at h
   simp only [iPh] at h
   by_cases hz : List.length y = 0
   ·rw [if_pos hz] at h; cases h
   ·rw [if_neg hz] at h
    cases h
    obtain ⟨_, os, el, fr, him, _⟩ := h3 hz
    exact (Array.getElem?_eq_some_iff.1 (hI _ _ him)).1
 | .pr a b, y, k0, i, p, hc, h => by
  simp only [Dk.iph] at h
  split at h
  ·refine Dk.iph_lt hI (D := a) (y := y.1) (k0 := k0) (fun j c hj => hc j c ?_) h
   simp only [Dk.toV, flat]
   rw [List.getElem?_append_left (List.getElem?_eq_some_iff.1 hj).1]; exact hj
  ·refine Dk.iph_lt hI (D := b) (y := y.2) (k0 := k0 + size a.ty) (fun j c hj => ?_) h
   have := hc (size a.ty + j) c (by
    simp only [Dk.toV, flat]
    rw [List.getElem?_append_right (by rw [length_flat, Dk.size_vty]; omega), length_flat, Dk.size_vty]
    rw [show size a.ty + j - size a.ty = j by omega]; exact hj)
   rwa [← Nat.add_assoc] at this
@[reducible] def BD : List (Nat × Ty) → Type
 | [] => Unit
 | (_, t) :: r => t.den × BD r
inductive Pt where
 | p (D : Dk)
 | im (D : Dk)
 | mv (D : Dk)
 | bx (i : Nat) (t : Ty)
 | cl (g : Nat) (l : List (Nat × Ty))
 | bv (i : Nat) (D : Dk)
@[reducible] def Pt.den : Pt → Type
 | .p D => D.den
 | .im D => D.den
 | .mv D => D.den
 | .bx _ t => t.den
 | .cl _ l => BD l
 | .bv _ D => D.den
def Pt.arg : (q : Pt) → q.den → V
 | .p D, x => ⟨D.vty, D.toV x⟩
 | .im D, x => ⟨D.ty, D.mkI x⟩
 | .mv D, x => ⟨D.ty, D.mk x⟩
 | .bx i _, _ => ⟨.ptr, some ⟨i, [0]⟩⟩
 | .cl g l, _ => ⟨.func, FV.fn g [] (l.map fun y => ptrPk ⟨y.1, [0]⟩)⟩
 | .bv i _, _ => ⟨.ptr, some ⟨i, [0]⟩⟩
def bxM : (l : List (Nat × Ty)) → BD l → Mem
 | [], _ => []
 | (i, t) :: r, x => (i, ⟨t, 1, [x.1], false⟩) :: bxM r x.2
def Pt.blk : (q : Pt) → q.den → Mem
 | .p _, _ => []
 | .im D, x => D.blksR x
 | .mv D, x => D.blks x
 | .bx i t, x => [(i, ⟨t, 1, [x], false⟩)]
 | .cl _ l, x => bxM l x
 | .bv i D, x => [(i, ⟨D.vty, 1, [D.toV x], false⟩)]
def Pt.nms : Pt → List Nat
 | .p _ => []
 | .im D => D.nms
 | .mv D => D.nms
 | .bx i _ => [i]
 | .cl _ l => l.map (·.1)
 | .bv i _ => [i]
def Pt.ok : Pt → Bool
 | .p D => D.okI
 | .im D => D.okI
 | .mv D => D.plain && !isTup D.ty
 | .bx _ t => valT t && !isTup t
 | .cl _ l => l.all fun y => valT y.2 && !isTup y.2
 | .bv _ D => D.okI
def Pt.isMv : Pt → Bool
 | .mv _ => true
 | _ => false
def bxEx (mem : Mem) (t : Ty) (p : PA) : Option (t.den × Bool) := match p.path, Mem.getC mem p.id with
 | [0], some b => if h : b.t = t then some (h ▸ b.row.getD 0 (GX.dflt b.t), Nat.beq b.n 1) else none
 | _, _ => none
def ptrOf : Ty × List Cell0 → Option PA
 | (.ptr, [.ptr (some q)]) => some q
 | _ => none
theorem ptrOf_eq {c : Ty × List Cell0} {q : PA} (h : ptrOf c = some q) : c = ptrPk q := by
 unfold ptrOf at h
 split at h
 ·cases h; rfl
 ·cases h
def clEx (mem : Mem) : (l : List (Nat × Ty)) → List (Ty × List Cell0) → Option (BD l × Bool × List Nat)
 | [], [] => some ((), true, [])
 | (_, t) :: r, k :: cs => match ptrOf k with
  | some q => match bxEx mem t q, clEx mem r cs with
   | some (x, c), some (y, d, u) => some ((x, y), c && d, q.id :: u)
   | _, _ => none
  | none => none
 | _, _ => none
def bvEx (mem lm : Mem) (D : Dk) (p : PA) : Option (D.den × Bool) := match p.path, Mem.getC mem p.id with
 | [0], some b => (lendD false lm D b.t (b.row.getD 0 (GX.dflt b.t))).map fun r => (r.1, r.2 && Nat.beq b.n 1)
 | _, _ => none
def Pt.ex (mem lm : Mem) : (q : Pt) → V → Option (q.den × Bool × List Nat × List Nat)
 | .p D, v => (lendD false lm D v.t v.x).map fun r => (r.1, r.2, [], [])
 | .im D, v => (lendD false lm D v.t v.x).map fun r => (r.1, r.2, [], [])
 | .mv D, v => if h : v.t = D.ty then (match D.rd mem (h ▸ v.x) with | some (y, c, u) => some (y, c, u, []) | none => none) else none
 | .bx _ t, v => match v with
  | ⟨.ptr, some a⟩ => (bxEx mem t a).map fun r => (r.1, r.2, [], [a.id])
  | _ => none
 | .cl g l, v => match v with
  | ⟨.func, FV.fn g' [] b⟩ => bif Nat.beq g' g then (clEx mem l b).map fun r => (r.1, r.2.1, [], r.2.2) else none
  | _ => none
 | .bv _ D, v => match v with
  | ⟨.ptr, some a⟩ => (bvEx mem lm D a).map fun r => (r.1, r.2, [], [a.id])
  | _ => none
theorem V1_conv {φ ψ : Phi} {t t' : Ty} {x : t.den} {x' : t'.den} {v : Value} (ha : isAgg t' = isAgg t) (hs : size t' = size t) (hv : V1 φ t x v)
 (hc : ∀ (j : Nat) c, (flat t' x')[j]? = some c → CR ψ c ((v.cells[j]?).getD undef)) : V1 ψ t' x' v := by
 have hcl := V1_cells hv
 have hlen : v.cells.toList.length = size t := by rw [hcl.1, length_flat]
 unfold V1 at hv ⊢
 rw [ha]
 split
 ·rename_i h
  rw [if_pos h] at hv
  obtain ⟨l, rfl, _⟩ := hv
  refine ⟨l, rfl, ?_, fun j c hj => ?_⟩
  ·have : l.toList.length = size t := hlen
   rw [this, length_flat, hs]
  ·have hlt := (List.getElem?_eq_some_iff.1 hj).1
   have hl2 : j < l.toList.length := by
    have : l.toList.length = size t := hlen
    rw [this, ← hs, ← length_flat t' x']; exact hlt
   refine ⟨l.toList[j], List.getElem?_eq_getElem hl2, ?_⟩
   have := hc j c hj
   have hh : ((Value.agg l).cells[j]?).getD undef = l.toList[j] := by
    have : (Value.agg l).cells = l := rfl
    rw [this, ← Array.getElem?_toList, List.getElem?_eq_getElem hl2]; rfl
   rwa [hh] at this
 ·rename_i h
  rw [if_neg h] at hv
  obtain ⟨c, e, h1⟩ := hv
  have hl : (flat t' x').length = 1 := by rw [length_flat, hs, ← length_flat t x, e]; rfl
  have hcv : v.cells = #[v] := by have := CR_one h1; cases v <;> simp_all [Value.cells, Value.oneCell']
  match hf : flat t' x', hl with
  | [c'], _ =>
   refine ⟨c', rfl, ?_⟩
   have := hc 0 c' (by rw [hf]; rfl)
   rw [hcv] at this
   exact this
theorem V1_val {φ : Phi} {t : Ty} {x : t.den} {v : Value} (hv : V1 φ t x v) : ∀ (j : Nat) c, (flat t x)[j]? = some c → CR φ c ((v.cells[j]?).getD undef) := by
 intro j c hj
 obtain ⟨u, hu, hr⟩ := (V1_cells hv).2 j c hj
 rw [← Array.getElem?_toList, hu]
 exact hr
theorem Dk.agg_vty : ∀ {D : Dk}, isAgg D.ty = isAgg D.vty
 | .v _ | .own _ _ | .mp _ _ _ | .pr _ _ => rfl
theorem Dk.okI_val : ∀ {D : Dk}, D.okI = true → valT D.vty = true ∧ isTup D.vty = false ∧ isTup D.ty = false
 | .v t, h => by
  obtain ⟨h1, h2⟩ := and_split h
  have h2 : isTup t = false := by simpa using h2
  exact ⟨h1, h2, h2⟩
 | .own _ e, h => by
  obtain ⟨h1, h2⟩ := and_split h
  refine ⟨?_, rfl, rfl⟩
  have : ∀ t : Ty, plainT t = true → valT t = true := by
   intro t
   induction t <;> simp_all [plainT, valT]
  exact this e h1
 | .mp _ _ _, h => by cases h
 | .pr a b, h => by
  obtain ⟨h1, h2⟩ := and_split h
  exact ⟨by simp only [Dk.vty, valT, (Dk.okI_val h1).1, (Dk.okI_val h2).1]; rfl, rfl, rfl⟩
structure PartOK (base : Nat) (φ : Phi) (mem : Mem) (w : World) (u : List Nat) (Φ : Phi) (A : Mem) (ns : List Nat) : Prop where
 at_ : ∀ i b, Mem.get A i = some b → i ∈ ns ∧ ((Φ i = none ∧ b.n = 0) ∨ ∃ ph, Φ i = some ph ∧ BlkRel base Φ ph b w ∧
  ((b.wr = false ∧ ∃ o, Φ.imm ph.blk = some o) ∨ (b.wr = true ∧ ∃ i0 b0 ph0, i0 ∈ u ∧ Mem.get mem i0 = some b0 ∧ b0.wr = true ∧ φ i0 = some ph0 ∧ ph0.blk = ph.blk)))
 apart : ∀ i j b b' ph ph', Mem.get A i = some b → Mem.get A j = some b' → i ≠ j → b.wr = true → Φ i = some ph → Φ j = some ph' → ph.blk ≠ ph'.blk
noncomputable def imm1 (φ : Phi) (w : World) (U : List Nat) : Nat → Option Obj := by
 classical
 exact fun k => if ∃ i, i ∈ U ∧ ∃ ph, φ i = some ph ∧ ph.blk = k then φ.imm k else w.heap[k]?
section
variable {base : Nat} {φ : Phi} {mem : Mem} {nxt : Nat} {w : World} {U : List Nat}
theorem imm1_sub (hm : MemRel base φ mem nxt w) : ∀ k o, φ.imm k = some o → imm1 φ w U k = some o := by
 intro k o hk
 unfold imm1
 split
 ·exact hk
 ·exact hm.imm k o hk
theorem imm1_heap (hm : MemRel base φ mem nxt w) : ∀ k o, imm1 φ w U k = some o → w.heap[k]? = some o := by
 intro k o hk
 unfold imm1 at hk
 split at hk
 ·exact hm.imm k o hk
 ·exact hk
theorem imm1_nil : imm1 φ w [] = fun k => w.heap[k]? := by
 funext k
 unfold imm1
 rw [if_neg]
 rintro ⟨i, hi, _⟩
 cases hi
theorem imm1_own {i : Nat} {ph : Phys} (hi : i ∈ U) (hp : φ i = some ph) : imm1 φ w U ph.blk = φ.imm ph.blk := by
 unfold imm1
 rw [if_pos ⟨i, hi, ph, hp, rfl⟩]
theorem imm1_old (hm : MemRel base φ mem nxt w) (hU : ∀ i ∈ U, ∃ b, Mem.get mem i = some b ∧ b.wr = true) {j : Nat} {b : Blk} {ph : Phys} (hj : j ∉ U) (hb : Mem.get mem j = some b) (hp : φ j = some ph) : imm1 φ w U ph.blk = w.heap[ph.blk]? := by
 unfold imm1
 rw [if_neg]
 rintro ⟨i, hi, ph0, h0, h1⟩
 obtain ⟨b0, g0, gw⟩ := hU i hi
 exact hm.apart i j b0 b ph0 ph g0 hb (fun e => hj (e ▸ hi)) gw h0 hp h1
theorem lend_ok1 (hm : MemRel base φ mem nxt w) {lm : Mem} (hlm : (lm = mem ∧ U = []) ∨ lm = []) {D : Dk} (ho : D.okI = true) {v : V} {x : D.den} (h : lendD false lm D v.t v.x = some (x, true)) {xv : Value} (hv : VR φ v xv) :
 V1 (φ.with (imm1 φ w U)) D.vty (D.toV x) xv := by
 have hT : To φ (φ.with (imm1 φ w U)) v.t v.x D.vty (D.toV x) := by
  rcases hlm with ⟨rfl, rfl⟩ | rfl
  ·exact lendD_ok hm (imm1_sub hm) (fun i b ph _ _ _ => by rw [imm1_nil]) ho h
  ·exact lendD_ok (hm.forget (m' := []) (fun i b h => by cases h)) (imm1_sub hm) (fun i b ph h _ _ => by cases h) ho h
 exact hT.V1 (V1_of_VR hT.tup0 hv)
theorem V1_imm3 {φ ψ : Phi} (hi : ∀ k o, φ.imm k = some o → ψ.imm k = some o) {t : Ty} (ht : valT t = true) (htt : isTup t = false) {x : t.den} {v : Value} (h : V1 φ t x v) : V1 ψ t x v :=
 V1_of_VR htt (valV_ok hi (by unfold valV; rw [ht]; rfl) (VR_of_V1 htt h))
theorem box_ok (hm : MemRel base φ mem nxt w) (hU : ∀ i ∈ U, ∃ b, Mem.get mem i = some b ∧ b.wr = true) {t : Ty} (ht : (valT t && !isTup t) = true) {p : PA} {x : t.den} (h : bxEx mem t p = some (x, true)) (hp : p.id ∉ U) :
 p.path = [0] ∧ ∃ ph, φ p.id = some ph ∧ ph.blk < w.heap.size ∧ ∀ Φ : Phi, Φ.imm = imm1 φ w U → BlkRel base Φ ph ⟨t, 1, [x], false⟩ w ∧ ∃ o, Φ.imm ph.blk = some o := by
 obtain ⟨hT, hnt⟩ := and_split ht
 unfold bxEx at h
 split at h
 ·rename_i b hpath hb
  obtain ⟨hb, hbnt⟩ := Mem.getC_spec hb
  split at h
  ·rename_i hbt
   simp only [Option.some.injEq, Prod.mk.injEq] at h
   obtain ⟨rfl, hn1⟩ := h
   obtain ⟨bt, bn, brow, bwr⟩ := b
   simp only at hbt hn1 hbnt
   subst hbt
   have hn1 := Nat.eq_of_beq_eq_true hn1
   subst hn1
   refine ⟨hpath, ?_⟩
   rcases hm.blk p.id _ hb with ⟨_, h0⟩ | ⟨ph, hph, hbr⟩
   ·simp at h0
   ·refine ⟨ph, hph, (hm.fresh _ _ hph).2, fun Φ hΦ => ?_⟩
    obtain ⟨cs, el, fr, g1, g2, g3⟩ := hbr.cells hbnt
    refine ⟨⟨hbr.t, fun e => (by cases e), MpRel.plain hbnt _, fun _ => ⟨cs, el, fr, g1, fun k c hk => ?_, fun e => (by cases e)⟩⟩, .cells cs el fr, ?_⟩
    ·have hk' : (flat (.arr 1 bt) brow)[k]? = some c := by
      have e1 : flat (.arr 1 bt) brow = flat bt (brow.getD 0 (GX.dflt bt)) := by simp [flat, List.range_succ]
      rw [e1, ← flat_one]; exact hk
     obtain ⟨v, hv, hx⟩ := g2 k c hk'
     exact ⟨v, hv, CR_imm (φ := φ) (ψ := Φ) (fun k o h => by rw [hΦ]; exact imm1_sub hm k o h) (val_cells (t := .arr 1 bt) (x := brow) (by simpa [valT] using hT) _ (List.mem_of_getElem? hk')) hx⟩
    ·rw [hΦ, imm1_old hm hU hp hb hph]; exact g1
  ·cases h
 ·cases h
theorem bv_ok (hm : MemRel base φ mem nxt w) (hU : ∀ i ∈ U, ∃ b, Mem.get mem i = some b ∧ b.wr = true) {lm : Mem} (hlm : (lm = mem ∧ U = []) ∨ lm = []) {D : Dk} (ho : D.okI = true) {p : PA} {x : D.den} (h : bvEx mem lm D p = some (x, true)) (hp : p.id ∉ U) :
 p.path = [0] ∧ ∃ ph, φ p.id = some ph ∧ ph.blk < w.heap.size ∧ ∀ Φ : Phi, Φ.imm = imm1 φ w U → BlkRel base Φ ⟨ph.blk, ph.off, D.vty, ph.cap⟩ ⟨D.vty, 1, [D.toV x], false⟩ w ∧ ∃ o, Φ.imm ph.blk = some o := by
 obtain ⟨k1, k2, _⟩ := Dk.okI_val (D := D) ho
 unfold bvEx at h
 split at h
 ·rename_i b hpath hb
  obtain ⟨hb, hbnt⟩ := Mem.getC_spec hb
  simp only [Option.map_eq_some_iff, Prod.mk.injEq] at h
  obtain ⟨⟨y, c⟩, hy, rfl, hc⟩ := h
  obtain ⟨hc, hn1⟩ := and_split hc
  simp only at hc
  subst hc
  obtain ⟨bt, bn, brow, bwr⟩ := b
  have hn1 := Nat.eq_of_beq_eq_true hn1
  simp only at hn1 hbnt hy
  subst hn1
  have hT : To φ (φ.with (imm1 φ w U)) bt (brow.getD 0 (GX.dflt bt)) D.vty (D.toV y) := by
   rcases hlm with ⟨rfl, rfl⟩ | rfl
   ·exact lendD_ok hm (imm1_sub hm) (fun i b ph _ _ _ => by rw [imm1_nil]) ho hy
   ·exact lendD_ok (hm.forget (m' := []) (fun i b h => by cases h)) (imm1_sub hm) (fun i b ph h _ _ => by cases h) ho hy
  refine ⟨hpath, ?_⟩
  rcases hm.blk p.id _ hb with ⟨_, h0⟩ | ⟨ph, hph, hbr⟩
  ·simp at h0
  ·refine ⟨ph, hph, (hm.fresh _ _ hph).2, fun Φ hΦ => ?_⟩
   obtain ⟨cs, el, fr, g1, g2, g3⟩ := hbr.cells hbnt
   refine ⟨⟨rfl, fun e => (by cases e), MpRel.plain k2 _, fun _ => ⟨cs, el, fr, g1, fun k c hk => ?_, fun e => (by cases e)⟩⟩, .cells cs el fr, ?_⟩
   ·have hk' : (flat D.vty (D.toV y))[k]? = some c := by rw [← flat_one]; exact hk
    obtain ⟨c0, hc0, hcr⟩ := hT.cell k c hk'
    have e1 : flat (.arr 1 bt) brow = flat bt (brow.getD 0 (GX.dflt bt)) := by simp [flat, List.range_succ]
    obtain ⟨v, hv, hx⟩ := g2 k c0 (by show (flat (.arr 1 bt) brow)[k]? = some c0; rw [e1]; exact hc0)
    exact ⟨v, hv, CR_imm (φ := φ.with (imm1 φ w U)) (ψ := Φ) (fun k o h => by rw [hΦ]; exact h) (val_cells k1 _ (List.mem_of_getElem? hk')) (hcr v hx)⟩
   ·rw [hΦ, imm1_old hm hU hp hb hph]; exact g1
 ·cases h
end
end Go.GX

namespace Go.GX
set_option linter.unusedSimpArgs false
set_option linter.unusedVariables false
set_option linter.unusedSectionVars false
open Go.RowKit (Below)
section
variable {base : Nat} {φ : Phi} {mem : Mem} {nxt : Nat} {w : World} {U : List Nat}
theorem PartOK.nil {u : List Nat} {Φ : Phi} {ns : List Nat} : PartOK base φ mem w u Φ [] ns := ⟨fun i b h => (by cases h), fun i j b b' ph ph' h => (by cases h)⟩
theorem bxM_get : ∀ {l : List (Nat × Ty)} {x : BD l} {i : Nat} {b : Blk}, Mem.get (bxM l x) i = some b → i ∈ l.map (·.1) ∧ b.wr = false
 | [], _, _, _, h => by cases h
 | (k, t) :: r, x, i, b, h => by
  simp only [bxM, Mem.get_cons] at h
  by_cases e : i = k
  ·rw [if_pos e] at h; cases h; exact ⟨by simp [e], rfl⟩
  ·rw [if_neg e] at h
   obtain ⟨h1, h2⟩ := bxM_get h
   exact ⟨by simp only [List.map_cons, List.mem_cons]; exact .inr h1, h2⟩
theorem cl_ok (hm : MemRel base φ mem nxt w) (hU : ∀ i ∈ U, ∃ b, Mem.get mem i = some b ∧ b.wr = true) :
 ∀ {l : List (Nat × Ty)} {cs : List (Ty × List Cell0)} {x : BD l} {bs : List Nat} {vs : List Value}, (l.all fun y => valT y.2 && !isTup y.2) = true → noDup (l.map (·.1)) = true → clEx mem l cs = some (x, true, bs) → (∀ i ∈ bs, i ∉ U) →
  VL0 φ cs vs → ∃ ad : Nat → Option Phys, (∀ j p, ad j = some p → p.blk < w.heap.size) ∧ ∀ Φ : Phi, Φ.imm = imm1 φ w U → (∀ j ∈ l.map (·.1), Φ j = ad j) →
   VL0 Φ (l.map fun y => ptrPk ⟨y.1, [0]⟩) vs ∧ ∀ i b, Mem.get (bxM l x) i = some b → ∃ ph, Φ i = some ph ∧ BlkRel base Φ ph b w ∧ ∃ o, Φ.imm ph.blk = some o
 | [], [], x, bs, vs, _, _, _, _, hv => ⟨fun _ => none, fun j p h => (by cases h), fun Φ _ _ => ⟨⟨hv.1, fun i c h => by simp at h⟩, fun i b h => (by cases h)⟩⟩
 | (k, t) :: r, kc :: cs, x, bs, vs, hok, hnd, h, hbs, hv => by
  simp only [clEx] at h
  split at h
  ·rename_i p hpo
   have hpo := ptrOf_eq hpo
   subst hpo
   split at h
   ·rename_i y c z d u h1 h2
    simp only [Option.some.injEq, Prod.mk.injEq] at h
    obtain ⟨rfl, hcd, rfl⟩ := h
    obtain ⟨rfl, rfl⟩ := and_split hcd
    rw [List.all_cons] at hok
    obtain ⟨hk, hr⟩ := and_split hok
    obtain ⟨hn1, hn2⟩ := noDup_cons (x := k) (r := r.map (fun y : Nat × Ty => y.1)) hnd
    match vs, hv with
    | [], hv => exact absurd hv.1 (by simp)
    | v :: vs, hv =>
     have hv0 : VC0 φ (ptrPk p) v := by
      obtain ⟨u, hu, hx⟩ := hv.2 0 _ rfl
      simp at hu; subst hu; exact hx
     have hvr : VL0 φ cs vs := ⟨by simpa using hv.1, fun i c hi => by simpa using hv.2 (i + 1) c (by simpa using hi)⟩
     obtain ⟨ad, had, hA⟩ := cl_ok hm hU (l := r) hr hn2 h2 (fun i hi => hbs i (by simp [hi])) hvr
     obtain ⟨hpath, ph, hph, hlt, hB⟩ := box_ok hm hU hk h1 (hbs p.id (by simp))
     refine ⟨fun j => if j = k then some ph else ad j, fun j q hq => ?_, fun Φ hi hn => ?_⟩
     ·by_cases e : j = k
      ·simp only [if_pos e] at hq; cases hq; exact hlt
      ·simp only [if_neg e] at hq; exact had j q hq
     ·have hΦk : Φ k = some ph := by
       have := hn k (by simp)
       simpa using this
      obtain ⟨g1, g2⟩ := hA Φ hi (fun j hj => by
       have := hn j (by simp only [List.map_cons, List.mem_cons]; exact .inr hj)
       have hjk : j ≠ k := fun e => by rw [e] at hj; exact hn1 hj
       rw [this]
       exact if_neg hjk)
      refine ⟨⟨by simp only [List.map_cons, List.length_cons, g1.1], fun i c hc => ?_⟩, fun i b hb => ?_⟩
      ·cases i with
       | zero =>
        simp at hc; subst hc
        refine ⟨v, rfl, ?_⟩
        unfold VC0 ptrPk at hv0 ⊢
        rw [if_neg (by simp [GX.isAgg])] at hv0 ⊢
        obtain ⟨c, hc', hcr⟩ := hv0
        cases hc'
        obtain ⟨ad', had', hvv⟩ := hcr
        refine ⟨_, rfl, ad', ?_, hvv⟩
        unfold addr at had' ⊢
        rw [hpath, hph] at had'
        simp only [hΦk]
        exact had'
       | succ i => simpa using g1.2 i c (by simpa using hc)
      ·simp only [bxM, Mem.get_cons] at hb
       by_cases e : i = k
       ·rw [if_pos e] at hb; cases hb
        subst e
        obtain ⟨q1, q2⟩ := hB Φ hi
        exact ⟨ph, hΦk, q1, q2⟩
       ·rw [if_neg e] at hb
        exact g2 i b hb
   ·cases h
  ·cases h
 | [], _ :: _, x, bs, vs, _, _, h, _, _ => by cases h
 | (_, _) :: _, [], x, bs, vs, _, _, h, _, _ => by cases h
theorem Pt.ex_ok (hm : MemRel base φ mem nxt w) (hU : ∀ i ∈ U, ∃ b, Mem.get mem i = some b ∧ b.wr = true) {lm : Mem} (hlm : (lm = mem ∧ U = []) ∨ lm = []) :
 ∀ {q : Pt} {v : V} {x : q.den} {u bs : List Nat} {xv : Value}, q.ok = true → noDup q.nms = true → q.ex mem lm v = some (x, true, u, bs) → (∀ i ∈ u, i ∈ U) → (∀ i ∈ bs, i ∉ U) → VR φ v xv →
  ∃ ad : Nat → Option Phys, (∀ j p, ad j = some p → p.blk < w.heap.size) ∧ ∀ Φ : Phi, Φ.imm = imm1 φ w U → (∀ j ∈ q.nms, Φ j = ad j) →
   VR Φ (q.arg x) xv ∧ PartOK base φ mem w u Φ (q.blk x) q.nms
 | .p D, v, x, u, bs, xv, ho, hnd, h, _, _, hv => by
  simp only [Pt.ex, Option.map_eq_some_iff, Prod.mk.injEq] at h
  obtain ⟨⟨y, c⟩, hy, rfl, rfl, rfl, rfl⟩ := h
  obtain ⟨k1, k2, _⟩ := Dk.okI_val (D := D) ho
  have hV := lend_ok1 (U := U) hm hlm ho hy hv
  exact ⟨fun _ => none, fun j p h => (by cases h), fun Φ hi _ => ⟨VR_of_V1 k2 (V1_imm3 (fun k o hk => by rw [hi]; exact hk) k1 k2 hV), PartOK.nil⟩⟩
 | .im D, v, x, u, bs, xv, ho, hnd, h, _, _, hv => by
  simp only [Pt.ex, Option.map_eq_some_iff, Prod.mk.injEq] at h
  obtain ⟨⟨y, c⟩, hy, rfl, rfl, rfl, rfl⟩ := h
  obtain ⟨k1, k2, k3⟩ := Dk.okI_val (D := D) ho
  have hV := lend_ok1 (U := U) hm hlm ho hy hv
  have hV2 : ∀ Φ : Phi, Φ.imm = imm1 φ w U → V1 Φ D.vty (D.toV y) xv := fun Φ hi => V1_imm3 (fun k o hk => by rw [hi]; exact hk) k1 k2 hV
  refine ⟨D.iph (fun k => (xv.cells[k]?).getD undef) y 0, fun j p hp => ?_, fun Φ hi hn => ?_⟩
  ·exact Dk.iph_lt (Φ := φ.with (imm1 φ w U)) (imm1_heap hm) (k0 := 0) (fun j c hj => by rw [Nat.zero_add]; exact V1_val hV j c hj) hp
  ·obtain ⟨g1, g2⟩ := imp_sound (base := base) (Φ := Φ) (w := w) (fun k o hk => imm1_heap (U := U) hm k o (by rw [← hi]; exact hk)) (val := fun k => (xv.cells[k]?).getD undef) (k0 := 0) ho hnd (fun j c hj => by rw [Nat.zero_add]; exact V1_val (hV2 Φ hi) j c hj) hn
   refine ⟨VR_of_V1 k3 (V1_conv Dk.agg_vty Dk.size_vty.symm (hV2 Φ hi) (fun j c hj => by have := g1 j c hj; rwa [Nat.zero_add] at this)), fun i b hb => ⟨Dk.get_blksR hb, ?_⟩, fun i j b b' ph ph' hb _ _ hw => ?_⟩
   ·obtain ⟨q1, q2⟩ := g2 i b hb
    exact q2.imp id (fun ⟨ph, r1, r2, r3⟩ => ⟨ph, r1, r2, .inl ⟨q1, r3⟩⟩)
   ·rw [(g2 i b hb).1] at hw; cases hw
 | .mv D, v, x, u, bs, xv, ho, hnd, h, hu, _, hv => by
  simp only [Pt.ex] at h
  split at h
  ·rename_i hvt
   obtain ⟨tv, xv0⟩ := v
   simp only at hvt
   subst hvt
   obtain ⟨hp, htt⟩ := and_split ho
   have htt : isTup D.ty = false := by simpa using htt
   split at h
   ·rename_i y c u' hrd
    simp only [Option.some.injEq, Prod.mk.injEq] at h
    obtain ⟨rfl, rfl, rfl, rfl⟩ := h
    have hrd : D.rd mem xv0 = some (y, true, u') := hrd
    have hV := V1_of_VR htt hv
    have hval := V1_val hV
    refine ⟨D.ph φ (fun k => (xv.cells[k]?).getD undef) xv0 0, fun j p hpj => Dk.ph_lt (fun i ph h => (hm.fresh i ph h).2) hpj, fun Φ hi hn => ?_⟩
    let ψ : Phi := ⟨Φ.ad, φ.imm, φ.lo⟩
    have hsub : ψ.sub Φ := ⟨fun _ _ h => h, fun k o h => by rw [hi]; exact imm1_sub hm k o h⟩
    obtain ⟨g1, g2, g3⟩ := Dk.sound (ψ := ψ) hm rfl (val := fun k => (xv.cells[k]?).getD undef) (k0 := 0) hrd hp hnd (fun j c hj => by rw [Nat.zero_add]; exact hval j c hj) hn
    refine ⟨VR_of_V1 htt (V1_mono hsub (V1_conv rfl rfl hV (fun j c hj => by have := g1 j c hj; rwa [Nat.zero_add] at this))), fun i b hb => ⟨Dk.get_blks hb, ?_⟩, fun i j b b' ph ph' hb hb' hij _ h1 h2 => g3 i j b b' ph ph' hb hb' hij h1 h2⟩
    rcases g2 i b hb with q | ⟨ph, q1, q2, i0, b0, ph0, q3, q4, q5, q6, q7⟩
    ·exact .inl q
    ·have hbw := blks_wr hb
     have him : Φ.imm ph.blk = none := by
      rw [hi, ← q7, imm1_own (hu i0 q3) q6, q7]
      exact (q2.own hbw).2
     refine .inr ⟨ph, q1, ⟨q2.t, fun hw => ⟨(q2.own hw).1, him⟩, q2.mp.same hsub rfl, fun ht => ?_⟩, .inr ⟨hbw, i0, b0, ph0, q3, q4, q5 hbw, q6, q7⟩⟩
     obtain ⟨cs, el, fr, r1, r2, r3⟩ := q2.cells ht
     refine ⟨cs, el, fr, r1, fun k d hk => ?_, fun hw => ?_⟩
     ·obtain ⟨z, hz, hx⟩ := r2 k d hk
      exact ⟨z, hz, CR_mono hsub hx⟩
     ·obtain ⟨s1, s2, s3, s4⟩ := r3 hw
      exact ⟨s1, s2, him, s4⟩
   ·cases h
  ·cases h
 | .bx i t, v, x, u, bs, xv, ho, hnd, h, _, hbs, hv => by
  simp only [Pt.ex] at h
  split at h
  ·rename_i a
   simp only [Option.map_eq_some_iff, Prod.mk.injEq] at h
   obtain ⟨⟨y, c⟩, hy, rfl, rfl, rfl, rfl⟩ := h
   obtain ⟨hpath, ph, hph, hlt, hB⟩ := box_ok hm hU ho hy (hbs a.id (by simp))
   refine ⟨fun _ => some ph, fun j p h => (by cases h; exact hlt), fun Φ hi hn => ?_⟩
   have hΦ : Φ i = some ph := hn i (by simp [Pt.nms])
   obtain ⟨q1, q2⟩ := hB Φ hi
   have one : ∀ {j : Nat} {b : Blk}, Mem.get (Pt.blk (.bx i t) y) j = some b → j = i ∧ b = ⟨t, 1, [y], false⟩ := by
    intro j b h
    simp only [Pt.blk, Mem.get_cons] at h
    by_cases e : j = i
    ·rw [if_pos e] at h; cases h; exact ⟨e, rfl⟩
    ·rw [if_neg e] at h; cases h
   refine ⟨?_, fun j b hb => ?_, fun j k b b' p p' hb _ _ hw => ?_⟩
   ·obtain ⟨ad', had', hvv⟩ := VR_ptr.1 hv
    refine VR_ptr.2 ⟨ad', ?_, hvv⟩
    unfold addr at had' ⊢
    rw [hpath, hph] at had'
    simp only [hΦ]
    exact had'
   ·obtain ⟨rfl, rfl⟩ := one hb
    exact ⟨by simp [Pt.nms], .inr ⟨ph, hΦ, q1, .inl ⟨rfl, q2⟩⟩⟩
   ·obtain ⟨rfl, rfl⟩ := one hb
    cases hw
  ·cases h
 | .cl g l, v, x, u, bs, xv, ho, hnd, h, _, hbs, hv => by
  simp only [Pt.ex] at h
  split at h
  ·rename_i g' b
   cases hg : Nat.beq g' g <;> rw [hg] at h
   ·cases h
   have hg := Nat.eq_of_beq_eq_true hg
   subst hg
   simp only [cond_true, Option.map_eq_some_iff, Prod.mk.injEq] at h
   obtain ⟨⟨y, c, bs'⟩, hy, rfl, rfl, rfl, rfl⟩ := h
   obtain ⟨xa, xb, hvv, g1, g2⟩ := VR_func.1 hv
   obtain ⟨ad, had, hA⟩ := cl_ok hm hU ho hnd hy hbs g2
   refine ⟨ad, had, fun Φ hi hn => ?_⟩
   obtain ⟨r1, r2⟩ := hA Φ hi hn
   refine ⟨VR_func.2 ⟨xa, xb, hvv, ⟨g1.1, fun i c h => by simp at h⟩, r1⟩, fun i b' hb => ?_, fun i j b1 b2 p1 p2 hb _ _ hw => ?_⟩
   ·obtain ⟨q1, q2⟩ := bxM_get hb
    obtain ⟨ph, s1, s2, s3⟩ := r2 i b' hb
    exact ⟨q1, .inr ⟨ph, s1, s2, .inl ⟨q2, s3⟩⟩⟩
   ·rw [(bxM_get hb).2] at hw; cases hw
  ·cases h
 | .bv i D, v, x, u, bs, xv, ho, hnd, h, _, hbs, hv => by
  simp only [Pt.ex] at h
  split at h
  ·rename_i a
   simp only [Option.map_eq_some_iff, Prod.mk.injEq] at h
   obtain ⟨⟨y, c⟩, hy, rfl, rfl, rfl, rfl⟩ := h
   obtain ⟨hpath, ph, hph, hlt, hB⟩ := bv_ok hm hU hlm ho hy (hbs a.id (by simp))
   refine ⟨fun _ => some ⟨ph.blk, ph.off, D.vty, ph.cap⟩, fun j p h => (by cases h; exact hlt), fun Φ hi hn => ?_⟩
   have hΦ : Φ i = some ⟨ph.blk, ph.off, D.vty, ph.cap⟩ := hn i (by simp [Pt.nms])
   obtain ⟨q1, q2⟩ := hB Φ hi
   have one : ∀ {j : Nat} {b : Blk}, Mem.get (Pt.blk (.bv i D) y) j = some b → j = i ∧ b = ⟨D.vty, 1, [D.toV y], false⟩ := by
    intro j b h
    simp only [Pt.blk, Mem.get_cons] at h
    by_cases e : j = i
    ·rw [if_pos e] at h; cases h; exact ⟨e, rfl⟩
    ·rw [if_neg e] at h; cases h
   refine ⟨?_, fun j b hb => ?_, fun j k b b' p p' hb _ _ hw => ?_⟩
   ·obtain ⟨ad', had', hvv⟩ := VR_ptr.1 hv
    refine VR_ptr.2 ⟨ad', ?_, hvv⟩
    unfold addr at had' ⊢
    rw [hpath, hph] at had'
    simp only [hΦ]
    have h00 : ∀ t : Ty, offs t [] = some 0 := fun t => by cases t <;> rfl
    simp only [offs, h00, Option.map_some, Nat.zero_mul, Nat.zero_add, Nat.add_zero] at had' ⊢
    exact had'
   ·obtain ⟨rfl, rfl⟩ := one hb
    exact ⟨by simp [Pt.nms], .inr ⟨_, hΦ, q1, .inl ⟨rfl, q2⟩⟩⟩
   ·obtain ⟨rfl, rfl⟩ := one hb
    cases hw
  ·cases h
theorem PartOK.append (hm : MemRel base φ mem nxt w) {u1 u2 : List Nat} (hd : ∀ x ∈ u1, x ∉ u2) {Φ : Phi} {A B : Mem} {m n : List Nat} (ha : PartOK base φ mem w u1 Φ A m) (hb : PartOK base φ mem w u2 Φ B n) :
 PartOK base φ mem w (u1 ++ u2) Φ (A ++ B) (m ++ n) := by
 have own : ∀ {ph : Phys} {b : Blk}, BlkRel base Φ ph b w → b.wr = true → Φ.imm ph.blk = none := fun h hw => (h.own hw).2
 have src : ∀ {u1 u2 : List Nat} {i j : Nat} {b b' : Blk} {ph ph' : Phys} {A B : Mem} {m n : List Nat}, (∀ x ∈ u1, x ∉ u2) → PartOK base φ mem w u1 Φ A m → PartOK base φ mem w u2 Φ B n → Mem.get A i = some b → Mem.get B j = some b' → b.wr = true → Φ i = some ph → Φ j = some ph' → ph.blk ≠ ph'.blk := by
  intro u1 u2 i j b b' ph ph' A B m n hd ha hb h1 h2 hw hp hp'
  obtain ⟨_, g1⟩ := ha.at_ i b h1
  obtain ⟨_, g2⟩ := hb.at_ j b' h2
  rcases g1 with ⟨q, _⟩ | ⟨p1, k1, k2, k3⟩
  ·rw [hp] at q; cases q
  ·rw [hp] at k1; cases k1
   rcases g2 with ⟨q, _⟩ | ⟨p2, l1, l2, l3⟩
   ·rw [hp'] at q; cases q
   ·rw [hp'] at l1; cases l1
    rcases k3 with ⟨k3, _⟩ | ⟨_, i0, b0, q0, k4, k5, k6, k7, k8⟩
    ·rw [hw] at k3; cases k3
    ·rcases l3 with ⟨_, o, l4⟩ | ⟨_, i1, b1, q1, l4, l5, l6, l7, l8⟩
     ·intro e
      have := own k2 hw
      rw [e, l4] at this; cases this
     ·rw [← k8, ← l8]
      exact hm.apart i0 i1 b0 b1 q0 q1 k5 l5 (fun e => hd i0 k4 (e ▸ l4)) k6 k7 l7
 refine ⟨fun i b hi => ?_, fun i j b b' ph ph' hi hj hij hw hp hp' => ?_⟩
 ·rw [Mem.get_append] at hi
  have more : ∀ {u : List Nat}, (∀ x ∈ u, x ∈ u1 ++ u2) → ∀ {b : Blk}, ((Φ i = none ∧ b.n = 0) ∨ ∃ ph, Φ i = some ph ∧ BlkRel base Φ ph b w ∧
   ((b.wr = false ∧ ∃ o, Φ.imm ph.blk = some o) ∨ (b.wr = true ∧ ∃ i0 b0 ph0, i0 ∈ u ∧ Mem.get mem i0 = some b0 ∧ b0.wr = true ∧ φ i0 = some ph0 ∧ ph0.blk = ph.blk))) →
   ((Φ i = none ∧ b.n = 0) ∨ ∃ ph, Φ i = some ph ∧ BlkRel base Φ ph b w ∧
   ((b.wr = false ∧ ∃ o, Φ.imm ph.blk = some o) ∨ (b.wr = true ∧ ∃ i0 b0 ph0, i0 ∈ u1 ++ u2 ∧ Mem.get mem i0 = some b0 ∧ b0.wr = true ∧ φ i0 = some ph0 ∧ ph0.blk = ph.blk))) := by
   intro u hu b h
   exact h.imp id (fun ⟨ph, h1, h2, h3⟩ => ⟨ph, h1, h2, h3.imp id (fun ⟨g0, i0, b0, ph0, g1, g2⟩ => ⟨g0, i0, b0, ph0, hu _ g1, g2⟩)⟩)
  split at hi
  ·rename_i x hx
   cases hi
   obtain ⟨h1, h2⟩ := ha.at_ i b hx
   exact ⟨List.mem_append_left _ h1, more (fun x hx => List.mem_append_left _ hx) h2⟩
  ·obtain ⟨h1, h2⟩ := hb.at_ i b hi
   exact ⟨List.mem_append_right _ h1, more (fun x hx => List.mem_append_right _ hx) h2⟩
 ·rw [Mem.get_append] at hi hj
  cases g1 : Mem.get A i with
  | some x1 =>
   rw [g1] at hi; cases hi
   cases g2 : Mem.get A j with
   | some x2 => exact ha.apart i j b x2 ph ph' g1 g2 hij hw hp hp'
   | none =>
    rw [g2] at hj
    exact src hd ha hb g1 hj hw hp hp'
  | none =>
   rw [g1] at hi
   cases g2 : Mem.get A j with
   | some x2 => exact src (fun x h1 h2 => hd x h2 h1) hb ha hi g2 hw hp hp'
   | none =>
    rw [g2] at hj
    exact hb.apart i j b b' ph ph' hi hj hij hw hp hp'
end
@[reducible] def PD : List Pt → Type
 | [] => Unit
 | q :: r => q.den × PD r
def ptA : (l : List Pt) → PD l → List V
 | [], _ => []
 | q :: r, x => q.arg x.1 :: ptA r x.2
def ptM : (l : List Pt) → PD l → Mem
 | [], _ => []
 | q :: r, x => q.blk x.1 ++ ptM r x.2
def ptN : List Pt → List Nat
 | [] => []
 | q :: r => q.nms ++ ptN r
def hasMv : List Pt → Bool
 | [] => false
 | q :: r => q.isMv || hasMv r
def ptX (mem lm : Mem) : (l : List Pt) → List V → Option (PD l × Bool × List Nat × List Nat)
 | [], [] => some ((), true, [], [])
 | q :: r, v :: vs => match q.ex mem lm v, ptX mem lm r vs with
  | some (x, c, u, b), some (y, d, u', b') => bif anyIn u u' then none else some ((x, y), c && d, u ++ u', b ++ b')
  | _, _ => none
 | _, _ => none
section
variable {base : Nat} {φ : Phi} {mem : Mem} {nxt : Nat} {w : World} {U : List Nat}
theorem ptX_ok (hm : MemRel base φ mem nxt w) (hU : ∀ i ∈ U, ∃ b, Mem.get mem i = some b ∧ b.wr = true) {lm : Mem} (hlm : (lm = mem ∧ U = []) ∨ lm = []) :
 ∀ {l : List Pt} {args : List V} {x : PD l} {u bs : List Nat} {xs : List Value}, l.all Pt.ok = true → noDup (ptN l) = true → ptX mem lm l args = some (x, true, u, bs) → (∀ i ∈ u, i ∈ U) → (∀ i ∈ bs, i ∉ U) → ARL φ args xs →
  ∃ ad : Nat → Option Phys, (∀ j p, ad j = some p → p.blk < w.heap.size) ∧ ∀ Φ : Phi, Φ.imm = imm1 φ w U → (∀ j ∈ ptN l, Φ j = ad j) →
   ARL Φ (ptA l x) xs ∧ PartOK base φ mem w u Φ (ptM l x) (ptN l)
 | [], [], x, u, bs, xs, _, _, h, _, _, hA => ⟨fun _ => none, fun j p h => (by cases h), fun Φ _ _ => ⟨⟨hA.1, fun i v h => by simp [ptA] at h⟩, PartOK.nil⟩⟩
 | q :: r, v :: vs, x, u, bs, xs, ho, hnd, h, hu, hbs, hA => by
  simp only [ptX] at h
  split at h
  ·rename_i x1 c1 u1 b1 x2 c2 u2 b2 h1 h2
   cases hc : anyIn u1 u2 <;> rw [hc] at h
   ·simp only [cond_false, Option.some.injEq, Prod.mk.injEq] at h
    obtain ⟨rfl, hcd, rfl, rfl⟩ := h
    obtain ⟨rfl, rfl⟩ := and_split hcd
    rw [List.all_cons] at ho
    obtain ⟨ho1, ho2⟩ := and_split ho
    obtain ⟨n1, n2, n3⟩ := noDup_append (a := q.nms) (b := ptN r) hnd
    match xs, hA with
    | [], hA => exact absurd hA.1 (by simp)
    | z :: zs, hA =>
     have h0 : VR φ v z := by
      obtain ⟨y, hy, hr⟩ := hA.2 0 v rfl
      simp at hy; subst hy; exact hr
     have hl : ARL φ vs zs := ⟨by simpa using hA.1, fun i u hi => by simpa using hA.2 (i + 1) u (by simpa using hi)⟩
     obtain ⟨ad1, hb1, hA1⟩ := Pt.ex_ok hm hU hlm ho1 n1 h1 (fun i hi => hu i (List.mem_append_left _ hi)) (fun i hi => hbs i (List.mem_append_left _ hi)) h0
     obtain ⟨ad2, hb2, hA2⟩ := ptX_ok hm hU hlm ho2 n2 h2 (fun i hi => hu i (List.mem_append_right _ hi)) (fun i hi => hbs i (List.mem_append_right _ hi)) hl
     refine ⟨fun j => if j ∈ q.nms then ad1 j else ad2 j, fun j p hp => ?_, fun Φ hi hn => ?_⟩
     ·by_cases e : j ∈ q.nms
      ·simp only [if_pos e] at hp; exact hb1 j p hp
      ·simp only [if_neg e] at hp; exact hb2 j p hp
     ·obtain ⟨g1, g2⟩ := hA1 Φ hi (fun j hj => by
       have := hn j (List.mem_append_left _ hj)
       rw [this]; exact if_pos hj)
      obtain ⟨k1, k2⟩ := hA2 Φ hi (fun j hj => by
       have := hn j (List.mem_append_right _ hj)
       rw [this]; exact if_neg (fun e => n3 j e hj))
      exact ⟨ARL.cons g1 k1, g2.append hm (anyIn_f hc) k2⟩
   ·cases h
  ·cases h
 | [], _ :: _, x, u, bs, xs, _, _, h, _, _, _ => by cases h
 | _ :: _, [], x, u, bs, xs, _, _, h, _, _, _ => by cases h
theorem ptX_src : ∀ {l : List Pt} {lm : Mem} {args : List V} {x : PD l} {u bs : List Nat}, ptX mem lm l args = some (x, true, u, bs) → (∀ i ∈ u, ∃ b, Mem.get mem i = some b ∧ b.wr = true) ∧ (hasMv l = false → u = [])
 | [], lm, [], x, u, bs, h => by
  simp only [ptX, Option.some.injEq, Prod.mk.injEq] at h
  obtain ⟨_, _, rfl, _⟩ := h
  exact ⟨fun i hi => (by cases hi), fun _ => rfl⟩
 | q :: r, lm, v :: vs, x, u, bs, h => by
  simp only [ptX] at h
  split at h
  ·rename_i x1 c1 u1 b1 x2 c2 u2 b2 h1 h2
   cases hc : anyIn u1 u2 <;> rw [hc] at h
   ·simp only [cond_false, Option.some.injEq, Prod.mk.injEq] at h
    obtain ⟨rfl, hcd, rfl, rfl⟩ := h
    obtain ⟨rfl, rfl⟩ := and_split hcd
    obtain ⟨k1, k2⟩ := ptX_src h2
    have one : (∀ i ∈ u1, ∃ b, Mem.get mem i = some b ∧ b.wr = true) ∧ (q.isMv = false → u1 = []) := by
     cases q with
     | p D =>
      simp only [Pt.ex, Option.map_eq_some_iff, Prod.mk.injEq] at h1
      obtain ⟨_, _, _, _, rfl, _⟩ := h1
      exact ⟨fun i hi => (by cases hi), fun _ => rfl⟩
     | im D =>
      simp only [Pt.ex, Option.map_eq_some_iff, Prod.mk.injEq] at h1
      obtain ⟨_, _, _, _, rfl, _⟩ := h1
      exact ⟨fun i hi => (by cases hi), fun _ => rfl⟩
     | mv D =>
      simp only [Pt.ex] at h1
      split at h1
      ·split at h1
       ·rename_i hrd
        simp only [Option.some.injEq, Prod.mk.injEq] at h1
        obtain ⟨rfl, rfl, rfl, rfl⟩ := h1
        exact ⟨rd_src hrd, fun e => by cases e⟩
       ·cases h1
      ·cases h1
     | bx i t =>
      simp only [Pt.ex] at h1
      split at h1
      ·simp only [Option.map_eq_some_iff, Prod.mk.injEq] at h1
       obtain ⟨_, _, _, _, rfl, _⟩ := h1
       exact ⟨fun i hi => (by cases hi), fun _ => rfl⟩
      ·cases h1
     | bv i D =>
      simp only [Pt.ex] at h1
      split at h1
      ·simp only [Option.map_eq_some_iff, Prod.mk.injEq] at h1
       obtain ⟨_, _, _, _, rfl, _⟩ := h1
       exact ⟨fun i hi => (by cases hi), fun _ => rfl⟩
      ·cases h1
     | cl g l =>
      simp only [Pt.ex] at h1
      split at h1
      ·rename_i g' b
       cases hg : Nat.beq g' g <;> rw [hg] at h1
       ·cases h1
       simp only [cond_true, Option.map_eq_some_iff, Prod.mk.injEq] at h1
       obtain ⟨_, _, _, _, rfl, _⟩ := h1
       exact ⟨fun i hi => (by cases hi), fun _ => rfl⟩
      ·cases h1
    refine ⟨fun i hi => ?_, fun hv => ?_⟩
    ·rcases List.mem_append.1 hi with hi | hi
     ·exact one.1 i hi
     ·exact k1 i hi
    ·simp only [hasMv, Bool.or_eq_false_iff] at hv
     rw [one.2 hv.1, k2 hv.2]; rfl
   ·cases h
  ·cases h
 | [], lm, _ :: _, x, u, bs, h => by cases h
 | _ :: _, lm, [], x, u, bs, h => by cases h
end
def GOKr (P : Program) (f : Nat) (pts : List Pt) (n1 : Nat) (D : Dk) (n2 : Nat) (x : PD pts) (y : D.den) (W : V) : Prop :=
 ∀ base φ w xs, MemRel base φ (ptM pts x) n1 w → AR φ (ptA pts x) xs → Calls P f xs w fun e w' => ∃ ψ z, e = .returned z ∧ (∀ k o, φ.imm k = some o → ψ.imm k = some o) ∧ (∀ k o, ψ.imm k = some o → φ.imm k = some o ∨ base ≤ k) ∧
  MemRel base ψ (D.blks y) n2 w' ∧ Below base w w' ∧ VR ψ W z
abbrev GOK (P : Program) (f : Nat) (pts : List Pt) (n1 : Nat) (D : Dk) (n2 : Nat) (x : PD pts) (y : D.den) : Prop := GOKr P f pts n1 D n2 x y ⟨D.ty, D.mk y⟩
def smGr (pts : List Pt) (D : Dk) (n2 : Nat) (v : PD pts → D.den) (Wn : Nat → PD pts → V) (k : PD pts → Bool) : Sm := fun args mem nxt =>
 match ptX mem (bif hasMv pts then [] else mem) pts args with
 | some (x, c, u, b) => bif anyIn b u then none else some (Wn nxt x, D.blksN nxt (v x) ++ delL mem u, nxt + n2, k x && c)
 | none => none
def smG (pts : List Pt) (D : Dk) (n2 : Nat) (v : PD pts → D.den) (k : PD pts → Bool) : Sm := smGr pts D n2 v (fun nxt x => ⟨D.ty, D.mkN nxt (v x)⟩) k
def ptOk (pts : List Pt) (n1 : Nat) (D : Dk) (n2 : Nat) : Bool := pts.all Pt.ok && (noDup (ptN pts) && ((ptN pts).all (fun i => Nat.blt i n1) && (D.bare && (noDup D.nms && D.nms.all (fun i => Nat.blt i n2)))))
theorem SmOK.smGr {P : Program} {f : Nat} {pts : List Pt} {n1 : Nat} {D : Dk} {n2 : Nat} {v : PD pts → D.den} {W : PD pts → V} {Wn : Nat → PD pts → V} {k : PD pts → Bool} (hok : ptOk pts n1 D n2 = true)
 (hW : ∀ (nxt : Nat) (x : PD pts) (χ φ2 : Phi) (z : Value), D.bare = true → (∀ c ∈ D.nms, φ2 (c + nxt) = χ c) → VR χ (W x) z → VR φ2 (Wn nxt x) z)
 (h : ∀ x, k x = true → GOKr P f pts n1 D n2 x (v x) (W x)) : SmOK P f (GX.smGr pts D n2 v Wn k) := by
 intro args mem nxt u mem' nxt' hg base φ w xs hm hA
 unfold ptOk at hok
 rw [Bool.and_eq_true, Bool.and_eq_true, Bool.and_eq_true, Bool.and_eq_true, Bool.and_eq_true] at hok
 obtain ⟨ho, hnd, hlt, hbare, hnD, hltD⟩ := hok
 rw [List.all_eq_true] at hlt hltD
 have hltD' : ∀ c ∈ D.nms, c < n2 := fun c hc => Nat.le_of_ble_eq_true (hltD c hc)
 have hlt' : ∀ c ∈ ptN pts, c < n1 := fun c hc => Nat.le_of_ble_eq_true (hlt c hc)
 unfold GX.smGr at hg
 split at hg
 ·rename_i x c U bs hx
  cases hb : anyIn bs U <;> rw [hb] at hg
  ·simp only [cond_false, Option.some.injEq, Prod.mk.injEq] at hg
   obtain ⟨rfl, rfl, rfl, hkc⟩ := hg
   obtain ⟨hk, rfl⟩ := and_split hkc
   obtain ⟨hU, hmv⟩ := ptX_src hx
   have hlm : ((bif hasMv pts then [] else mem) = mem ∧ U = []) ∨ (bif hasMv pts then [] else mem) = [] := by
    cases hh : hasMv pts with
    | false => exact .inl ⟨rfl, hmv hh⟩
    | true => exact .inr rfl
   obtain ⟨ad, hadlt, hAd⟩ := ptX_ok hm hU hlm ho hnd hx (fun _ h => h) (anyIn_f hb) (AR_iff.1 hA)
   let Φ : Phi := ⟨fun j => if j ∈ ptN pts then ad j else none, imm1 φ w U, φ.lo⟩
   obtain ⟨A1, PK⟩ := hAd Φ rfl (fun j hj => by show (if j ∈ ptN pts then ad j else none) = ad j; rw [if_pos hj])
   have M1 : MemRel base Φ (ptM pts x) n1 w := by
    refine ⟨fun i b hi => ?_, fun i j b b' ph ph' hi hj hij hw hp hp' => PK.apart i j b b' ph ph' hi hj hij hw hp hp', fun i ph hp => ?_, hm.lo, hm.base, fun k o hk => imm1_heap hm k o hk⟩
    ·exact (PK.at_ i b hi).2.imp id (fun ⟨ph, h1, h2, _⟩ => ⟨ph, h1, h2⟩)
    ·have hp : (if i ∈ ptN pts then ad i else none) = some ph := hp
     by_cases e : i ∈ ptN pts
     ·rw [if_pos e] at hp; exact ⟨hlt' i e, hadlt i ph hp⟩
     ·rw [if_neg e] at hp; cases hp
   refine (h x hk base Φ w xs M1 (AR_iff.2 A1)).mono ?_
   rintro e w' ⟨χ, zv, rfl, himm, hnew', hM, hbw, hV⟩
   have hφχ : ∀ k o, φ.imm k = some o → χ.imm k = some o := fun k o hk => himm k o (imm1_sub hm k o hk)
   have hcn : ∀ k, χ.imm k = none → φ.imm k = none := fun k hk => by
    cases hi : φ.imm k with
    | none => rfl
    | some o => rw [hφχ k o hi] at hk; cases hk
   let φ2 : Phi := ⟨fun j => if nxt ≤ j then (if j - nxt ∈ D.nms then χ (j - nxt) else none) else φ j, φ.imm, φ.lo⟩
   have hφ2n : ∀ c ∈ D.nms, φ2 (c + nxt) = χ c := fun c hc => by
    show (if nxt ≤ c + nxt then (if c + nxt - nxt ∈ D.nms then χ (c + nxt - nxt) else none) else φ (c + nxt)) = χ c
    rw [if_pos (by omega), show c + nxt - nxt = c by omega, if_pos hc]
   have hφ2o : ∀ j, j < nxt → φ2 j = φ j := fun j hj => by
    show (if nxt ≤ j then _ else φ j) = φ j
    rw [if_neg (by omega)]
   have hle2 : φ.le φ2 := ⟨⟨fun i ph hp => by rw [hφ2o i (hm.fresh i ph hp).1]; exact hp, fun _ _ h => h⟩, fun _ _ h => .inl h, rfl⟩
   have hout : ∀ j ph, Mem.get (D.blksN nxt (v x)) j = none → φ2 j = some ph → φ j = some ph := by
    intro j ph hg hp
    have hp : (if nxt ≤ j then (if j - nxt ∈ D.nms then χ (j - nxt) else none) else φ j) = some ph := hp
    by_cases e : nxt ≤ j
    ·rw [if_pos e] at hp
     by_cases e2 : j - nxt ∈ D.nms
     ·obtain ⟨⟨b, hb⟩, _⟩ := names_get (k := nxt) (y := v x) e2
      rw [show j - nxt + nxt = j by omega] at hb
      rw [hg] at hb; cases hb
     ·rw [if_neg e2] at hp; cases hp
    ·rw [if_neg e] at hp; exact hp
   have hnew : ∀ j b', Mem.get (D.blksN nxt (v x)) j = some b' → ∃ c, c ∈ D.nms ∧ j = c + nxt ∧ Mem.get (D.blks (v x)) c = some b' ∧ b'.wr = true ∧ φ2 j = χ c ∧ ((φ2 j = none ∧ b'.n = 0) ∨ ∃ ph, φ2 j = some ph ∧ BlkRel base φ2 ph b' w') := by
    intro j b' hj
    obtain ⟨c, h1, h2, h3⟩ := get_blksN hj
    have hj2 : φ2 j = χ c := by rw [h2]; exact hφ2n c h1
    refine ⟨c, h1, h2, h3, blks_wr h3, hj2, ?_⟩
    rcases hM.blk c b' h3 with ⟨q1, q2⟩ | ⟨ph, q1, q2⟩
    ·exact .inl ⟨by rw [hj2]; exact q1, q2⟩
    ·exact .inr ⟨ph, by rw [hj2]; exact q1, blks_ren hbare h3 q2 (hcn _ (q2.own (blks_wr h3)).2)⟩
   have hold : ∀ j b' ph, j ∉ U → Mem.get mem j = some b' → φ j = some ph → ∃ o, χ.imm ph.blk = some o ∧ w'.heap[ph.blk]? = w.heap[ph.blk]? := by
    intro j b' ph hj hg hp
    have hlt' := (hm.fresh j ph hp).2
    have hh : w.heap[ph.blk]? = some w.heap[ph.blk] := Array.getElem?_eq_getElem hlt'
    have h1 : imm1 φ w U ph.blk = some w.heap[ph.blk] := by rw [imm1_old hm hU hj hg hp]; exact hh
    have h2 := himm _ _ h1
    exact ⟨_, h2, by rw [hM.imm _ _ h2, hh]⟩
   have oldc : ∀ {j b' ph}, Mem.get (D.blksN nxt (v x)) j = none → Mem.get (delL mem U) j = some b' → φ2 j = some ph → j ∉ U ∧ Mem.get mem j = some b' ∧ φ j = some ph := by
    intro j b' ph hy hg hp
    rw [get_delL] at hg
    by_cases e : j ∈ U
    ·rw [if_pos e] at hg; cases hg
    ·rw [if_neg e] at hg
     exact ⟨e, hg, hout j ph hy hp⟩
   have nold : ∀ {ph c b0}, Mem.get (D.blks (v x)) c = some b0 → χ c = some ph → ∀ {ph'} {o : Obj}, χ.imm (Phys.blk ph') = some o → ph.blk ≠ ph'.blk := by
    intro ph c b0 g0 hc ph' o ho e
    have := (hM.blkAt g0 hc).own (blks_wr g0)
    rw [e, ho] at this; cases this.2
   refine ⟨φ2, zv, rfl, hle2, ⟨fun j b' hj => ?_, fun i j b1 b2 ph1 ph2 hi hj hij hw hp1 hp2 => ?_, fun j ph hj => ?_, hm.lo, hM.base, fun k o hk => hM.imm k o (hφχ k o hk)⟩, hbw, ?_⟩
   ·rw [Mem.get_append] at hj
    split at hj
    ·rename_i y hy
     cases hj
     obtain ⟨_, _, _, _, _, _, h6⟩ := hnew j b' hy
     exact h6
    ·rename_i hy
     have hj0 := hj
     rw [get_delL] at hj
     by_cases e : j ∈ U
     ·rw [if_pos e] at hj; cases hj
     ·rw [if_neg e] at hj
      rcases hm.blk j b' hj with ⟨q1, q2⟩ | ⟨ph, q1, q2⟩
      ·refine .inl ⟨?_, q2⟩
       cases hp : φ2 j with
       | none => rfl
       | some ph => rw [hout j ph hy hp] at q1; cases q1
      ·obtain ⟨o, _, h2⟩ := hold j b' ph e hj q1
       exact .inr ⟨ph, by rw [hφ2o j (hm.fresh j ph q1).1]; exact q1, q2.same hle2 (fun _ h => h) h2⟩
   ·rw [Mem.get_append] at hi hj
    cases g1 : Mem.get (D.blksN nxt (v x)) i with
    | some y1 =>
     obtain ⟨c1, f1, f2, f3, f4, f5, _⟩ := hnew i y1 g1
     have hc1 : χ c1 = some ph1 := by rw [← f5]; exact hp1
     cases g2 : Mem.get (D.blksN nxt (v x)) j with
     | some y2 =>
      obtain ⟨c2, k1, k2, k3, k4, k5, _⟩ := hnew j y2 g2
      have hc2 : χ c2 = some ph2 := by rw [← k5]; exact hp2
      exact hM.apart c1 c2 y1 y2 ph1 ph2 f3 k3 (fun e => hij (by rw [f2, k2, e])) f4 hc1 hc2
     | none =>
      rw [g2] at hj
      obtain ⟨q1, q2, q3⟩ := oldc g2 hj hp2
      obtain ⟨o, ho, _⟩ := hold j b2 ph2 q1 q2 q3
      exact nold f3 hc1 ho
    | none =>
     rw [g1] at hi
     obtain ⟨q1, q2, q3⟩ := oldc g1 hi hp1
     cases g2 : Mem.get (D.blksN nxt (v x)) j with
     | some y2 =>
      obtain ⟨c2, k1, k2, k3, k4, k5, _⟩ := hnew j y2 g2
      have hc2 : χ c2 = some ph2 := by rw [← k5]; exact hp2
      obtain ⟨o, ho, _⟩ := hold i b1 ph1 q1 q2 q3
      exact (nold k3 hc2 ho).symm
     | none =>
      rw [g2] at hj
      obtain ⟨r1, r2, r3⟩ := oldc g2 hj hp2
      exact hm.apart i j b1 b2 ph1 ph2 q2 r2 hij hw q3 r3
   ·by_cases e : nxt ≤ j
    ·have hj : (if nxt ≤ j then (if j - nxt ∈ D.nms then χ (j - nxt) else none) else φ j) = some ph := hj
     rw [if_pos e] at hj
     by_cases e2 : j - nxt ∈ D.nms
     ·rw [if_pos e2] at hj
      have h1 := hM.fresh _ _ hj
      have h2 := hltD' _ e2
      exact ⟨by omega, h1.2⟩
     ·rw [if_neg e2] at hj; cases hj
    ·rw [hφ2o j (by omega)] at hj
     have h1 := hm.fresh j ph hj
     exact ⟨by omega, Nat.lt_of_lt_of_le h1.2 hbw.size⟩
   ·exact hW nxt x χ φ2 zv hbare hφ2n hV
  ·cases hg
 ·cases hg
theorem VR_mkN {D : Dk} {y : D.den} {nxt : Nat} {χ φ2 : Phi} {z : Value} (hbare : D.bare = true) (hφ2n : ∀ c ∈ D.nms, φ2 (c + nxt) = χ c) (hV : VR χ ⟨D.ty, D.mk y⟩ z) : VR φ2 ⟨D.ty, D.mkN nxt y⟩ z := by
 cases htt : isTup D.ty with
 | true =>
  cases D with
  | v t => exact plainV_ok (φ := χ) (ψ := φ2) (by unfold plainV; have : plainT t = true := hbare; rw [this]; rfl) hV
  | own _ _ => cases htt
  | mp _ _ _ => cases htt
  | pr _ _ => cases htt
 | false =>
  have hV := V1_of_VR htt hV
  refine VR_of_V1 htt (To.V1 (φ := χ) (x := D.mk y) ⟨rfl, htt, htt, rfl, fun j d hd => ?_⟩ hV)
  exact mkN_cells hbare hφ2n j d hd
theorem SmOK.smG {P : Program} {f : Nat} {pts : List Pt} {n1 : Nat} {D : Dk} {n2 : Nat} {v : PD pts → D.den} {k : PD pts → Bool} (hok : ptOk pts n1 D n2 = true)
 (h : ∀ x, k x = true → GOK P f pts n1 D n2 x (v x)) : SmOK P f (GX.smG pts D n2 v k) :=
 SmOK.smGr (W := fun x => ⟨D.ty, D.mk (v x)⟩) hok (fun nxt x χ φ2 z hb hn hv => VR_mkN hb hn hv) h
end Go.GX

namespace Go.GX
set_option linter.unusedSimpArgs false
set_option linter.unusedVariables false
set_option linter.unusedSectionVars false
open Go.RowKit (Below)
def fnH {ρ : Type} (C : Cx) (fn : Func) (args : List V) (mem : Mem) (n1 : Nat) (leaf : V → Mem → Option ρ) : Option ρ :=
 match fn.body with
 | none => none
 | some c => bif Nat.ble args.length fn.ntmps then
  codeT C c ⟨putArgs args 0 .lf, fn.ntmps, mem, n1, true⟩ fun e s => match e with
   | .exit _ => none
   | .goto _ => none
   | .pan _ _ => none
   | _ => match resY C.Θ fn s with
    | some (v, s', c) => bif c then leaf v s'.mem else none
    | none => none
  else none
theorem fnH_ok {ρ : Type} {P : Program} {C : Cx} (hC : CxOK P C) {fn : Func} {f : Nat} (hf : P.funcs[f]? = some fn) {n1 : Nat} (hL : ∀ c, fn.body = some c → LOK P C n1 c) {args : List V} {mem : Mem} {leaf : V → Mem → Option ρ} {r : ρ} (h : fnH C fn args mem n1 leaf = some r)
 {base : Nat} {φ : Phi} {w : World} {xs : Array Value} (hm : MemRel base φ mem n1 w) (hA : AR φ args xs) :
 Calls P f xs w fun e w' => ∃ χ s v z a, e = .returned z ∧ Phi.leK n1 φ χ ∧ Rel base χ s a w' ∧ leaf v s.mem = some r ∧ VR χ v z ∧ Below base w w' := by
 unfold fnH at h
 split at h
 ·cases h
 ·rename_i c hc
  cases hb : Nat.ble args.length fn.ntmps <;> rw [hb] at h
  ·cases h
  ·simp only [cond_true] at h
   have hle := Nat.le_of_ble_eq_true hb
   refine calls_of_wp hf hc (codeT_ok hC (hL c hc) (base := base) (φ := φ) (fun x s hs => ?_) h ⟨fun s u c' hs => ?_, by simp [hA.1]; omega, hm, rfl⟩ ?_)
   ·split at hs
    ·cases hs
    ·cases hs
    ·cases hs
    ·split at hs
     ·rename_i v s' c hres
      cases hk : c <;> rw [hk] at hs hres
      ·cases hs
      ·unfold resY at hres
       split at hres
       ·simp only [Option.some.injEq, Prod.mk.injEq] at hres
        exact pubs_mono (and_split hres.2.2).2
       ·cases hres
     ·cases hs
   ·rcases putArgs_get hs with ⟨hc', _, hg⟩ | hg
    ·subst hc'
     simp only [Nat.sub_zero] at hg
     obtain ⟨x, hx, hr⟩ := hA.2 s u hg
     refine ⟨fun _ => ?_, fun e => by cases e⟩
     have hsz : s < xs.size := (Array.getElem?_eq_some_iff.1 hx).1
     rw [Array.getD_eq_getD_getElem?, Array.getElem?_append_left hsz, hx]
     exact hr
    ·simp [Tr.get] at hg
   ·intro x e s ψ a' w' he h1 hr' hb' h4
    have post : a'.defers = [] ∧ ∃ z, (results fn a'.tmps).run P w' = .ok z w' ∧ (∃ χ s v z' a, Ending.returned z = .returned z' ∧ Phi.leK n1 φ χ ∧ Rel base χ s a w' ∧ leaf v s.mem = some r ∧ VR χ v z' ∧ Below base w w') := by
     have h4 : (match resY C.Θ fn s with | some (v, s', c) => bif c then leaf v s'.mem else none | none => none) = some r := by
      rcases EX_of he with ⟨rfl, rfl⟩ | ⟨j, rfl, rfl⟩ | ⟨rfl, rfl⟩ | ⟨j, rfl, rfl⟩ | ⟨_, _, rfl, rfl⟩
      ·exact h4
      ·cases h4
      ·exact h4
      ·cases h4
      ·cases h4
     split at h4
     ·rename_i v s' cc hres
      cases hk : cc <;> rw [hk] at h4 hres
      ·cases h4
      ·simp only [cond_true] at h4
       obtain ⟨χ, hχ, hr2, _, z, hrun, hz⟩ := resY_ok hC.Θ hr' hres
       exact ⟨hr'.defers, z, hrun, χ, s', v, z, _, rfl, Phi.leK_trans h1 hχ.toK, hr2, h4, hz, hb'⟩
     ·cases h4
    rcases EX_of he with ⟨rfl, rfl⟩ | ⟨j, rfl, rfl⟩ | ⟨rfl, rfl⟩ | ⟨j, rfl, rfl⟩ | ⟨_, _, rfl, rfl⟩
    ·exact post
    ·cases h4
    ·exact post
    ·cases h4
    ·cases h4
def leafO (D : Dk) (v : V) (mem : Mem) : Option D.den := if h : v.t = D.ty then (match D.rd mem (h ▸ v.x) with
 | some (y, c, _) => bif c then some y else none
 | none => none) else none
def leafP (D : Dk) (v : V) (mem : Mem) : Option D.den := match lendD true mem D v.t v.x with
 | some (y, c) => bif c then some y else none
 | none => none
theorem leafO_ok {base : Nat} {χ : Phi} {mem : Mem} {nxt n2 : Nat} {w : World} (hm : MemRel base χ mem nxt w) {D : Dk} (hp : D.plain = true) (hnd : noDup D.nms = true) (hlt : ∀ c ∈ D.nms, c < n2) {v : V} {y : D.den} (h : leafO D v mem = some y) {z : Value} (hz : VR χ v z) :
 ∃ ψ : Phi, ψ.imm = χ.imm ∧ MemRel base ψ (D.blks y) n2 w ∧ VR ψ ⟨D.ty, D.mk y⟩ z := by
 unfold leafO at h
 split at h
 ·rename_i hvt
  obtain ⟨tv, x0⟩ := v
  simp only at hvt
  subst hvt
  split at h
  ·rename_i y' c u hrd
   cases hc : c <;> rw [hc] at h hrd
   ·cases h
   ·simp only [cond_true, Option.some.injEq] at h
    subst h
    have hrd : D.rd mem x0 = some (y', true, u) := hrd
    cases htt : isTup D.ty with
    | true =>
     cases D with
     | v t =>
      simp only [Dk.rd, Option.some.injEq, Prod.mk.injEq] at hrd
      obtain ⟨rfl, _, _⟩ := hrd
      refine ⟨⟨fun _ => none, χ.imm, χ.lo⟩, rfl, ⟨fun i b h => (by simp [Dk.blks, Mem.get] at h), fun i j b b' p p' h => (by simp [Dk.blks, Mem.get] at h), fun i p h => (by cases h), hm.lo, hm.base, hm.imm⟩, ?_⟩
      exact valV_ok (φ := χ) (ψ := ⟨fun _ => none, χ.imm, χ.lo⟩) (fun _ _ h => h) (by unfold valV; have : valT t = true := hp; rw [this]; rfl) hz
     | own _ _ => cases htt
     | mp _ _ _ => cases htt
     | pr _ _ => cases htt
    | false =>
     have hV := V1_of_VR htt hz
     let ψ : Phi := ⟨fun j => if j ∈ D.nms then D.ph χ (fun k => (z.cells[k]?).getD undef) x0 0 j else none, χ.imm, χ.lo⟩
     obtain ⟨g1, g2, g3⟩ := Dk.sound (ψ := ψ) hm rfl (val := fun k => (z.cells[k]?).getD undef) (k0 := 0) hrd hp hnd (fun j c hj => by rw [Nat.zero_add]; exact V1_val hV j c hj) (fun c hc => by
      show (if c ∈ D.nms then _ else none) = _
      rw [if_pos hc])
     refine ⟨ψ, rfl, ⟨fun i b hi => ?_, fun i j b b' p p' hi hj hij _ h1 h2 => g3 i j b b' p p' hi hj hij h1 h2, fun i p h => ?_, hm.lo, hm.base, hm.imm⟩, VR_of_V1 htt (V1_conv rfl rfl hV (fun j c hj => by have := g1 j c hj; rwa [Nat.zero_add] at this))⟩
     ·exact (g2 i b hi).imp id (fun ⟨ph, q1, q2, _⟩ => ⟨ph, q1, q2⟩)
     ·have h : (if i ∈ D.nms then D.ph χ (fun k => (z.cells[k]?).getD undef) x0 0 i else none) = some p := h
      by_cases e : i ∈ D.nms
      ·rw [if_pos e] at h
       exact ⟨hlt i e, Dk.ph_lt (fun i ph h => (hm.fresh i ph h).2) h⟩
      ·rw [if_neg e] at h; cases h
  ·cases h
 ·cases h
def fnV (C : Cx) (fn : Func) (pts : List Pt) (n1 : Nat) (D : Dk) (x : PD pts) : Option D.den := fnH C fn (ptA pts x) (ptM pts x) n1 (leafO D)
theorem GOK.ofS {P : Program} {C : Cx} (hC : CxOK P C) {fn : Func} {f : Nat} (hf : P.funcs[f]? = some fn) {pts : List Pt} {n1 : Nat} {D : Dk} {n2 : Nat} {S : PD pts → Option D.den} (hL : ∀ c, fn.body = some c → LOK P C n1 c)
 (hok : (D.plain && ptOk pts n1 D n2) = true) (h : ∀ x, fnV C fn pts n1 D x = S x) : ∀ x, (S x).isSome = true → GOK P f pts n1 D n2 x ((S x).getD D.dflt) := by
 intro x hk base φ w xs hm hA
 obtain ⟨hp, hok⟩ := and_split hok
 unfold ptOk at hok
 rw [Bool.and_eq_true, Bool.and_eq_true, Bool.and_eq_true, Bool.and_eq_true, Bool.and_eq_true] at hok
 obtain ⟨_, _, _, _, hnD, hltD⟩ := hok
 rw [List.all_eq_true] at hltD
 cases hs : S x with
 | none => rw [hs] at hk; cases hk
 | some y =>
  refine (fnH_ok hC hf hL ((h x).trans hs) hm hA).mono ?_
  rintro e w' ⟨χ, s, v, z, a, rfl, h1, hr, hl, hz, hb⟩
  obtain ⟨ψ, g1, g2, g3⟩ := leafO_ok hr.mem hp hnD (fun c hc => Nat.le_of_ble_eq_true (hltD c hc)) hl hz
  exact ⟨ψ, z, rfl, fun k o hk => by rw [g1]; exact h1.imm k o hk, fun k o hk => by
   rw [g1] at hk
   rcases h1.new k o hk with h | h
   ·exact .inl h
   ·exact .inr (by rw [← hm.lo]; exact h), g2, hb, g3⟩
def ptV : (l : List Pt) → PD l → List V
 | [], _ => []
 | .p D :: r, x => ⟨D.vty, D.toV x.1⟩ :: ptV r x.2
 | .im D :: r, x => ⟨D.vty, D.toV x.1⟩ :: ptV r x.2
 | .mv D :: r, x => ⟨D.ty, D.mk x.1⟩ :: ptV r x.2
 | .bx i _ :: r, x => ⟨.ptr, some ⟨i, [0]⟩⟩ :: ptV r x.2
 | .cl g l :: r, x => (Pt.arg (.cl g l) x.1) :: ptV r x.2
 | .bv i _ :: r, x => ⟨.ptr, some ⟨i, [0]⟩⟩ :: ptV r x.2
def Pt.isV : Pt → Bool
 | .p _ => true
 | .im _ => true
 | _ => false
theorem ptE_ok {base : Nat} {φ : Phi} {w : World} (hb : base ≤ w.heap.size) (hI : ∀ k o, φ.imm k = some o → w.heap[k]? = some o) : ∀ {l : List Pt} {x : PD l} {xs : List Value}, l.all Pt.ok = true → l.all Pt.isV = true → noDup (ptN l) = true → ARL φ (ptV l x) xs →
 ∃ ad : Nat → Option Phys, (∀ j p, ad j = some p → p.blk < w.heap.size) ∧ ∀ Φ : Phi, Φ.imm = φ.imm → (∀ j ∈ ptN l, Φ j = ad j) →
  ARL Φ (ptA l x) xs ∧ (∀ i b, Mem.get (ptM l x) i = some b → i ∈ ptN l ∧ RoAt base Φ w i b)
 | [], x, xs, _, _, _, hA => ⟨fun _ => none, fun j p h => (by cases h), fun Φ _ _ => ⟨⟨hA.1, fun i v h => by simp [ptA] at h⟩, fun i b h => (by cases h)⟩⟩
 | q :: r, x, xs, ho, hv, hnd, hA => by
  rw [List.all_cons] at ho hv
  obtain ⟨ho1, ho2⟩ := and_split ho
  obtain ⟨hv1, hv2⟩ := and_split hv
  obtain ⟨n1, n2, n3⟩ := noDup_append (a := q.nms) (b := ptN r) hnd
  have rest : ∀ {v : V}, ptV (q :: r) x = v :: ptV r x.2 → (∀ z, VR φ v z → ∃ ad : Nat → Option Phys, (∀ j p, ad j = some p → p.blk < w.heap.size) ∧ ∀ Φ : Phi, Φ.imm = φ.imm → (∀ j ∈ q.nms, Φ j = ad j) → VR Φ (q.arg x.1) z ∧ (∀ i b, Mem.get (q.blk x.1) i = some b → i ∈ q.nms ∧ RoAt base Φ w i b)) →
   ∃ ad : Nat → Option Phys, (∀ j p, ad j = some p → p.blk < w.heap.size) ∧ ∀ Φ : Phi, Φ.imm = φ.imm → (∀ j ∈ ptN (q :: r), Φ j = ad j) →
    ARL Φ (ptA (q :: r) x) xs ∧ (∀ i b, Mem.get (ptM (q :: r) x) i = some b → i ∈ ptN (q :: r) ∧ RoAt base Φ w i b) := by
   intro v hv hone
   rw [hv] at hA
   match xs, hA with
   | [], hA => exact absurd hA.1 (by simp)
   | z :: zs, hA =>
    have h0 : VR φ v z := by
     obtain ⟨y, hy, hr⟩ := hA.2 0 v rfl
     simp at hy; subst hy; exact hr
    have hl : ARL φ (ptV r x.2) zs := ⟨by simpa using hA.1, fun i u hi => by simpa using hA.2 (i + 1) u (by simpa using hi)⟩
    obtain ⟨ad1, hb1, hA1⟩ := hone z h0
    obtain ⟨ad2, hb2, hA2⟩ := ptE_ok hb hI (x := x.2) ho2 hv2 n2 hl
    refine ⟨fun j => if j ∈ q.nms then ad1 j else ad2 j, fun j p hp => ?_, fun Φ hi hn => ?_⟩
    ·by_cases e : j ∈ q.nms
     ·simp only [if_pos e] at hp; exact hb1 j p hp
     ·simp only [if_neg e] at hp; exact hb2 j p hp
    ·obtain ⟨g1, g2⟩ := hA1 Φ hi (fun j hj => by
      have := hn j (List.mem_append_left _ hj)
      rw [this]; exact if_pos hj)
     obtain ⟨k1, k2⟩ := hA2 Φ hi (fun j hj => by
      have := hn j (List.mem_append_right _ hj)
      rw [this]; exact if_neg (fun e => n3 j e hj))
     refine ⟨ARL.cons g1 k1, fun i b hi => ?_⟩
     simp only [ptM, Mem.get_append] at hi
     split at hi
     ·rename_i y hy
      cases hi
      obtain ⟨s1, s2⟩ := g2 i b hy
      exact ⟨List.mem_append_left _ s1, s2⟩
     ·obtain ⟨s1, s2⟩ := k2 i b hi
      exact ⟨List.mem_append_right _ s1, s2⟩
  cases q with
  | p D =>
   refine rest rfl (fun z hz => ⟨fun _ => none, fun j p h => (by cases h), fun Φ hi _ => ⟨?_, fun i b h => (by cases h)⟩⟩)
   exact valV_ok (φ := φ) (ψ := Φ) (fun k o h => by rw [hi]; exact h) (by show (valT D.vty || _) = true; rw [(Dk.okI_val (D := D) ho1).1]; rfl) hz
  | im D =>
   refine rest rfl (fun z hz => ?_)
   obtain ⟨k1, k2, k3⟩ := Dk.okI_val (D := D) ho1
   have hV := V1_of_VR k2 hz
   have hV2 : ∀ Φ : Phi, Φ.imm = φ.imm → V1 Φ D.vty (D.toV x.1) z := fun Φ hi => V1_imm3 (fun k o hk => by rw [hi]; exact hk) k1 k2 hV
   refine ⟨D.iph (fun k => (z.cells[k]?).getD undef) x.1 0, fun j p hp => ?_, fun Φ hi hn => ?_⟩
   ·exact Dk.iph_lt (Φ := φ) hI (k0 := 0) (fun j c hj => by rw [Nat.zero_add]; exact V1_val hV j c hj) hp
   ·obtain ⟨g1, g2⟩ := imp_sound (base := base) (Φ := Φ) (w := w) (fun k o hk => hI k o (by rw [← hi]; exact hk)) (val := fun k => (z.cells[k]?).getD undef) (k0 := 0) ho1 n1 (fun j c hj => by rw [Nat.zero_add]; exact V1_val (hV2 Φ hi) j c hj) hn
    exact ⟨VR_of_V1 k3 (V1_conv Dk.agg_vty Dk.size_vty.symm (hV2 Φ hi) (fun j c hj => by have := g1 j c hj; rwa [Nat.zero_add] at this)), fun i b hb => ⟨Dk.get_blksR hb, g2 i b hb⟩⟩
  | mv D => cases hv1
  | bx i t => cases hv1
  | cl g l => cases hv1
  | bv i D => cases hv1
def fnW (C : Cx) (fn : Func) (pts : List Pt) (n1 : Nat) (D : Dk) (x : PD pts) : Option D.den := fnH C fn (ptA pts x) (ptM pts x) n1 (leafP D)
theorem PureOK.ofW {P : Program} {C : Cx} (hC : CxOK P C) {fn : Func} {f : Nat} (hf : P.funcs[f]? = some fn) {pts : List Pt} {n1 : Nat} {D : Dk} {S : PD pts → Option D.den} (hL : ∀ c, fn.body = some c → LOK P C n1 c)
 (hok : (D.okI && (pts.all Pt.ok && (pts.all Pt.isV && (noDup (ptN pts) && (ptN pts).all (fun i => Nat.blt i n1))))) = true) (h : ∀ x, fnW C fn pts n1 D x = S x) : ∀ x, (S x).isSome = true → PureOK P f (ptV pts x) ⟨D.vty, D.toV ((S x).getD D.dflt)⟩ := by
 intro x hk φ w xs hI hA
 rw [Bool.and_eq_true, Bool.and_eq_true, Bool.and_eq_true, Bool.and_eq_true] at hok
 obtain ⟨hD, ho, hv, hnd, hlt⟩ := hok
 rw [List.all_eq_true] at hlt
 cases hs : S x with
 | none => rw [hs] at hk; cases hk
 | some y =>
  obtain ⟨ad, hadlt, hAd⟩ := ptE_ok (base := w.heap.size) (Nat.le_refl _) hI ho hv hnd (AR_iff.1 hA)
  let Φ : Phi := ⟨fun j => if j ∈ ptN pts then ad j else none, φ.imm, w.heap.size⟩
  obtain ⟨A1, PK⟩ := hAd Φ rfl (fun j hj => by show (if j ∈ ptN pts then ad j else none) = ad j; rw [if_pos hj])
  have M1 : MemRel w.heap.size Φ (ptM pts x) n1 w := by
   refine ⟨fun i b hi => ?_, fun i j b b' ph ph' hi hj hij hw hp hp' => ?_, fun i ph hp => ?_, rfl, Nat.le_refl _, hI⟩
   ·exact ((PK i b hi).2).2.imp id (fun ⟨ph, h1, h2, _⟩ => ⟨ph, h1, h2⟩)
   ·have := ((PK i b hi).2).1
    rw [hw] at this; cases this
   ·have hp : (if i ∈ ptN pts then ad i else none) = some ph := hp
    by_cases e : i ∈ ptN pts
    ·rw [if_pos e] at hp; exact ⟨Nat.le_of_ble_eq_true (hlt i e), hadlt i ph hp⟩
    ·rw [if_neg e] at hp; cases hp
  refine (fnH_ok hC hf hL ((h x).trans hs) M1 (AR_iff.2 A1)).mono ?_
  rintro e w' ⟨χ, s, v, z, a, rfl, h1, hr, hl, hz, hb⟩
  unfold leafP at hl
  split at hl
  ·rename_i y' c hle
   cases hc : c <;> rw [hc] at hl hle
   ·cases hl
   ·simp only [cond_true, Option.some.injEq] at hl
    subst hl
    have hm := hr.mem
    have hlo : χ.lo = w.heap.size := hm.lo
    let im : Nat → Option Obj := fun k => if w.heap.size ≤ k then w'.heap[k]? else χ.imm k
    have him : ∀ k o, χ.imm k = some o → im k = some o := fun k o h => by
     show (if w.heap.size ≤ k then w'.heap[k]? else χ.imm k) = some o
     split
     ·exact hm.imm k o h
     ·exact h
    have hall : ∀ i b ph, Mem.get s.mem i = some b → χ i = some ph → ((true : Bool) = true → b.wr = true) → im ph.blk = w'.heap[ph.blk]? := fun i b ph h1 h2 h3 => by
     show (if w.heap.size ≤ ph.blk then w'.heap[ph.blk]? else χ.imm ph.blk) = _
     rw [if_pos ((hm.blkAt h1 h2).own (h3 rfl)).1]
    have hT := lendD_ok hm him hall hD hle
    have hV := hT.V1 (V1_of_VR hT.tup0 hz)
    refine ⟨χ.with im, [], s.nxt, z, rfl, ⟨⟨fun i p h => (by cases h), fun k o h => him k o (h1.imm k o h)⟩, fun k o h => ?_, hlo⟩, ⟨fun i b h => by simp [Mem.get] at h, fun i j b b' p1 p2 h => by simp [Mem.get] at h, hm.fresh, hlo, hm.base, fun k o h => ?_⟩, VR_of_V1 (Dk.okI_val hD).2.1 hV, hb⟩
    ·have h : (if w.heap.size ≤ k then w'.heap[k]? else χ.imm k) = some o := h
     split at h
     ·rename_i hk; exact .inr hk
     ·rename_i hk
      exact h1.new k o h
    ·have h : (if w.heap.size ≤ k then w'.heap[k]? else χ.imm k) = some o := h
     split at h
     ·exact h
     ·exact hm.imm k o h
  ·cases hl
def Pt.isP : Pt → Bool
 | .p _ => true
 | _ => false
theorem ptP_eq : ∀ {l : List Pt} {x : PD l}, l.all Pt.isP = true → ptA l x = ptV l x ∧ ptM l x = []
 | [], _, _ => ⟨rfl, rfl⟩
 | .p D :: r, x, h => by
  rw [List.all_cons] at h
  obtain ⟨h1, h2⟩ := ptP_eq (x := x.2) (and_split h).2
  refine ⟨?_, ?_⟩
  ·simp only [ptA, ptV, Pt.arg, h1]
  ·simp only [ptM, Pt.blk, h2]; rfl
 | .im _ :: r, x, h => by rw [List.all_cons] at h; cases (and_split h).1
 | .mv _ :: r, x, h => by rw [List.all_cons] at h; cases (and_split h).1
 | .bx _ _ :: r, x, h => by rw [List.all_cons] at h; cases (and_split h).1
 | .cl _ _ :: r, x, h => by rw [List.all_cons] at h; cases (and_split h).1
 | .bv _ _ :: r, x, h => by rw [List.all_cons] at h; cases (and_split h).1
theorem GOK.ofPure {P : Program} {f : Nat} {pts : List Pt} {n1 : Nat} {T : Ty} {x : PD pts} {y : T.den} (hp : pts.all Pt.isP = true) (hT : plainT T = true) (h : PureOK P f (ptV pts x) ⟨T, y⟩) : GOK P f pts n1 (.v T) 0 x y := by
 intro base φ w xs hm hA
 obtain ⟨h1, h2⟩ := ptP_eq (x := x) hp
 rw [h1] at hA
 refine (h φ w xs hm.imm hA).mono ?_
 rintro e w' ⟨ψ, m, n, z, rfl, h0, h3, h4, h5⟩
 have hs := Below.same h5 (Nat.le_refl _)
 have hm' := hm.same hs (Nat.le_refl _)
 refine ⟨⟨fun _ => none, φ.imm, φ.lo⟩, z, rfl, fun _ _ h => h, fun _ _ h => .inl h, ⟨fun i b h => (by simp [Dk.blks, Mem.get] at h), fun i j b b' p p' h => (by simp [Dk.blks, Mem.get] at h), fun i p h => (by cases h), hm.lo, hm'.base, hm'.imm⟩, h5.mono hm.base, ?_⟩
 exact plainV_ok (φ := ψ) (ψ := ⟨fun _ => none, φ.imm, φ.lo⟩) (by unfold plainV; rw [hT]; rfl) h4
end Go.GX

namespace Go.GX
set_option linter.unusedSimpArgs false
set_option linter.unusedVariables false
set_option linter.unusedSectionVars false
open Go.RowKit (Below)
def endH {ρ : Type} (Θ : Tab) (fn : Func) (leaf : V → Mem → Option ρ) : X → St → Option ρ := fun e s => match e with
 | .exit _ => none
 | .goto _ => none
 | .pan _ _ => none
 | _ => match resY Θ fn s with
  | some (v, s', c) => bif c then leaf v s'.mem else none
  | none => none
theorem clone_gok {P : Program} {C : Cx} (hC : CxOK P C) {fn : Func} {f : Nat} (hf : P.funcs[f]? = some fn) {te : Ty} {T T' eT i0 i1 : Nat} {o2 o3 o4 : Oper} {thn tail : Code}
 (hb : fn.body = some (.seq (.region i0 #[o2] false) (.seq (.seq (.region i1 #[o3, o4] false) (.cond (.tmp 4) thn .skip)) tail)))
 (h2 : o2.op = .assign (.const (.slice none 0 0)) ∧ o2.dst = some 2 ∧ o2.guard = none) (h3 : o3.op = .move (.tmp 0) ∧ o3.dst = some 3 ∧ o3.guard = none)
 (h4 : o4.op = .binOp .eql T (.tmp 3) (.const (.slice none 0 0)) T' ∧ o4.dst = some 4 ∧ o4.guard = none)
 (hT : P.underlying T = some (.slice eT)) (hn : fn.ntmps = 8) (hte : (plainT te && !isTup te) = true) {l : List te.den} {c n2 : Nat} (hcn : c < n2)
 (hnil : l = [] → fnH C fn [⟨.slice, none⟩] [] 0 (leafO (.own c te)) = some l) (hL0 : ∀ c, fn.body = some c → LOK P C 0 c) (hL : LOK P C 0 tail)
 (h : codeT C tail ⟨putArgs [⟨.vsl te, l⟩] 0 .lf, 8, [], 0, true⟩ (endH C.Θ fn (leafO (.own c te))) = some l) : GOK P f [.p (.own c te)] 0 (.own c te) n2 (l, ()) l := by
 intro base φ w xs hm hA
 have hval : valT te = true := (Dk.okI_val (D := .own c te) hte).1
 have fin0 : ∀ {χ : Phi} {mem : Mem} {nxt : Nat} {w' : World} {v : V} {z : Value}, Phi.leK 0 φ χ → MemRel base χ mem nxt w' → leafO (.own c te) v mem = some l → VR χ v z → Below base w w' →
  ∃ ψ z', Ending.returned z = .returned z' ∧ (∀ k o, φ.imm k = some o → ψ.imm k = some o) ∧ (∀ k o, ψ.imm k = some o → φ.imm k = some o ∨ base ≤ k) ∧ MemRel base ψ (Dk.blks (.own c te) l) n2 w' ∧ Below base w w' ∧ VR ψ ⟨Dk.ty (.own c te), Dk.mk (.own c te) l⟩ z' := by
  intro χ mem nxt w' v z h1 hm' hl hz hb
  obtain ⟨ψ, g1, g2, g3⟩ := leafO_ok (n2 := n2) hm' (D := .own c te) hval (by rfl) (fun d hd => by simp [Dk.nms] at hd; subst hd; exact hcn) hl hz
  exact ⟨ψ, z, rfl, fun k o hk => by rw [g1]; exact h1.imm k o hk, fun k o hk => by
   rw [g1] at hk
   rcases h1.new k o hk with h | h
   ·exact .inl h
   ·exact .inr (by rw [← hm.lo]; exact h), g2, hb, g3⟩
 obtain ⟨v, hxs, hv⟩ : ∃ v, xs = #[v] ∧ VR φ ⟨.vsl te, l⟩ v := by
  have h1 := hA.1
  obtain ⟨v, hv, hr⟩ := hA.2 0 _ rfl
  refine ⟨v, ?_, hr⟩
  apply Array.ext'
  have hl : xs.toList.length = 1 := by simpa [ptA] using h1
  match hx : xs.toList, hl with
  | [u], _ =>
   have : xs.toList[0]? = some v := by simpa using hv
   rw [hx] at this
   simp at this
   rw [this]
 subst hxs
 have hv0 := hv
 have hv := VR_vsl.1 hv
 unfold CR at hv
 rcases hv with ⟨hl0, hvn⟩ | ⟨ad, cc, hvs, hlc, himm⟩
 ·have hl : l = [] := List.length_eq_zero_iff.1 hl0
  refine (fnH_ok hC hf hL0 (hnil hl) (xs := #[v]) hm ⟨rfl, fun i u hi => ?_⟩).mono ?_
  ·cases i with
   | zero => simp at hi; subst hi; exact ⟨v, rfl, VR_nilslice.2 hvn⟩
   | succ i => simp at hi
  ·rintro e w' ⟨χ, s, v', z, a, rfl, h1, hr, hl', hz, hb⟩
   exact fin0 h1 hr.mem hl' hz hb
 ·have hvv : VR φ ⟨.vsl te, l⟩ v := hv0
  have fin : ∀ a1 : Act, a1.tmps.size = 8 → a1.defers = [] → a1.tmps.getD 0 undef = v → tail.wp P (bodyPost P fn fun e w' => ∃ ψ z, e = .returned z ∧ (∀ k o, φ.imm k = some o → ψ.imm k = some o) ∧ (∀ k o, ψ.imm k = some o → φ.imm k = some o ∨ base ≤ k) ∧ MemRel base ψ (Dk.blks (.own c te) l) n2 w' ∧ Below base w w' ∧ VR ψ ⟨Dk.ty (.own c te), Dk.mk (.own c te) l⟩ z) a1 w := by
   intro a1 hsz hdf h0
   refine codeT_ok hC hL (base := base) (φ := φ) (fun x s hs => ?_) h ⟨fun s u c' hs => ?_, hsz, hm, hdf⟩ ?_
   ·unfold endH at hs
    split at hs
    ·cases hs
    ·cases hs
    ·cases hs
    ·split at hs
     ·rename_i v s' c hres
      cases hk : c <;> rw [hk] at hs hres
      ·cases hs
      ·unfold resY at hres
       split at hres
       ·simp only [Option.some.injEq, Prod.mk.injEq] at hres
        exact pubs_mono (and_split hres.2.2).2
       ·cases hres
     ·cases hs
   ·rcases putArgs_get hs with ⟨hc', _, hg⟩ | hg
    ·subst hc'
     cases s with
     | zero => simp at hg; subst hg; exact ⟨fun _ => by rw [h0]; exact hvv, fun e => by cases e⟩
     | succ s => simp at hg
    ·simp [Tr.get] at hg
   ·intro x e s ψ a' w' he h1 hr' hb' h4
    have post : a'.defers = [] ∧ ∃ z, (results fn a'.tmps).run P w' = .ok z w' ∧ (∃ ψ z', Ending.returned z = .returned z' ∧ (∀ k o, φ.imm k = some o → ψ.imm k = some o) ∧ (∀ k o, ψ.imm k = some o → φ.imm k = some o ∨ base ≤ k) ∧ MemRel base ψ (Dk.blks (.own c te) l) n2 w' ∧ Below base w w' ∧ VR ψ ⟨Dk.ty (.own c te), Dk.mk (.own c te) l⟩ z') := by
     have h4 : (match resY C.Θ fn s with | some (v, s', cc) => bif cc then leafO (.own c te) v s'.mem else none | none => none) = some l := by
      rcases EX_of he with ⟨rfl, rfl⟩ | ⟨j, rfl, rfl⟩ | ⟨rfl, rfl⟩ | ⟨j, rfl, rfl⟩ | ⟨_, _, rfl, rfl⟩
      ·exact h4
      ·cases h4
      ·exact h4
      ·cases h4
      ·cases h4
     split at h4
     ·rename_i v s' cc hres
      cases hk : cc <;> rw [hk] at h4 hres
      ·cases h4
      ·simp only [cond_true] at h4
       obtain ⟨χ, hχ, hr2, _, z, hrun, hz⟩ := resY_ok hC.Θ hr' hres
       exact ⟨hr'.defers, z, hrun, fin0 (Phi.leK_trans h1 hχ.toK) hr2.mem h4 hz hb'⟩
     ·cases h4
    rcases EX_of he with ⟨rfl, rfl⟩ | ⟨j, rfl, rfl⟩ | ⟨rfl, rfl⟩ | ⟨j, rfl, rfl⟩ | ⟨_, _, rfl, rfl⟩
    ·exact post
    ·cases h4
    ·exact post
    ·cases h4
    ·cases h4
  refine calls_of_wp hf hb ?_
  refine wp_seq (wp_region_list ?_)
  have st2 : ∀ (o : Oper) (x : Operand) (y : Value) (a : Act) (w : World) (ops : Array Oper) (r : List Oper) (Q : Exit → Act → World → Prop), o.guard = none → (o.op = .assign x ∨ o.op = .move x) → wpList P ops Q r (a.put o.dst (a.eval x)) w → wpList P ops Q (o :: r) a w := by
   intro o x y a w ops r Q hg ho hr
   rw [wpList, if_pos (by simp [Region.wanted, hg])]
   rcases ho with ho | ho
   ·exact .inl (by unfold Oper.wp execOp; rw [ho]; exact hr)
   ·exact .inl (by unfold Oper.wp execOp; rw [ho]; exact hr)
  refine st2 o2 _ v _ _ _ _ _ h2.2.2 (.inl h2.1) ?_
  show (Code.seq _ tail).wp P _ _ _
  refine wp_seq ?_
  refine wp_seq (wp_region_list ?_)
  refine st2 o3 _ v _ _ _ _ _ h3.2.2 (.inr h3.1) ?_
  rw [wpList, if_pos (by simp [Region.wanted, h4.2.2])]
  refine .inl ?_
  obtain ⟨g1, g2, g3⟩ := h4
  obtain ⟨dst, op, type, pos, after, guard⟩ := o4
  simp only at g1 g2 g3
  subst g1; subst g2; subst g3
  rw [h2.2.1, h3.2.1, hn]
  unfold Oper.wp
  rw [run_eqlNil (ad := some ad) (n := l.length) (c := cc) hT (by rw [← hvs]; rfl)]
  show (Code.cond (.tmp 4) thn .skip).wp P _ _ _
  refine wp_cond_false rfl ?_
  refine wp_skip ?_
  exact fin _ (by simp [Act.put]) (by simp [Act.put]) (by simp [Act.put])
end Go.GX

namespace Go.GX
end Go.GX

namespace Go.GX
set_option linter.unusedSimpArgs false
set_option linter.unusedVariables false
set_option linter.unusedSectionVars false
open Go.RowKit (Below)
@[reducible] def TT (D : Dk) (t : Ty) : Ty := .tup D.ty (.tup t .tnil)
@[reducible] def TV (D : Dk) (t : Ty) : Ty := .tup D.vty (.tup t .tnil)
theorem VR_TT {φ : Phi} {a t : Ty} {x : a.den} {y : t.den} {z : Value} : VR φ ⟨.tup a (.tup t .tnil), (x, (y, ()))⟩ z ↔ ∃ l z1 z2, z = .tuple l ∧ l.toList = [z1, z2] ∧ V1 φ a x z1 ∧ V1 φ t y z2 := by
 constructor
 ·intro h
  unfold VR at h
  rw [if_pos (show isTup (.tup a (.tup t .tnil)) = true from rfl)] at h
  obtain ⟨l, rfl, v, r, h1, h2, u, s, h3, h4, h5⟩ := h
  have h5 : s = [] := h5
  subst h5
  exact ⟨l, v, u, rfl, by rw [h1, h3], h2, h4⟩
 ·rintro ⟨l, z1, z2, rfl, hl, h1, h2⟩
  unfold VR
  rw [if_pos (show isTup (.tup a (.tup t .tnil)) = true from rfl)]
  exact ⟨l, rfl, z1, [z2], hl, h1, z2, [], rfl, h2, rfl⟩
abbrev GOK2 (P : Program) (f : Nat) (pts : List Pt) (n1 : Nat) (D : Dk) (t : Ty) (n2 : Nat) (x : PD pts) (y : D.den × t.den) : Prop := GOKr P f pts n1 D n2 x y.1 ⟨TT D t, (D.mk y.1, (y.2, ()))⟩
def smG2 (pts : List Pt) (D : Dk) (t : Ty) (n2 : Nat) (v : PD pts → D.den × t.den) (k : PD pts → Bool) : Sm := smGr pts D n2 (fun x => (v x).1) (fun nxt x => ⟨TT D t, (D.mkN nxt (v x).1, ((v x).2, ()))⟩) k
theorem SmOK.smG2 {P : Program} {f : Nat} {pts : List Pt} {n1 : Nat} {D : Dk} {t : Ty} {n2 : Nat} {v : PD pts → D.den × t.den} {k : PD pts → Bool} (hok : (ptOk pts n1 D n2 && (!isTup D.ty && (plainT t && !isTup t))) = true)
 (h : ∀ x, k x = true → GOK2 P f pts n1 D t n2 x (v x)) : SmOK P f (GX.smG2 pts D t n2 v k) := by
 obtain ⟨hok, h1⟩ := and_split hok
 obtain ⟨h1, h2⟩ := and_split h1
 obtain ⟨h2, h3⟩ := and_split h2
 have h1 : isTup D.ty = false := by simpa using h1
 have h3 : isTup t = false := by simpa using h3
 refine SmOK.smGr (W := fun x => ⟨TT D t, (D.mk (v x).1, ((v x).2, ()))⟩) hok (fun nxt x χ φ2 z hb hn hv => ?_) h
 obtain ⟨l, z1, z2, rfl, hl, g1, g2⟩ := VR_TT.1 hv
 refine VR_TT.2 ⟨l, z1, z2, rfl, hl, V1_of_VR h1 (VR_mkN hb hn (VR_of_V1 h1 g1)), V1_of_VR h3 (plainV_ok (φ := χ) (ψ := φ2) (by unfold plainV; rw [h2]; rfl) (VR_of_V1 h3 g2))⟩
def leafO2 (D : Dk) (t : Ty) (v : V) (mem : Mem) : Option (D.den × t.den) := if h : v.t = TT D t then (match D.rd mem ((h ▸ v.x : (TT D t).den)).1 with
 | some (y, c, _) => bif c then some (y, ((h ▸ v.x : (TT D t).den)).2.1) else none
 | none => none) else none
def leafP2 (D : Dk) (t : Ty) (v : V) (mem : Mem) : Option (D.den × t.den) := match v with
 | ⟨.tup a (.tup b .tnil), x⟩ => if h : b = t then (match lendD true mem D a x.1 with
  | some (y, c) => bif c then some (y, (h ▸ x.2.1 : t.den)) else none
  | none => none) else none
 | _ => none
theorem leafO2_eq {D : Dk} {t : Ty} {x : (TT D t).den} {mem : Mem} {y : D.den × t.den} (h : leafO2 D t ⟨TT D t, x⟩ mem = some y) : leafO D ⟨D.ty, x.1⟩ mem = some y.1 ∧ y.2 = x.2.1 := by
 have e1 : leafO2 D t ⟨TT D t, x⟩ mem = (match D.rd mem x.1 with | some (y, c, _) => bif c then some (y, x.2.1) else none | none => none) := by unfold leafO2; exact dif_pos rfl
 have e2 : leafO D ⟨D.ty, x.1⟩ mem = (match D.rd mem x.1 with | some (y, c, _) => bif c then some y else none | none => none) := by unfold leafO; exact dif_pos rfl
 rw [e1] at h
 rw [e2]
 cases hrd : D.rd mem x.1 with
 | none =>
  rw [hrd] at h
  cases h
 | some r =>
  obtain ⟨y', c, u⟩ := r
  rw [hrd] at h
  cases c
  ·cases h
  ·cases h
   exact ⟨rfl, rfl⟩
def fnV2 (C : Cx) (fn : Func) (pts : List Pt) (n1 : Nat) (D : Dk) (t : Ty) (x : PD pts) : Option (D.den × t.den) := fnH C fn (ptA pts x) (ptM pts x) n1 (leafO2 D t)
def fnW2 (C : Cx) (fn : Func) (pts : List Pt) (n1 : Nat) (D : Dk) (t : Ty) (x : PD pts) : Option (D.den × t.den) := fnH C fn (ptA pts x) (ptM pts x) n1 (leafP2 D t)
theorem GOK2.ofS {P : Program} {C : Cx} (hC : CxOK P C) {fn : Func} {f : Nat} (hf : P.funcs[f]? = some fn) {pts : List Pt} {n1 : Nat} {D : Dk} {t : Ty} {n2 : Nat} {S : PD pts → Option (D.den × t.den)} (hL : ∀ c, fn.body = some c → LOK P C n1 c)
 (hok : (D.plain && (!isTup D.ty && (valT t && (!isTup t && ptOk pts n1 D n2)))) = true) (h : ∀ x, fnV2 C fn pts n1 D t x = S x) : ∀ x, (S x).isSome = true → GOK2 P f pts n1 D t n2 x ((S x).getD (D.dflt, GX.dflt t)) := by
 intro x hk base φ w xs hm hA
 obtain ⟨hp, hok⟩ := and_split hok
 obtain ⟨hDt, hok⟩ := and_split hok
 obtain ⟨ht, hok⟩ := and_split hok
 obtain ⟨htt, hok⟩ := and_split hok
 have hDt : isTup D.ty = false := by simpa using hDt
 have htt : isTup t = false := by simpa using htt
 unfold ptOk at hok
 rw [Bool.and_eq_true, Bool.and_eq_true, Bool.and_eq_true, Bool.and_eq_true, Bool.and_eq_true] at hok
 obtain ⟨_, _, _, _, hnD, hltD⟩ := hok
 rw [List.all_eq_true] at hltD
 cases hs : S x with
 | none => rw [hs] at hk; cases hk
 | some y =>
  refine (fnH_ok hC hf hL ((h x).trans hs) hm hA).mono ?_
  rintro e w' ⟨χ, s, v, z, a, rfl, h1, hr, hl, hz, hb⟩
  have hvt : v.t = TT D t := by
   unfold leafO2 at hl
   split at hl
   ·assumption
   ·cases hl
  ·obtain ⟨tv, x0⟩ := v
   simp only at hvt
   subst hvt
   obtain ⟨y1, y2⟩ := y
   obtain ⟨hl2, hy2⟩ := leafO2_eq hl
   simp only at hl2 hy2
   subst hy2
   obtain ⟨l, z1, z2, rfl, hzl, g1, g2⟩ := (VR_TT (x := x0.1) (y := x0.2.1)).1 hz
   obtain ⟨ψ, k1, k2, k3⟩ := leafO_ok hr.mem hp hnD (fun c hc => Nat.le_of_ble_eq_true (hltD c hc)) hl2 (VR_of_V1 hDt g1)
   refine ⟨ψ, _, rfl, fun k o hk => by rw [k1]; exact h1.imm k o hk, fun k o hk => by
    rw [k1] at hk
    rcases h1.new k o hk with h | h
    ·exact .inl h
    ·exact .inr (by rw [← hm.lo]; exact h), k2, hb, VR_TT.2 ⟨l, z1, z2, rfl, hzl, V1_of_VR hDt k3, V1_imm3 (fun k o hk => by rw [k1]; exact hk) ht htt g2⟩⟩
theorem PureOK.ofW2 {P : Program} {C : Cx} (hC : CxOK P C) {fn : Func} {f : Nat} (hf : P.funcs[f]? = some fn) {pts : List Pt} {n1 : Nat} {D : Dk} {t : Ty} {S : PD pts → Option (D.den × t.den)} (hL : ∀ c, fn.body = some c → LOK P C n1 c)
 (hok : (valT t && (!isTup t && (D.okI && (pts.all Pt.ok && (pts.all Pt.isV && (noDup (ptN pts) && (ptN pts).all (fun i => Nat.blt i n1))))))) = true) (h : ∀ x, fnW2 C fn pts n1 D t x = S x) :
 ∀ x, (S x).isSome = true → PureOK P f (ptV pts x) ⟨TV D t, (D.toV ((S x).getD (D.dflt, GX.dflt t)).1, (((S x).getD (D.dflt, GX.dflt t)).2, ()))⟩ := by
 intro x hk φ w xs hI hA
 rw [Bool.and_eq_true, Bool.and_eq_true, Bool.and_eq_true, Bool.and_eq_true, Bool.and_eq_true, Bool.and_eq_true] at hok
 obtain ⟨ht, htt, hD, ho, hv, hnd, hlt⟩ := hok
 have htt : isTup t = false := by simpa using htt
 rw [List.all_eq_true] at hlt
 cases hs : S x with
 | none => rw [hs] at hk; cases hk
 | some y =>
  obtain ⟨ad, hadlt, hAd⟩ := ptE_ok (base := w.heap.size) (Nat.le_refl _) hI ho hv hnd (AR_iff.1 hA)
  let Φ : Phi := ⟨fun j => if j ∈ ptN pts then ad j else none, φ.imm, w.heap.size⟩
  obtain ⟨A1, PK⟩ := hAd Φ rfl (fun j hj => by show (if j ∈ ptN pts then ad j else none) = ad j; rw [if_pos hj])
  have M1 : MemRel w.heap.size Φ (ptM pts x) n1 w := by
   refine ⟨fun i b hi => ?_, fun i j b b' ph ph' hi hj hij hw hp hp' => ?_, fun i ph hp => ?_, rfl, Nat.le_refl _, hI⟩
   ·exact ((PK i b hi).2).2.imp id (fun ⟨ph, h1, h2, _⟩ => ⟨ph, h1, h2⟩)
   ·have := ((PK i b hi).2).1
    rw [hw] at this; cases this
   ·have hp : (if i ∈ ptN pts then ad i else none) = some ph := hp
    by_cases e : i ∈ ptN pts
    ·rw [if_pos e] at hp; exact ⟨Nat.le_of_ble_eq_true (hlt i e), hadlt i ph hp⟩
    ·rw [if_neg e] at hp; cases hp
  refine (fnH_ok hC hf hL ((h x).trans hs) M1 (AR_iff.2 A1)).mono ?_
  rintro e w' ⟨χ, s, v, z, a, rfl, h1, hr, hl, hz, hb⟩
  unfold leafP2 at hl
  split at hl
  ·rename_i a0 b0 x0
   split at hl
   ·rename_i hbt
    subst hbt
    obtain ⟨l, z1, z2, rfl, hzl, g1, g2⟩ := (VR_TT (x := x0.1) (y := x0.2.1)).1 hz
    split at hl
    ·rename_i y' c hle
     cases hc : c <;> rw [hc] at hl hle
     ·cases hl
     ·simp only [cond_true, Option.some.injEq] at hl
      subst hl
      have hm := hr.mem
      have hlo : χ.lo = w.heap.size := hm.lo
      let im : Nat → Option Obj := fun k => if w.heap.size ≤ k then w'.heap[k]? else χ.imm k
      have him : ∀ k o, χ.imm k = some o → im k = some o := fun k o h => by
       show (if w.heap.size ≤ k then w'.heap[k]? else χ.imm k) = some o
       split
       ·exact hm.imm k o h
       ·exact h
      have hall : ∀ i b ph, Mem.get s.mem i = some b → χ i = some ph → ((true : Bool) = true → b.wr = true) → im ph.blk = w'.heap[ph.blk]? := fun i b ph h1 h2 h3 => by
       show (if w.heap.size ≤ ph.blk then w'.heap[ph.blk]? else χ.imm ph.blk) = _
       rw [if_pos ((hm.blkAt h1 h2).own (h3 rfl)).1]
      have hT := lendD_ok hm him hall hD hle
      have hV := hT.V1 g1
      refine ⟨χ.with im, [], s.nxt, _, rfl, ⟨⟨fun i p h => (by cases h), fun k o h => him k o (h1.imm k o h)⟩, fun k o h => ?_, hlo⟩, ⟨fun i b h => by simp [Mem.get] at h, fun i j b b' p1 p2 h => by simp [Mem.get] at h, hm.fresh, hlo, hm.base, fun k o h => ?_⟩,
       VR_TT.2 ⟨l, z1, z2, rfl, hzl, hV, V1_imm3 (fun k o h => him k o h) ht htt g2⟩, hb⟩
      ·have h : (if w.heap.size ≤ k then w'.heap[k]? else χ.imm k) = some o := h
       split at h
       ·rename_i hk; exact .inr hk
       ·rename_i hk
        exact h1.new k o h
      ·have h : (if w.heap.size ≤ k then w'.heap[k]? else χ.imm k) = some o := h
       split at h
       ·exact h
       ·exact hm.imm k o h
    ·cases hl
   ·cases hl
  ·cases hl
theorem GOK.ofSm {P : Program} {f : Nat} {sm : Sm} {pts : List Pt} {n1 : Nat} {T : Ty} {y : PD pts → T.den} {k : PD pts → Bool} (hs : SmOK P f sm) (hT : plainT T = true)
 (e : ∀ x, ∃ mem' nxt', sm (ptA pts x) (ptM pts x) n1 = some (⟨T, y x⟩, mem', nxt', k x && true)) : ∀ x, k x = true → GOK P f pts n1 (.v T) 0 x (y x) := by
 intro x hk base φ w xs hm hA
 obtain ⟨mem', nxt', he⟩ := e x
 rw [hk] at he
 have he : sm (ptA pts x) (ptM pts x) n1 = some (⟨T, y x⟩, mem', nxt', true) := he
 refine (hs _ _ _ _ _ _ he base φ w xs hm hA).mono ?_
 rintro e w' ⟨ψ, z, rfl, h1, h2, h3, h4⟩
 refine ⟨⟨fun _ => none, ψ.imm, ψ.lo⟩, z, rfl, h1.imm, fun k o h => ?_, ⟨fun i b h => (by simp [Dk.blks, Mem.get] at h), fun i j b b' p p' h => (by simp [Dk.blks, Mem.get] at h), fun i p h => (by cases h), h2.lo, h2.base, h2.imm⟩, h3, ?_⟩
 ·rcases h1.new k o h with h | h
  ·exact .inl h
  ·exact .inr (by rw [← hm.lo]; exact h)
 ·exact plainV_ok (φ := ψ) (ψ := ⟨fun _ => none, ψ.imm, ψ.lo⟩) (by unfold plainV; rw [hT]; rfl) h4
end Go.GX

namespace Go.GX
set_option linter.unusedSimpArgs false
set_option linter.unusedVariables false
set_option linter.unusedSectionVars false
open Go.RowKit (Below)
def PureU (P : Program) (f : Nat) (args : List V) (v : V) : Prop :=
 ∀ φ w x0 xs, ImmOK φ w → AR φ args xs → Calls P f (#[x0] ++ xs) w fun e w' => ∃ ψ m n x, e = .returned x ∧ (φ.bare w.heap.size).le ψ ∧ MemRel w.heap.size ψ m n w' ∧ VR ψ v x ∧ Below w.heap.size w w'
def fnU (C : Cx) (fn : Func) (t : Ty) (args : List V) : Option t.den :=
 match fn.body with
 | none => none
 | some c => bif Nat.ble (args.length + 1) fn.ntmps && (args.all valV && valT t) then
  codeT C c ⟨putArgs args 1 .lf, fn.ntmps, [], 0, true⟩ fun x s => match x with
   | .exit _ => none
   | .goto _ => none
   | .pan _ _ => none
   | _ => match resY C.Θ fn s with
    | some (v, _, c) => bif c then asT t v else none
    | none => none
  else none
theorem fnU_ok {P : Program} {C : Cx} (hC : CxOK P C) {fn : Func} {f : Nat} (hf : P.funcs[f]? = some fn) (hL : ∀ c, fn.body = some c → LOK P C 0 c) {t : Ty} {args : List V} {r : t.den}
 (h : fnU C fn t args = some r) : PureU P f args ⟨t, r⟩ := by
 intro φ w x0 xs hI hA
 unfold fnU at h
 split at h
 ·cases h
 ·rename_i c hc
  cases hb : (Nat.ble (args.length + 1) fn.ntmps && (args.all valV && valT t)) <;> rw [hb] at h
  ·cases h
  ·simp only [cond_true] at h
   obtain ⟨hb1, hb2⟩ := and_split hb
   obtain ⟨hpa, hpt⟩ := and_split hb2
   have hle := Nat.le_of_ble_eq_true hb1
   let φ0 : Phi := φ.bare w.heap.size
   have hA0 : AR φ0 args xs := ⟨hA.1, fun i v hi => by
    obtain ⟨x, hx, hxr⟩ := hA.2 i v hi
    exact ⟨x, hx, valV_ok (φ := φ) (ψ := φ.bare w.heap.size) (fun _ _ h => h) (List.all_eq_true.1 hpa v (List.mem_of_getElem? hi)) hxr⟩⟩
   refine calls_of_wp hf hc (codeT_ok hC (hL c hc) (base := w.heap.size) (φ := φ0) (fun x s hs => ?_) h ⟨fun s u c' hs => ?_, by simp [hA.1]; omega, MemRel.nil w hI, rfl⟩ ?_)
   ·split at hs
    ·cases hs
    ·cases hs
    ·cases hs
    ·split at hs
     ·rename_i v s' c hres
      cases hk : c <;> rw [hk] at hs hres
      ·cases hs
      ·unfold resY at hres
       split at hres
       ·simp only [Option.some.injEq, Prod.mk.injEq] at hres
        exact pubs_mono (and_split hres.2.2).2
       ·cases hres
     ·cases hs
   ·rcases putArgs_get hs with ⟨hc', hs1, hg⟩ | hg
    ·subst hc'
     obtain ⟨x, hx, hr⟩ := hA0.2 (s - 1) u hg
     refine ⟨fun _ => ?_, fun e => by cases e⟩
     have hsz : s - 1 < xs.size := (Array.getElem?_eq_some_iff.1 hx).1
     have hx2 : (#[x0] ++ xs)[s]? = some x := by
      rw [Array.getElem?_append_right (by simp; omega)]
      simpa using hx
     have hsz2 : s < (#[x0] ++ xs).size := (Array.getElem?_eq_some_iff.1 hx2).1
     rw [Array.getD_eq_getD_getElem?, Array.getElem?_append_left hsz2, hx2]
     exact hr
    ·simp [Tr.get] at hg
   ·intro x e s ψ a' w' he h1 hr' hb' h4
    have post : a'.defers = [] ∧ ∃ z, (results fn a'.tmps).run P w' = .ok z w' ∧ (∃ ψ m n x, Ending.returned z = .returned x ∧ (φ.bare w.heap.size).le ψ ∧ MemRel w.heap.size ψ m n w' ∧ VR ψ ⟨t, r⟩ x ∧ Below w.heap.size w w') := by
     have h4 : (match resY C.Θ fn s with | some (v, _, c) => bif c then asT t v else none | none => none) = some r := by
      rcases EX_of he with ⟨rfl, rfl⟩ | ⟨j, rfl, rfl⟩ | ⟨rfl, rfl⟩ | ⟨j, rfl, rfl⟩ | ⟨_, _, rfl, rfl⟩
      ·exact h4
      ·cases h4
      ·exact h4
      ·cases h4
      ·cases h4
     split at h4
     ·rename_i v s' cc hres
      cases hk : cc <;> rw [hk] at h4 hres
      ·cases h4
      ·simp only [cond_true] at h4
       have hv := asT_eq h4
       subst hv
       obtain ⟨χ, hχ, hr2, _, z, hrun, hz⟩ := resY_ok hC.Θ hr' hres
       exact ⟨hr'.defers, z, hrun, χ, _, _, _, rfl, Phi.le_trans (h1.toLe (fun i p hp => by cases hp)) hχ, hr2.mem, hz, hb'⟩
     ·cases h4
    rcases EX_of he with ⟨rfl, rfl⟩ | ⟨j, rfl, rfl⟩ | ⟨rfl, rfl⟩ | ⟨j, rfl, rfl⟩ | ⟨_, _, rfl, rfl⟩
    ·exact post
    ·cases h4
    ·exact post
    ·cases h4
    ·cases h4
def smU (ts : List Ty) (T : Ty) (v : AD ts → T.den) (k : AD ts → Bool) : Sm := fun args mem nxt => match args with
 | _ :: rest => sm ts T v k rest mem nxt
 | [] => none
theorem SmOK.smU {P : Program} {f : Nat} {ts : List Ty} {T : Ty} {v : AD ts → T.den} {k : AD ts → Bool} (h : ∀ x, k x = true → PureU P f (mkA ts x) ⟨T, v x⟩) : SmOK P f (GX.smU ts T v k) := by
 intro args mem nxt u mem' nxt' hg base φ w xs hm hA
 unfold GX.smU at hg
 split at hg
 ·rename_i a rest
  unfold GX.sm at hg
  split at hg
  ·rename_i x hx
   cases hval : valT T <;> rw [hval] at hg
   ·cases hg
   simp only [cond_true, Option.some.injEq, Prod.mk.injEq] at hg
   obtain ⟨rfl, rfl, rfl, hk⟩ := hg
   have hL := AR_iff.1 hA
   obtain ⟨x0, l, hxs⟩ : ∃ x0 l, xs.toList = x0 :: l := by
    match hh : xs.toList with
    | [] => rw [hh] at hL; exact absurd hL.1 (by simp)
    | x0 :: l => exact ⟨x0, l, rfl⟩
   rw [hxs] at hL
   have hl : ARL φ rest l := ⟨by simpa using hL.1, fun i u hi => by simpa using hL.2 (i + 1) u (by simpa using hi)⟩
   have hxe : xs = #[x0] ++ l.toArray := by
    apply Array.ext'
    rw [hxs]; simp
   rw [hxe]
   refine (h x hk φ w x0 l.toArray hm.imm (AR_iff.2 (by simpa using asTs_AR hx hl))).mono ?_
   rintro e w' ⟨ψ, m, n, y, rfl, h0, h3, h1, h2⟩
   obtain ⟨g1, g2⟩ := hm.back (φ0 := φ.bare w.heap.size) rfl rfl h0 h3 h2
   exact ⟨_, y, rfl, g1, g2, h2.mono hm.base, valV_ok (φ := ψ) (ψ := φ.with ψ.imm) (fun _ _ h => h) (by unfold valV; rw [hval]; rfl) h1⟩
  ·cases hg
 ·cases hg
theorem PureU.ofS {P : Program} {C : Cx} (hC : CxOK P C) {fn : Func} {f : Nat} (hf : P.funcs[f]? = some fn) {ts : List Ty} {T : Ty} {S : AD ts → Option T.den} (hL : ∀ c, fn.body = some c → LOK P C 0 c)
 (h : ∀ x, fnU C fn T (mkA ts x) = S x) : ∀ x, (S x).isSome = true → PureU P f (mkA ts x) ⟨T, (S x).getD (dflt T)⟩ := by
 intro x hk
 cases hs : S x with
 | none => rw [hs] at hk; cases hk
 | some y => exact fnU_ok hC hf hL ((h x).trans hs)
end Go.GX

namespace Go.GX
set_option linter.unusedSimpArgs false
set_option linter.unusedVariables false
set_option linter.unusedSectionVars false
open Go.RowKit
open Go.ChangeShapes Go.WideShapes Go.ChangeAt
open Go.ChangeMaps (open_string shut_string)
def argT : Ty → Bool
 | .bool | .int _ | .str | .unit => true
 | .pair a b => argT a && argT b
 | .arr _ e => argT e
 | .vsl e => argT e && Nat.blt 0 (size e)
 | _ => false
def WFv : (t : Ty) → t.den → Prop
 | .int k, n => (Lit.int k n).wf = true
 | .str, s => s.length ≤ maxLen
 | .pair a b, x => WFv a x.1 ∧ WFv b x.2
 | .arr n e, x => x.length = n ∧ ∀ y ∈ x, WFv e y
 | .vsl e, x => x.length ≤ maxLen ∧ ∀ y ∈ x, WFv e y
 | _, _ => True
def SZ (n : Nat) : (t : Ty) → t.den → Prop
 | .str, s => s.length ≤ n
 | .pair a b, x => SZ n a x.1 ∧ SZ n b x.2
 | .arr _ e, x => ∀ y ∈ x, SZ n e y
 | .vsl e, x => x.length ≤ n ∧ ∀ y ∈ x, SZ n e y
 | _, _ => True
structure Bulk {H : Type} (B : DataW H → Nat) : Prop where
 str : ∀ s, s.length ≤ B (.lit (.string s))
 slice : ∀ e r, e.length ≤ B (.slice e r)
 elem : ∀ e r, ∀ d ∈ e, B d ≤ B (.slice e r)
 part : ∀ l, ∀ d ∈ l, B d ≤ B (.agg l)
section
variable {H : Type} {enc : TypeId × Value → H} {P : Program} {w : World} {base : Nat} {spare : Nat → Bool} {held : Bool} {Θ : Tab} {B : DataW H → Nat}
theorem cells_block {a : Addr} {n : Nat} {cs : List Value} (h : w.cells? base a n = some cs) (hn : 0 < n) : a.spot = none ∧ ∃ os el fr, w.heap[a.block]? = some (.cells os el fr) ∧ ∀ i, i < n → os[a.off + i]? = cs[i]? := by
 obtain ⟨_, hl, hc⟩ := World.cells?_some h
 have hat : ∀ i, i < n → ∃ os el fr, w.heap[a.block]? = some (.cells os el fr) ∧ (i = 0 → a.spot = none) ∧ os[a.off + i]? = cs[i]? := by
  intro i hi
  have h1 := hc i hi
  rw [List.getElem?_eq_getElem (by omega)] at h1
  unfold World.cell? at h1
  by_cases h0 : i = 0
  ·subst h0
   simp only [Addr.add, if_true] at h1
   split at h1
   ·rename_i os el fr hh
    split at h1
    ·cases h1
    ·rename_i hs
     refine ⟨os, el, fr, hh, fun _ => by simpa using hs, ?_⟩
     rw [List.getElem?_eq_getElem (by omega)]; exact h1
   ·cases h1
  ·simp only [Addr.add, if_neg h0] at h1
   split at h1
   ·rename_i os el fr hh
    simp at h1
    refine ⟨os, el, fr, hh, fun e => absurd e h0, ?_⟩
    rw [List.getElem?_eq_getElem (by omega)]; simpa using h1
   ·cases h1
 obtain ⟨os, el, fr, h1, h2, h3⟩ := hat 0 hn
 refine ⟨h2 rfl, os, el, fr, h1, fun i hi => ?_⟩
 obtain ⟨os', el', fr', h1', _, h3'⟩ := hat i hi
 rw [h1] at h1'; cases h1'
 exact h3'
theorem fields_val (hΘ : TabOK P Θ) {fuel : Nat} {φ : Phi} {D : List (DataW H)} (ih : ∀ t ti cs d ps, Θ t = some ti → argT ti.ty = true → DataW.trod enc P w base spare held fuel t cs = some (d, ps) → ∃ x : ti.ty.den, WFv ti.ty x ∧ (∀ n, B d ≤ n → SZ n ti.ty x) ∧ CL φ (flat ti.ty x) cs) {cs : List Value} :
 ∀ {ty : Ty} {o : Nat} {fs : List Field}, structOK Θ ty o fs = true → argT ty = true → o + size ty = cs.length → (∀ f ∈ fs, ∃ r, DataW.trod enc P w base spare held fuel f.type ((cs.drop f.offset).take (P.cellsOf f.type)) = some r ∧ r.1 ∈ D) →
  ∃ x : ty.den, WFv ty x ∧ (∀ n, (∀ d ∈ D, B d ≤ n) → SZ n ty x) ∧ CL φ (flat ty x) (cs.drop o)
 | .unit, o, [], _, _, hl, _ => ⟨(), trivial, fun _ _ => trivial, by
  have : cs.drop o = [] := by simp only [size] at hl; exact List.drop_of_length_le (by omega)
  rw [this]; exact ⟨rfl, fun i c hi => by simp [flat] at hi⟩⟩
 | .pair a b, o, f :: fs, hs, hp, hl, hall => by
  simp only [structOK, Bool.and_eq_true] at hs
  obtain ⟨⟨h1, h2⟩, h3⟩ := hs
  have h1 := Nat.eq_of_beq_eq_true h1
  simp only [argT, Bool.and_eq_true] at hp
  split at h2
  ·rename_i tf htf
   simp only [Bool.and_eq_true, decide_eq_true_eq] at h2
   obtain ⟨h2, _⟩ := h2
   have h2 := fldOK_ne h2 (fun e => by subst e; simp [argT] at hp)
   subst h2
   obtain ⟨⟨d, ps⟩, hr, hD⟩ := hall f (by simp)
   rw [cellsOf_eq hΘ htf, h1] at hr
   obtain ⟨x, hx, hxs, hxc⟩ := ih _ _ _ _ _ htf hp.1 hr
   simp only [size] at hl
   obtain ⟨y, hy, hys, hyc⟩ := fields_val hΘ ih h3 hp.2 (by omega) (fun g hg => hall g (by simp [hg]))
   refine ⟨(x, y), ⟨hx, hy⟩, fun n hn => ⟨hxs n (hn _ hD), hys n hn⟩, ?_⟩
   have : cs.drop o = (cs.drop o).take (size tf.ty) ++ cs.drop (o + size tf.ty) := by
    rw [← List.drop_drop, List.take_append_drop]
   rw [this, flat]
   exact CL_append hxc hyc
  ·cases h2
theorem row_val {e : Ty} {φ : Phi} {D : List (DataW H)} {rd : Nat → Option (List Value)} {n : Nat} (h : ∀ k, k < n → ∃ cs d, rd k = some cs ∧ d ∈ D ∧ ∃ x : e.den, WFv e x ∧ (∀ m, B d ≤ m → SZ m e x) ∧ CL φ (flat e x) cs) :
 ∀ k, k ≤ n → ∃ l : List e.den, l.length = k ∧ (∀ y ∈ l, WFv e y) ∧ (∀ m, (∀ d ∈ D, B d ≤ m) → ∀ y ∈ l, SZ m e y) ∧ ∀ i, i < k → ∃ cs, rd i = some cs ∧ CL φ (flat e (l.getD i (dflt e))) cs := by
 intro k
 induction k with
 | zero => intro _; exact ⟨[], rfl, fun y hy => (by cases hy), fun m _ y hy => (by cases hy), fun i hi => (by omega)⟩
 | succ k ih =>
  intro hk
  obtain ⟨l, hl, hw, hs, hc⟩ := ih (by omega)
  obtain ⟨cs, d, hr, hd, x, hx, hxs, hxc⟩ := h k (by omega)
  refine ⟨l ++ [x], by simp [hl], fun y hy => ?_, fun m hm y hy => ?_, fun i hi => ?_⟩
  ·rcases List.mem_append.1 hy with hy | hy
   ·exact hw y hy
   ·simp at hy; subst hy; exact hx
  ·rcases List.mem_append.1 hy with hy | hy
   ·exact hs m hm y hy
   ·simp at hy; subst hy; exact hxs m (hm d hd)
  ·by_cases hik : i < k
   ·obtain ⟨cs', h1, h2⟩ := hc i hik
    refine ⟨cs', h1, ?_⟩
    rw [show (l ++ [x]).getD i (dflt e) = l.getD i (dflt e) by simp [List.getD, List.getElem?_append_left (show i < l.length by omega)]]
    exact h2
   ·obtain rfl : i = k := by omega
    refine ⟨cs, hr, ?_⟩
    rw [show (l ++ [x]).getD i (dflt e) = x by simp [List.getD, ← hl]]
    exact hxc
theorem row_cells {e : Ty} {φ : Phi} {l : List e.den} {os : List Value} {o n : Nat} (h : ∀ i, i < n → ∃ cs, CL φ (flat e (l.getD i (dflt e))) cs ∧ ∀ j, j < size e → os[o + i * size e + j]? = cs[j]?) :
 ∀ (k : Nat) c, ((List.range n).flatMap fun i => flat e (l.getD i (dflt e)))[k]? = some c → ∃ v, os[o + k]? = some v ∧ CR φ c v := by
 induction n with
 | zero => intro k c hk; simp at hk
 | succ n ih =>
  intro k c hk
  rw [List.range_succ, List.flatMap_append] at hk
  have hlen : ((List.range n).flatMap fun i => flat e (l.getD i (dflt e))).length = n * size e := by
   exact length_flatMap_const _ _ (fun i => length_flat _ _) n
  by_cases hlt : k < n * size e
  ·rw [List.getElem?_append_left (by omega)] at hk
   exact ih (fun i hi => h i (by omega)) k c hk
  ·rw [List.getElem?_append_right (by omega), hlen] at hk
   simp only [List.flatMap_cons, List.flatMap_nil, List.append_nil] at hk
   obtain ⟨cs, h1, h2⟩ := h n (by omega)
   have hj : k - n * size e < size e := by
    have := (List.getElem?_eq_some_iff.1 hk).1
    rw [length_flat] at this; exact this
   obtain ⟨v, hv, hr⟩ := h1.2 _ c hk
   refine ⟨v, ?_, hr⟩
   rw [← h2 _ hj] at hv
   rw [show o + k = o + n * size e + (k - n * size e) by omega]
   exact hv
theorem trod_val (hB : Bulk B) (hΘ : TabOK P Θ) : ∀ (fuel : Nat) t ti cs d ps, Θ t = some ti → argT ti.ty = true → DataW.trod enc P w base spare held fuel t cs = some (d, ps) → ∃ x : ti.ty.den, WFv ti.ty x ∧ (∀ n, B d ≤ n → SZ n ti.ty x) ∧ CL (Phi.ofW w) (flat ti.ty x) cs := by
 intro fuel
 induction fuel with
 | zero => intro t ti cs d ps _ _ h; simp [DataW.trod] at h
 | succ fuel ih =>
  intro t ti cs d ps ht hp h
  have hT := hΘ.get ht
  obtain ⟨dd, hd, hdu, _⟩ := hT.run_underlying
  have hcell := cellsOf_eq hΘ ht
  cases hty : ti.ty with
  | bool =>
   have := desc_bool hd hty
   subst this
   obtain ⟨b, rfl, _⟩ := DataW.trod_bool hdu h
   exact ⟨b, trivial, fun _ _ => trivial, CL_single rfl⟩
  | int k =>
   have := desc_int hd hty
   subst this
   obtain ⟨n, rfl, _, hw⟩ := DataW.trod_int hdu h
   exact ⟨n, hw, fun _ _ => trivial, CL_single rfl⟩
  | str =>
   have := desc_str hd hty
   subst this
   obtain ⟨s, rfl, hx, hw⟩ := DataW.trod_string hdu h
   cases hx
   refine ⟨s.data.toList, by show s.data.toList.length ≤ maxLen; simpa using hw, fun n hn => Nat.le_trans (hB.str _) hn, CL_single ?_⟩
   show Value.string s = .string ⟨s.data.toList.toArray⟩
   cases s; simp
  | unit =>
   cases dd <;> simp only [descOK, Bool.and_eq_true, decide_eq_true_eq, Bool.false_eq_true] at hd <;> first | (rw [hd] at hty; cases hty; done) | (rw [hd.1] at hty; cases hty; done) | (have hd := hd.1; rw [hty] at hd; simp [slT] at hd; done) | skip
   ·obtain ⟨_, hd⟩ := hd
    split at hd
    ·simp only [Bool.and_eq_true, decide_eq_true_eq] at hd
     rw [hd.1] at hty; cases hty
    ·cases hd
   ·obtain ⟨xs, n, _, _, hl, _⟩ := DataW.trod_struct hdu h
    rw [hcell, hty] at hl
    have : cs = [] := List.length_eq_zero_iff.1 hl
    subst this
    exact ⟨(), trivial, fun _ _ => trivial, ⟨rfl, fun i c hi => by simp [flat] at hi⟩⟩
  | pair a b =>
   obtain ⟨fs, rfl, hso⟩ := desc_struct hd (by rw [hty]; rfl)
   obtain ⟨xs, n, hn, hxd, hl, hxl, hall⟩ := DataW.trod_struct hdu h
   cases hn; cases hxd
   rw [hcell, hty] at hl
   rw [hty] at hso hp
   obtain ⟨x, hx, hxs, hxc⟩ := fields_val (B := B) (enc := enc) (w := w) (base := base) (spare := spare) (held := held) (D := xs.map (·.1)) hΘ ih (cs := cs) hso hp (by omega) (fun f hf => by
    obtain ⟨i, hi⟩ := List.getElem?_of_mem hf
    have hlt : i < fs.size := by have := (List.getElem?_eq_some_iff.1 hi).1; simpa using this
    exact ⟨_, (hall i f (by simpa using hi)).trans (List.getElem?_eq_getElem (by omega)), List.mem_map.2 ⟨_, List.getElem_mem (by omega), rfl⟩⟩)
   exact ⟨x, hx, fun n hn => hxs n (fun d hd => Nat.le_trans (hB.part _ d hd) hn), by simpa using hxc⟩
  | arr n e =>
   obtain ⟨e', te, rfl, hte, rfl⟩ := desc_arr hd hty
   obtain ⟨xs, m, hm, hxd, hl, hxl, hall⟩ := DataW.trod_array hdu h
   cases hm; cases hxd
   rw [hcell, hty] at hl
   rw [hty] at hp
   have hce := cellsOf_eq hΘ hte
   obtain ⟨l, hll, hlw, hls, hlc⟩ := row_val (B := B) (e := te.ty) (φ := Phi.ofW w) (D := xs.map (·.1)) (rd := fun k => some ((cs.drop (k * size te.ty)).take (size te.ty))) (n := n) (fun k hk => by
    have hr := hall k (by omega)
    rw [List.getElem?_eq_getElem (show k < xs.length by omega), hce] at hr
    exact ⟨_, _, rfl, List.mem_map.2 ⟨_, List.getElem_mem (by omega), rfl⟩, ih _ _ _ _ _ hte hp hr⟩) n (Nat.le_refl _)
   refine ⟨l, ⟨hll, hlw⟩, fun n hn => hls n (fun d hd => Nat.le_trans (hB.part _ d hd) hn), ?_⟩
   refine ⟨by rw [length_flat, hl], fun k c hk => ?_⟩
   have := row_cells (e := te.ty) (φ := Phi.ofW w) (l := l) (os := cs) (o := 0) (n := n) (fun i hi => by
    obtain ⟨cs', h1, h2⟩ := hlc i hi
    cases h1
    refine ⟨_, h2, fun j hj => ?_⟩
    rw [List.getElem?_take, if_pos hj, List.getElem?_drop, Nat.zero_add]) k c hk
   simpa using this
  | vsl e =>
   obtain ⟨e', te, hdd, hte, hteq, hsub⟩ : ∃ e' te, dd = .slice e' ∧ Θ e' = some te ∧ te.ty = e ∧ ti.sub = [e'] := by
    obtain ⟨e', he, hs⟩ := desc_slice hd (by rw [hty]; rfl)
    subst he
    simp only [descOK, Bool.and_eq_true, decide_eq_true_eq, slOK, hty] at hd
    obtain ⟨_, hd, _⟩ := hd
    split at hd
    ·rename_i te hte
     simp only [Bool.and_eq_true, decide_eq_true_eq] at hd
     exact ⟨e', te, rfl, hte, hd.1, hs⟩
    ·cases hd
   subst hdd; subst hteq
   rw [hty] at hp
   simp only [argT, Bool.and_eq_true] at hp
   have hpos : 0 < size te.ty := Nat.lt_of_lt_of_le Nat.zero_lt_one (Nat.le_of_ble_eq_true hp.2)
   have hce := cellsOf_eq hΘ hte
   rcases DataW.trod_slice hdu h with ⟨rfl, hx⟩ | ⟨a, len, cap, elems, rest, n, hfu, rfl, hx, hb, hle, hm, hlen, hel, _, _⟩
   ·cases hx
    refine ⟨([] : List te.ty.den), ⟨Nat.zero_le _, fun y hy => (by cases hy)⟩, fun n _ => ⟨Nat.zero_le _, fun y hy => (by cases hy)⟩, CL_single ?_⟩
    unfold CR; exact .inl ⟨rfl, rfl⟩
   ·cases hfu; cases hx
    have hread : ∀ k, k < len → ∃ cs', w.cells? base (a.add (k * size te.ty)) (size te.ty) = some cs' ∧ ∃ d ps, DataW.trod enc P w base spare held fuel e' cs' = some (d, ps) ∧ d ∈ elems.map (·.1) := by
     intro k hk
     have h1 := hel k hk
     rw [List.getElem?_eq_getElem (by omega), hce, Option.bind_eq_some_iff] at h1
     obtain ⟨cs', h2, h3⟩ := h1
     exact ⟨cs', h2, _, _, h3, List.mem_map.2 ⟨_, List.getElem_mem (by omega), rfl⟩⟩
    obtain ⟨l, hll, hlw, hls, hlc⟩ := row_val (B := B) (e := te.ty) (φ := Phi.ofW w) (D := elems.map (·.1)) (rd := fun k => w.cells? base (a.add (k * size te.ty)) (size te.ty)) (n := len) (fun k hk => by
     obtain ⟨cs', h1, d, ps, h2, h3⟩ := hread k hk
     exact ⟨cs', d, h1, h3, ih _ _ _ _ _ hte hp.1 h2⟩) len (Nat.le_refl _)
    refine ⟨l, ⟨by rw [hll]; omega, hlw⟩, fun n hn => ⟨?_, hls n (fun d hd => Nat.le_trans (hB.elem _ _ d hd) hn)⟩, CL_single ?_⟩
    ·have := hB.slice (elems.map (·.1)) (rest.map (·.1))
     rw [List.length_map, hlen] at this
     omega
    ·unfold CR
     refine .inr ⟨a, cap, by rw [hll], by rw [hll]; exact hle, fun h0 => ?_⟩
     have h0 : 0 < len := by rw [hll] at h0; omega
     obtain ⟨cs0, hc0, _⟩ := hread 0 h0
     rw [Nat.zero_mul, show a.add 0 = a from rfl] at hc0
     obtain ⟨hsp, os, el, fr, hblk, _⟩ := cells_block hc0 hpos
     refine ⟨hsp, os, el, fr, hblk, CRs_iff.2 fun k c hk => ?_⟩
     rw [hll] at hk
     obtain ⟨v, hv, hr⟩ := row_cells (e := te.ty) (φ := Phi.ofW w) (l := l) (os := os.toList) (o := a.off) (n := len) (fun i hi => by
      obtain ⟨cs', h1, h2⟩ := hlc i hi
      obtain ⟨_, os', el', fr', hb', hc'⟩ := cells_block h1 hpos
      have e1 : (a.add (i * size te.ty)).block = a.block := by unfold Addr.add; split <;> rfl
      have e2 : (a.add (i * size te.ty)).off = a.off + i * size te.ty := by
       unfold Addr.add
       split
       ·rename_i hz; rw [hz]; rfl
       ·rfl
      rw [e1, hblk] at hb'; cases hb'
      refine ⟨cs', h2, fun j hj => ?_⟩
      have := hc' j hj
      rw [e2] at this
      simpa using this) k c hk
     exact ⟨v, by rw [List.getElem?_drop]; exact hv, hr⟩
  | tnil => have := hT.tup; rw [hty] at this; simp [isTup] at this
  | tup a b => have := hT.tup; rw [hty] at this; simp [isTup] at this
  | _ => rw [hty] at hp; simp [argT] at hp
theorem open_val (hB : Bulk B) (hΘ : TabOK P Θ) {r : Reach} {b0 : Nat} {t : Nat} {ti : TI} {v : Value} {d : DataW H} {ps : List MemPlace} (ht : Θ t = some ti) (hp : argT ti.ty = true) (hval : Value.okWide P w r b0 t v)
 (hd : DataW.Trod enc P w base spare held t v d ps) : ∃ x : ti.ty.den, WFv ti.ty x ∧ (∀ n, B d ≤ n → SZ n ti.ty x) ∧ VR (Phi.ofW w) ⟨ti.ty, x⟩ v := by
 obtain ⟨fuel, hf⟩ := hd
 obtain ⟨x, hx, hs, hcl⟩ := trod_val hB hΘ fuel t ti _ d ps ht hp hf
 have hT := hΘ.get ht
 obtain ⟨dd, hdd, hdu, _⟩ := hT.run_underlying
 refine ⟨x, hx, hs, VR_of_V1 hT.tup ?_⟩
 have hag := desc_agg hdd
 by_cases ha : GX.isAgg ti.ty = true
 ·rw [ha] at hag
  have : ∃ cs, v = .agg cs := by
   unfold Value.okWide at hval
   rw [hdu] at hval
   cases dd <;> simp [aggD] at hag
   ·obtain ⟨cs, e, _⟩ := hval; exact ⟨cs, e⟩
   ·obtain ⟨cs, e, _⟩ := hval; exact ⟨cs, e⟩
  obtain ⟨cs, rfl⟩ := this
  exact V1_of_cells hcl ha
 ·have hv1 : v.cells = #[v] := by
   cases hty : ti.ty with
   | bool =>
    have := desc_bool hdd hty
    subst this
    obtain ⟨b, rfl, _⟩ := open_bool hdu hval ⟨fuel, hf⟩
    rfl
   | int k =>
    have := desc_int hdd hty
    subst this
    obtain ⟨b, rfl, _⟩ := open_int hdu hval ⟨fuel, hf⟩
    rfl
   | str =>
    have := desc_str hdd hty
    subst this
    obtain ⟨b, rfl, _⟩ := open_string hdu hval ⟨fuel, hf⟩
    rfl
   | vsl e =>
    obtain ⟨e', he, _⟩ := desc_slice hdd (by rw [hty]; rfl)
    subst he
    obtain ⟨a, len, cap, rfl⟩ := okWide_slice hdu hval
    rfl
   | tnil => have := hT.tup; rw [hty] at this; simp [isTup] at this
   | tup a b => have := hT.tup; rw [hty] at this; simp [isTup] at this
   | unit => rw [hty] at ha; simp [GX.isAgg] at ha
   | pair a b => rw [hty] at ha; simp [GX.isAgg] at ha
   | arr n e => rw [hty] at ha; simp [GX.isAgg] at ha
   | _ => rw [hty] at hp; simp [argT] at hp
  rw [hv1] at hcl
  unfold V1
  rw [if_neg ha]
  have hl := hcl.1
  match hfl : flat ti.ty x, hl with
  | [c], _ =>
   rw [hfl] at hcl
   obtain ⟨v', hv', hr⟩ := hcl.2 0 c rfl
   simp at hv'; subst hv'
   exact ⟨c, rfl, hr⟩
  | [], hl => simp at hl
  | _ :: _ :: _, hl => simp at hl
end
end Go.GX

namespace Go.GX
set_option linter.unusedSimpArgs false
set_option linter.unusedVariables false
theorem wf_i64 {a : Int} (h : (Lit.int .i64 a).wf = true) : -9223372036854775808 ≤ a ∧ a < 9223372036854775808 := by
 simp [Lit.wf, IntKind.min, IntKind.max, IntKind.signed, IntKind.bits] at h; omega
theorem wf_u64 {a : Int} (h : (Lit.int .u64 a).wf = true) : 0 ≤ a ∧ a < 18446744073709551616 := by
 simp [Lit.wf, IntKind.min, IntKind.max, IntKind.signed, IntKind.bits] at h; omega
theorem wrap_u8 (a : Int) : IntKind.wrap .u8 a = a % 256 := by simp [IntKind.wrap, IntKind.signed, IntKind.bits]
theorem wrap_u16 (a : Int) : IntKind.wrap .u16 a = a % 65536 := by simp [IntKind.wrap, IntKind.signed, IntKind.bits]
theorem wrap_u32 (a : Int) : IntKind.wrap .u32 a = a % 4294967296 := by simp [IntKind.wrap, IntKind.signed, IntKind.bits]
theorem wrap_u64 (a : Int) : IntKind.wrap .u64 a = a % 18446744073709551616 := by simp [IntKind.wrap, IntKind.signed, IntKind.bits]
theorem wrap_i8 (a : Int) : IntKind.wrap .i8 a = if a % 256 ≥ 128 then a % 256 - 256 else a % 256 := by simp [IntKind.wrap, IntKind.signed, IntKind.bits]
theorem wrap_i16 (a : Int) : IntKind.wrap .i16 a = if a % 65536 ≥ 32768 then a % 65536 - 65536 else a % 65536 := by simp [IntKind.wrap, IntKind.signed, IntKind.bits]
theorem wrap_i32 (a : Int) : IntKind.wrap .i32 a = if a % 4294967296 ≥ 2147483648 then a % 4294967296 - 4294967296 else a % 4294967296 := by simp [IntKind.wrap, IntKind.signed, IntKind.bits]
theorem wrap_i64 (a : Int) : IntKind.wrap .i64 a = if a % 18446744073709551616 ≥ 9223372036854775808 then a % 18446744073709551616 - 18446744073709551616 else a % 18446744073709551616 := by simp [IntKind.wrap, IntKind.signed, IntKind.bits]
theorem wi64 {a : Int} (h : -9223372036854775808 ≤ a ∧ a < 9223372036854775808) : IntKind.wrap .i64 a = a := by rw [wrap_i64]; split <;> omega
theorem ishr_k (k : IntKind) (a y : Int) (n : Nat) (p : Int) (h : min y.toNat k.bits = n) (hp : (2 : Int) ^ n = p) : ishr k a y = a / p := by
 subst hp; subst h
 unfold ishr
 exact Int.fdiv_eq_ediv_of_nonneg _ (Int.le_of_lt (Int.pow_pos (by omega)))
theorem ishl_k (k : IntKind) (a y : Int) (n : Nat) (p : Int) (h : min y.toNat k.bits = n) (hp : (2 : Int) ^ n = p) : ishl k a y = k.wrap (a * p) := by
 subst hp; subst h; rfl
theorem ofInt_nat {n : Nat} {a : Int} (h0 : 0 ≤ a) (h1 : a < 2 ^ n) : (BitVec.ofInt n a).toNat = a.toNat := by
 rw [BitVec.toNat_ofInt]
 congr 1
 exact Int.emod_eq_of_lt h0 (by exact_mod_cast h1)
theorem iand_low (k : IntKind) (a m p : Int) (n : Nat) (hp : (2 : Int) ^ n = p) (hm : m = p - 1) (hn : n < k.bits) : iand k a m = a % p := by
 have hp0 : 0 < p := by rw [← hp]; exact Int.pow_pos (by omega)
 have hle : (2 : Int) ^ n * 2 ≤ 2 ^ k.bits := by
  have : (2 : Nat) ^ (n + 1) ≤ 2 ^ k.bits := Nat.pow_le_pow_right (by omega) hn
  have h2 : ((2 ^ (n + 1) : Nat) : Int) ≤ ((2 ^ k.bits : Nat) : Int) := by exact_mod_cast this
  rw [Nat.pow_succ] at h2
  exact_mod_cast h2
 rw [hp] at hle
 unfold iand
 rw [BitVec.toNat_and, ofInt_nat (a := m) (by omega) (by omega)]
 have h1 : m.toNat = 2 ^ n - 1 := by
  have : ((2 ^ n : Nat) : Int) = p := by push_cast; exact hp
  omega
 rw [h1, Nat.and_two_pow_sub_one_eq_mod, BitVec.toNat_ofInt]
 have hd : p ∣ (2 : Int) ^ k.bits := by
  rw [← hp]
  have := Int.natCast_dvd_natCast.2 (Nat.pow_dvd_pow 2 (Nat.le_of_lt hn))
  push_cast at this
  exact this
 have h3 : ((((a % ((2 ^ k.bits : Nat) : Int)).toNat % 2 ^ n : Nat)) : Int) = a % p := by
  rw [Int.natCast_emod, Int.toNat_of_nonneg (Int.emod_nonneg _ (by have : (0:Nat) < 2 ^ k.bits := Nat.pow_pos (by omega); omega))]
  push_cast
  rw [hp, Int.emod_emod_of_dvd _ hd]
 rw [h3]
 have := Int.emod_lt_of_pos a hp0
 have := Int.emod_nonneg a (Int.ne_of_gt hp0)
 generalize a % p = r at *
 cases k <;> simp only [IntKind.bits] at hle <;> simp only [wrap_u8, wrap_u16, wrap_u32, wrap_u64, wrap_i8, wrap_i16, wrap_i32, wrap_i64, IntKind.wrap, IntKind.signed, IntKind.bits] <;> first | omega | (split <;> omega) | (simp; omega) | skip
end Go.GX
namespace Go.GX
theorem sec_full {α : Type} {d : α} {l : List α} {n : Nat} (h : l.length = n) : sec d l 0 n = l := by
 subst h
 unfold sec
 apply List.ext_getElem (by simp)
 intro i h1 h2
 simp [h2]
theorem lset_eq {α : Type} {d : α} {l : List α} {i : Nat} {v : α} (h : i < l.length) : lset d l i v = l.set i v := by
 induction l generalizing i with
 | nil => simp at h
 | cons x l ih => cases i with
  | zero => rfl
  | succ i => rw [lset, List.set_cons_succ, ih (by simpa using h)]
theorem wh_steps {α β : Type} {f : α → Option (α ⊕ β)} (inv : Nat → α) (n : Nat) (h : ∀ i, i < n → f (inv i) = some (.inl (inv (i + 1)))) : wh f (inv 0) = wh f (inv n) := by
 induction n with
 | zero => rfl
 | succ n ih => rw [ih (fun i hi => h i (by omega)), wh_next (h n (by omega))]
theorem whV_of {hd : List It} {ys : Ways} {f : XD hd → Option (XD hd ⊕ YD ys)} {x : XD hd} {y : YD ys} (h : wh f x = some y) : whV f x = y := by unfold whV; rw [h]; rfl
theorem whK_of {hd : List It} {ys : Ways} {f : XD hd → Option (XD hd ⊕ YD ys)} {x : XD hd} {y : YD ys} (h : wh f x = some y) : whK f x = true := by unfold whK; rw [h]; rfl
end Go.GX
namespace Go.GX
end Go.GX
namespace Go.GX
theorem bif_t {α : Type} {c : Bool} {a b : α} (h : c = true) : (bif c then a else b) = a := by rw [h]; rfl
theorem bif_f {α : Type} {c : Bool} {a b : α} (h : c = false) : (bif c then a else b) = b := by rw [h]; rfl
end Go.GX
namespace Go.GX
theorem ofE {α β : Type} {E : α → Option β} {x : α} {y d : β} (h : E x = some y) : (E x).getD d = y ∧ (E x).isSome = true := by rw [h]; exact ⟨rfl, rfl⟩
end Go.GX

namespace Go.GX
set_option linter.unusedVariables false
set_option linter.unusedSimpArgs false
theorem ofInt64 (a : Int) : (BitVec.ofInt (IntKind.bits .u64) a).toNat = (a % 18446744073709551616).toNat := by
 show (BitVec.ofInt 64 a).toNat = _
 simp [BitVec.toNat_ofInt]
theorem ixor_u64 (a b : Int) : ixor .u64 a b = (((a % 18446744073709551616).toNat ^^^ (b % 18446744073709551616).toNat : Nat) : Int) := by
 unfold ixor
 rw [BitVec.toNat_xor, ofInt64, ofInt64, wrap_u64]
 have h1 : (a % 18446744073709551616).toNat < 2 ^ 64 := by omega
 have h2 : (b % 18446744073709551616).toNat < 2 ^ 64 := by omega
 have := Nat.xor_lt_two_pow h1 h2
 omega
def u (a : Int) : Nat := (a % 18446744073709551616).toNat
def bit (a : Int) (i : Nat) : Bool := (u a).testBit i
def InR (a : Int) : Prop := 0 ≤ a ∧ a < 18446744073709551616
theorem u_lt (a : Int) : u a < 2 ^ 64 := by unfold u; omega
theorem u_of {a : Int} (h : InR a) : (u a : Int) = a := by unfold u; unfold InR at h; omega
theorem u_cast (n : Nat) (h : n < 2 ^ 64) : u (n : Int) = n := by unfold u; omega
theorem bits_eq {a b : Int} (ha : InR a) (hb : InR b) (h : ∀ i, bit a i = bit b i) : a = b := by
 rw [← u_of ha, ← u_of hb, Nat.eq_of_testBit_eq h]
theorem inR_wrap (a : Int) : InR (IntKind.wrap .u64 a) := by unfold InR; rw [wrap_u64]; omega
theorem ixor_n (a b : Int) : ixor .u64 a b = ((u a ^^^ u b : Nat) : Int) := ixor_u64 a b
theorem ior_n (a b : Int) : ior .u64 a b = ((u a ||| u b : Nat) : Int) := by
 unfold ior
 rw [BitVec.toNat_or, ofInt64, ofInt64, wrap_u64]
 have := Nat.or_lt_two_pow (u_lt a) (u_lt b)
 unfold u at this ⊢
 omega
theorem iandn_n (a b : Int) : iandn .u64 a b = ((BitVec.ofInt 64 a &&& ~~~BitVec.ofInt 64 b).toNat : Int) := by
 unfold iandn
 rw [wrap_u64]
 have := (BitVec.ofInt 64 a &&& ~~~BitVec.ofInt 64 b).isLt
 show (((BitVec.ofInt 64 a &&& ~~~BitVec.ofInt 64 b).toNat : Int)) % 18446744073709551616 = _
 omega
theorem inR_ixor (a b : Int) : InR (ixor .u64 a b) := by unfold ixor; exact inR_wrap _
theorem inR_iandn (a b : Int) : InR (iandn .u64 a b) := by unfold iandn; exact inR_wrap _
theorem bit_ior (a b : Int) (i : Nat) : bit (ior .u64 a b) i = (bit a i || bit b i) := by
 unfold bit
 rw [ior_n, u_cast _ (Nat.or_lt_two_pow (u_lt a) (u_lt b)), Nat.testBit_or]
theorem bv_bit (a : Int) (i : Nat) : (BitVec.ofInt 64 a).getLsbD i = bit a i := by
 show (BitVec.ofInt 64 a).toNat.testBit i = _
 have := ofInt64 a
 rw [show (BitVec.ofInt 64 a).toNat = (a % 18446744073709551616).toNat from this]; rfl
theorem bit_hi (a : Int) {i : Nat} (h : 64 ≤ i) : bit a i = false :=
 Nat.testBit_lt_two_pow (Nat.lt_of_lt_of_le (u_lt a) (Nat.pow_le_pow_right (by omega) h))
theorem bit_iandn (a b : Int) (i : Nat) : bit (iandn .u64 a b) i = (bit a i && !bit b i) := by
 have h : bit (iandn .u64 a b) i = (BitVec.ofInt 64 a &&& ~~~BitVec.ofInt 64 b).getLsbD i := by
  rw [iandn_n]
  unfold bit
  rw [u_cast _ (BitVec.isLt _)]
  rfl
 rw [h, BitVec.getLsbD_and, BitVec.getLsbD_not, bv_bit, bv_bit]
 by_cases hi : i < 64
 ·simp [hi]
 ·rw [bit_hi a (by omega)]; simp
def tbl0 : List UInt8 := [0, 1, 2, 2, 3, 3, 3, 3, 4, 4, 4, 4, 4, 4, 4, 4, 5, 5, 5, 5, 5, 5, 5, 5, 5, 5, 5, 5, 5, 5, 5, 5, 6, 6, 6, 6, 6, 6, 6, 6, 6, 6, 6, 6, 6, 6, 6, 6, 6, 6, 6, 6, 6, 6, 6, 6, 6, 6, 6, 6, 6, 6, 6, 6, 7, 7, 7, 7, 7, 7, 7, 7, 7, 7, 7, 7, 7, 7, 7, 7, 7, 7, 7, 7, 7, 7, 7, 7, 7, 7, 7, 7, 7, 7, 7, 7, 7, 7, 7, 7, 7, 7, 7, 7, 7, 7, 7, 7, 7, 7, 7, 7, 7, 7, 7, 7, 7, 7, 7, 7, 7, 7, 7, 7, 7, 7, 7, 7, 8, 8, 8, 8, 8, 8, 8, 8, 8, 8, 8, 8, 8, 8, 8, 8, 8, 8, 8, 8, 8, 8, 8, 8, 8, 8, 8, 8, 8, 8, 8, 8, 8, 8, 8, 8, 8, 8, 8, 8, 8, 8, 8, 8, 8, 8, 8, 8, 8, 8, 8, 8, 8, 8, 8, 8, 8, 8, 8, 8, 8, 8, 8, 8, 8, 8, 8, 8, 8, 8, 8, 8, 8, 8, 8, 8, 8, 8, 8, 8, 8, 8, 8, 8, 8, 8, 8, 8, 8, 8, 8, 8, 8, 8, 8, 8, 8, 8, 8, 8, 8, 8, 8, 8, 8, 8, 8, 8, 8, 8, 8, 8, 8, 8, 8, 8, 8, 8, 8, 8, 8, 8, 8, 8, 8, 8, 8, 8]
def len64S (x : Int) : Option Int :=
 (bif (decide (x ≥ 4294967296)) then
  (bif (decide ((ishr .u64 x 32) ≥ 65536)) then
   (bif (decide ((ishr .u64 (ishr .u64 x 32) 16) ≥ 256)) then
    (bif (tt 1 ((decide (0 ≤ (IntKind.wrap .u8 (ishr .u64 (ishr .u64 (ishr .u64 x 32) 16) 8)))) && (decide ((IntKind.wrap .u8 (ishr .u64 (ishr .u64 (ishr .u64 x 32) 16) 8)) < 256)))) then some (IntKind.wrap .i64 (56 + (IntKind.wrap .i64 ((tbl0.getD (Int.toNat (IntKind.wrap .u8 (ishr .u64 (ishr .u64 (ishr .u64 x 32) 16) 8))) 0).toNat : Int)))) else none)
   else
    (bif (tt 1 ((decide (0 ≤ (IntKind.wrap .u8 (ishr .u64 (ishr .u64 x 32) 16)))) && (decide ((IntKind.wrap .u8 (ishr .u64 (ishr .u64 x 32) 16)) < 256)))) then some (IntKind.wrap .i64 (48 + (IntKind.wrap .i64 ((tbl0.getD (Int.toNat (IntKind.wrap .u8 (ishr .u64 (ishr .u64 x 32) 16))) 0).toNat : Int)))) else none))
  else
   (bif (decide ((ishr .u64 x 32) ≥ 256)) then
    (bif (tt 1 ((decide (0 ≤ (IntKind.wrap .u8 (ishr .u64 (ishr .u64 x 32) 8)))) && (decide ((IntKind.wrap .u8 (ishr .u64 (ishr .u64 x 32) 8)) < 256)))) then some (IntKind.wrap .i64 (40 + (IntKind.wrap .i64 ((tbl0.getD (Int.toNat (IntKind.wrap .u8 (ishr .u64 (ishr .u64 x 32) 8))) 0).toNat : Int)))) else none)
   else
    (bif (tt 1 ((decide (0 ≤ (IntKind.wrap .u8 (ishr .u64 x 32)))) && (decide ((IntKind.wrap .u8 (ishr .u64 x 32)) < 256)))) then some (IntKind.wrap .i64 (32 + (IntKind.wrap .i64 ((tbl0.getD (Int.toNat (IntKind.wrap .u8 (ishr .u64 x 32))) 0).toNat : Int)))) else none)))
 else
  (bif (decide (x ≥ 65536)) then
   (bif (decide ((ishr .u64 x 16) ≥ 256)) then
    (bif (tt 1 ((decide (0 ≤ (IntKind.wrap .u8 (ishr .u64 (ishr .u64 x 16) 8)))) && (decide ((IntKind.wrap .u8 (ishr .u64 (ishr .u64 x 16) 8)) < 256)))) then some (IntKind.wrap .i64 (24 + (IntKind.wrap .i64 ((tbl0.getD (Int.toNat (IntKind.wrap .u8 (ishr .u64 (ishr .u64 x 16) 8))) 0).toNat : Int)))) else none)
   else
    (bif (tt 1 ((decide (0 ≤ (IntKind.wrap .u8 (ishr .u64 x 16)))) && (decide ((IntKind.wrap .u8 (ishr .u64 x 16)) < 256)))) then some (IntKind.wrap .i64 (16 + (IntKind.wrap .i64 ((tbl0.getD (Int.toNat (IntKind.wrap .u8 (ishr .u64 x 16))) 0).toNat : Int)))) else none))
  else
   (bif (decide (x ≥ 256)) then
    (bif (tt 1 ((decide (0 ≤ (IntKind.wrap .u8 (ishr .u64 x 8)))) && (decide ((IntKind.wrap .u8 (ishr .u64 x 8)) < 256)))) then some (IntKind.wrap .i64 (8 + (IntKind.wrap .i64 ((tbl0.getD (Int.toNat (IntKind.wrap .u8 (ishr .u64 x 8))) 0).toNat : Int)))) else none)
   else
    (bif (tt 1 ((decide (0 ≤ (IntKind.wrap .u8 x))) && (decide ((IntKind.wrap .u8 x) < 256)))) then some (IntKind.wrap .i64 (0 + (IntKind.wrap .i64 ((tbl0.getD (Int.toNat (IntKind.wrap .u8 x)) 0).toNat : Int)))) else none))))
def BL (n k : Nat) : Prop := n < 2 ^ k ∧ (k = 0 ∨ 2 ^ (k - 1) ≤ n)
theorem BL_uniq {n k k' : Nat} (h : BL n k) (h' : BL n k') : k = k' := by
 have key : ∀ {a b : Nat}, BL n a → BL n b → ¬ a < b := by
  intro a b ha hb hlt
  rcases hb.2 with e | e
  ·omega
  ·have : 2 ^ a ≤ 2 ^ (b - 1) := Nat.pow_le_pow_right (by omega) (by omega)
   have := ha.1
   omega
 have := key h h'; have := key h' h; omega
theorem tbl_ok : ∀ i, i < 256 → BL i (tbl0.getD i 0).toNat := by
 have h : ((List.range 256).all fun i => Nat.blt i (2 ^ (tbl0.getD i 0).toNat) && (Nat.beq (tbl0.getD i 0).toNat 0 || Nat.ble (2 ^ ((tbl0.getD i 0).toNat - 1)) i)) = true := by decide +kernel
 intro i hi
 have := List.all_eq_true.1 h i (by simpa using hi)
 simp only [Bool.and_eq_true, Bool.or_eq_true] at this
 exact ⟨Nat.le_of_ble_eq_true this.1, this.2.imp Nat.eq_of_beq_eq_true Nat.le_of_ble_eq_true⟩
theorem tbl_le : ∀ i, i < 256 → (tbl0.getD i 0).toNat ≤ 8 := by
 have h : ((List.range 256).all fun i => Nat.ble (tbl0.getD i 0).toNat 8) = true := by decide +kernel
 intro i hi
 exact Nat.le_of_ble_eq_true (List.all_eq_true.1 h i (by simpa using hi))
theorem BL_shift {n s k : Nat} (h : BL (n / 2 ^ s) k) (h1 : s = 0 ∨ 1 ≤ n / 2 ^ s) : BL n (s + k) := by
 have hp : 0 < 2 ^ s := Nat.pow_pos (by omega)
 have a1 := h.1
 have e1 : n < 2 ^ (s + k) := by
  rw [Nat.pow_add, Nat.mul_comm]
  exact (Nat.div_lt_iff_lt_mul hp).1 a1
 refine ⟨e1, ?_⟩
 rcases h.2 with e | e
 ·rcases h1 with h1 | h1
  ·left; omega
  ·subst e; rw [Nat.pow_zero] at a1; omega
 ·by_cases hk : k = 0
  ·subst hk
   rcases h1 with h1 | h1
   ·left; omega
   ·rw [Nat.pow_zero] at a1; omega
  ·right
   rw [show s + k - 1 = s + (k - 1) from by omega, Nat.pow_add, Nat.mul_comm]
   exact (Nat.le_div_iff_mul_le hp).1 e
theorem leaf (x : Int) (s : Nat) (y : Int) (hx : InR x) (hy : y = x / ((2 ^ s : Nat) : Int)) (hs : s ≤ 56) (h : y < 256) (h1 : s = 0 ∨ 1 ≤ y) :
 ∃ L : Nat, (bif (tt 1 ((decide (0 ≤ (IntKind.wrap .u8 y))) && (decide ((IntKind.wrap .u8 y) < 256)))) then some (IntKind.wrap .i64 ((s : Int) + (IntKind.wrap .i64 ((tbl0.getD (Int.toNat (IntKind.wrap .u8 y)) 0).toNat : Int)))) else none) = some (L : Int) ∧ L ≤ 64 ∧ BL x.toNat L := by
 have y0 : 0 ≤ y := by rw [hy]; exact Int.ediv_nonneg hx.1 (Int.natCast_nonneg _)
 have hw : IntKind.wrap .u8 y = y := by
  have : IntKind.wrap .u8 y = y % 256 := by simp [IntKind.wrap, IntKind.signed, IntKind.bits]
  omega
 rw [hw, decide_eq_true y0, decide_eq_true h, tt_eq]
 have hlt : y.toNat < 256 := by omega
 have ht := tbl_le y.toNat hlt
 have hb := tbl_ok y.toNat hlt
 have hyn : y.toNat = x.toNat / 2 ^ s := by
  obtain ⟨m, rfl⟩ : ∃ m : Nat, x = (m : Int) := ⟨x.toNat, (Int.toNat_of_nonneg hx.1).symm⟩
  rw [hy, ← Int.natCast_ediv, Int.toNat_natCast, Int.toNat_natCast]
 generalize (tbl0.getD y.toNat 0).toNat = t at ht hb ⊢
 refine ⟨s + t, ?_, by omega, BL_shift (by rw [← hyn]; exact hb) (h1.imp id (fun h => by omega))⟩
 simp only [Bool.and_self, cond_true]
 congr 1
 rw [wrap_i64 (t : Int)]
 rw [if_neg (by omega), wrap_i64, if_neg (by omega)]
 omega
theorem shr_n (x : Int) (k : Nat) (hk : k ≤ 64) : ishr .u64 x (k : Int) = x / ((2 ^ k : Nat) : Int) := by
 unfold ishr
 rw [show IntKind.bits .u64 = 64 from rfl, show (min ((k : Int).toNat) 64) = k from by omega]
 have h : ((2 : Int) ^ k) = ((2 ^ k : Nat) : Int) := by rw [Int.natCast_pow]; rfl
 rw [h, Int.fdiv_eq_ediv_of_nonneg _ (Int.natCast_nonneg _)]
theorem shr32 (x : Int) : ishr .u64 x 32 = x / 4294967296 := shr_n x 32 (by omega)
theorem shr16 (x : Int) : ishr .u64 x 16 = x / 65536 := shr_n x 16 (by omega)
theorem shr8 (x : Int) : ishr .u64 x 8 = x / 256 := shr_n x 8 (by omega)
theorem len_some (x : Int) (hx : InR x) : ∃ L : Nat, len64S x = some (L : Int) ∧ L ≤ 64 ∧ BL x.toNat L := by
 have h56 : ((2 ^ 56 : Nat) : Int) = 72057594037927936 := rfl
 have h48 : ((2 ^ 48 : Nat) : Int) = 281474976710656 := rfl
 have h40 : ((2 ^ 40 : Nat) : Int) = 1099511627776 := rfl
 have h32 : ((2 ^ 32 : Nat) : Int) = 4294967296 := rfl
 have h24 : ((2 ^ 24 : Nat) : Int) = 16777216 := rfl
 have h16 : ((2 ^ 16 : Nat) : Int) = 65536 := rfl
 have h8 : ((2 ^ 8 : Nat) : Int) = 256 := rfl
 have h0 : ((2 ^ 0 : Nat) : Int) = 1 := rfl
 have hx' := hx
 unfold InR at hx'
 unfold len64S
 simp only [shr32, shr16, shr8]
 by_cases c1 : x ≥ 4294967296
 ·rw [decide_eq_true c1, cond_true]
  by_cases c2 : x / 4294967296 ≥ 65536
  ·rw [decide_eq_true c2, cond_true]
   by_cases c3 : x / 4294967296 / 65536 ≥ 256
   ·rw [decide_eq_true c3, cond_true]
    exact leaf x 56 _ hx (by rw [h56]; omega) (by omega) (by omega) (.inr (by omega))
   ·rw [decide_eq_false c3, cond_false]
    exact leaf x 48 _ hx (by rw [h48]; omega) (by omega) (by omega) (.inr (by omega))
  ·rw [decide_eq_false c2, cond_false]
   by_cases c3 : x / 4294967296 ≥ 256
   ·rw [decide_eq_true c3, cond_true]
    exact leaf x 40 _ hx (by rw [h40]; omega) (by omega) (by omega) (.inr (by omega))
   ·rw [decide_eq_false c3, cond_false]
    exact leaf x 32 _ hx (by rw [h32]) (by omega) (by omega) (.inr (by omega))
 ·rw [decide_eq_false c1, cond_false]
  by_cases c2 : x ≥ 65536
  ·rw [decide_eq_true c2, cond_true]
   by_cases c3 : x / 65536 ≥ 256
   ·rw [decide_eq_true c3, cond_true]
    exact leaf x 24 _ hx (by rw [h24]; omega) (by omega) (by omega) (.inr (by omega))
   ·rw [decide_eq_false c3, cond_false]
    exact leaf x 16 _ hx (by rw [h16]) (by omega) (by omega) (.inr (by omega))
  ·rw [decide_eq_false c2, cond_false]
   by_cases c3 : x ≥ 256
   ·rw [decide_eq_true c3, cond_true]
    exact leaf x 8 _ hx (by rw [h8]) (by omega) (by omega) (.inr (by omega))
   ·rw [decide_eq_false c3, cond_false]
    exact leaf x 0 _ hx (by rw [h0]; omega) (by omega) (by omega) (.inl rfl)
end Go.GX
