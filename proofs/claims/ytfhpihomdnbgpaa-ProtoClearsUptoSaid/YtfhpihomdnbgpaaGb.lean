import Derived.Test.YtfhpihomdnbgpaaGa
import Derived.Tactics
import Derived.Orders
/-! An executor for translated code over abstract states, and its soundness. -/
namespace Go.GX
set_option linter.unusedSimpArgs false
set_option linter.unusedVariables false
set_option linter.unusedSectionVars false
open Go.RowKit (Below)
theorem length_sec {α : Type} (d : α) (l : List α) (s n : Nat) : (sec d l s n).length = n := by simp [sec]
theorem getD_sec {α : Type} (d : α) (l : List α) (s n i : Nat) (h : i < n) : (sec d l s n).getD i d = l.getD (s + i) d := by
 simp [sec, List.getD_eq_getElem?_getD, h]
theorem CL_rows {φ : Phi} {e : Ty} {n : Nat} {l : List e.den} {cs : List Value} (hl : cs.length = n * size e) (h : ∀ i, i < n → ∀ (j : Nat) c, (flat e (l.getD i (dflt e)))[j]? = some c → ∃ v, cs[i * size e + j]? = some v ∧ CR φ c v) :
 CL φ (flat (.arr n e) l) cs := by
 refine ⟨by rw [hl, length_flat, size], fun k c hk => ?_⟩
 have hlt := (List.getElem?_eq_some_iff.1 hk).1
 rw [length_flat, size] at hlt
 have hpos : 0 < size e := by
  rcases Nat.eq_zero_or_pos (size e) with h0 | h0
  ·rw [h0] at hlt; omega
  ·exact h0
 have hq : k / size e < n := Nat.div_lt_of_lt_mul (by rw [Nat.mul_comm]; exact hlt)
 have hr : k % size e < size e := Nat.mod_lt _ hpos
 have hkk : k = k / size e * size e + k % size e := by rw [Nat.mul_comm]; exact (Nat.div_add_mod k (size e)).symm
 rw [flat, hkk, get_flatMap_const _ (size e) (fun i => length_flat e _) n _ _ hq hr] at hk
 obtain ⟨v, hv, hvr⟩ := h _ hq _ c hk
 exact ⟨v, by rw [← hkk] at hv; exact hv, hvr⟩
theorem CL_row {φ : Phi} {e : Ty} {n : Nat} {l : List e.den} {cs : List Value} (h : CL φ (flat (.arr n e) l) cs) {i : Nat} (hi : i < n) {j : Nat} {c : Cell} (hj : (flat e (l.getD i (dflt e)))[j]? = some c) : ∃ v, cs[i * size e + j]? = some v ∧ CR φ c v := by
 have hjs : j < size e := by rw [← length_flat e (l.getD i (dflt e))]; exact (List.getElem?_eq_some_iff.1 hj).1
 exact h.2 _ c (by rw [flat, get_flatMap_const _ (size e) (fun i => length_flat e _) n i j hi hjs]; exact hj)
theorem CL_append2 {φ : Phi} {e : Ty} {m n : Nat} {l k : List e.den} {cs ds : List Value} (hl : l.length = m) (h : CL φ (flat (.arr m e) l) cs) (g : CL φ (flat (.arr n e) k) ds) :
 CL φ (flat (.arr (m + n) e) (l ++ k)) (cs ++ ds) := by
 have h1 : cs.length = m * size e := by have := h.1; rwa [length_flat, size] at this
 have h2 : ds.length = n * size e := by have := g.1; rwa [length_flat, size] at this
 refine CL_rows (by rw [List.length_append, h1, h2, Nat.add_mul]) (fun i hi j c hj => ?_)
 have hjs : j < size e := by rw [← length_flat e ((l ++ k).getD i (dflt e))]; exact (List.getElem?_eq_some_iff.1 hj).1
 by_cases hlt : i < m
 ·have he : (l ++ k).getD i (dflt e) = l.getD i (dflt e) := by simp only [List.getD_eq_getElem?_getD]; rw [List.getElem?_append_left (by omega)]
  rw [he] at hj
  obtain ⟨v, hv, hr⟩ := CL_row h hlt hj
  exact ⟨v, by rw [List.getElem?_append_left (by have := (List.getElem?_eq_some_iff.1 hv).1; omega)]; exact hv, hr⟩
 ·have he : (l ++ k).getD i (dflt e) = k.getD (i - m) (dflt e) := by simp only [List.getD_eq_getElem?_getD]; rw [List.getElem?_append_right (by omega), hl]
  rw [he] at hj
  obtain ⟨v, hv, hr⟩ := CL_row g (i := i - m) (by omega) hj
  refine ⟨v, ?_, hr⟩
  have hge : m * size e ≤ i * size e := Nat.mul_le_mul_right _ (by omega)
  rw [List.getElem?_append_right (by omega), h1, ← hv]
  congr 1
  have : (i - m) * size e = i * size e - m * size e := Nat.sub_mul _ _ _
  omega
theorem MemRel.del {base : Nat} {φ : Phi} {m : Mem} {nxt : Nat} {w : World} (h : MemRel base φ m nxt w) (i : Option Nat) : MemRel base φ (delO m i) nxt w := h.forget (fun j b hj => by
 cases i with
 | none => exact hj
 | some i =>
  simp only [delO, Mem.get_del] at hj
  split at hj
  ·cases hj
  ·exact hj)
theorem Same.drew (w : World) : Same w w.drew := ⟨Nat.le_refl _, fun _ _ => rfl⟩
theorem MemRel.void {base : Nat} {φ : Phi} {m : Mem} {nxt nn id : Nat} {w : World} (h : MemRel base φ m nxt w) (hfr : φ id = none) (hid : id < nn) (hnn : nxt ≤ nn) {b : Blk} (hb : b.n = 0) : MemRel base φ ((id, b) :: m) nn w where
 blk i b' hi := by
  rw [Mem.get_cons] at hi
  by_cases e : i = id
  ·rw [if_pos e] at hi; cases hi; subst e; exact .inl ⟨hfr, hb⟩
  ·rw [if_neg e] at hi; exact h.blk i b' hi
 apart i j b1 b2 p1 p2 hi hj hij hw h1 h2 := by
  rw [Mem.get_cons] at hi hj
  by_cases e1 : i = id
  ·subst e1; rw [hfr] at h1; cases h1
  ·by_cases e2 : j = id
   ·subst e2; rw [hfr] at h2; cases h2
   ·rw [if_neg e1] at hi; rw [if_neg e2] at hj
    exact h.apart i j b1 b2 p1 p2 hi hj hij hw h1 h2
 fresh i ph hp := ⟨Nat.lt_of_lt_of_le (h.fresh i ph hp).1 hnn, (h.fresh i ph hp).2⟩
 lo := h.lo
 base := h.base
 imm := h.imm
section
variable {P : Program} {Θ : Tab} {base : Nat} {φ : Phi} {mem : Mem} {nxt : Nat} {w : World} {tm : TM} {a : Act}
variable (hΘ : TabOK P Θ) (hm : MemRel base φ mem nxt w) (ht : TmR φ tm a.tmps)
include hΘ hm ht
theorem src_ok {te : TI} {v : V} {x : Value} {new : List te.ty.den} {n : Nat} (hx : VR φ v x) (h : srcX mem te.ty v = some (new, n, true)) :
 new.length = n ∧ (∀ w2, (Builtin.lenOf x).run P w2 = .ok n w2) ∧ ∃ cs : List Value, (Builtin.firstCells (size te.ty) n x).run P w = .ok cs.toArray w ∧ CL φ (flat (.arr n te.ty) new) cs := by
 have hnil : CL φ (flat (.arr 0 te.ty) ([] : List te.ty.den)) [] := ⟨rfl, fun i c hi => by simp [flat] at hi⟩
 unfold srcX at h
 split at h
 ·cases h
  rw [VR_nilslice] at hx
  subst hx
  exact ⟨rfl, fun w2 => rfl, [], rfl, hnil⟩
 ·rename_i s
  simp only [Option.map_eq_some_iff, Prod.mk.injEq] at h
  obtain ⟨⟨l, k, ok⟩, hrow, rfl, rfl, hok⟩ := h
  obtain ⟨rfl, hle⟩ := and_split hok
  simp only [decide_eq_true_eq] at hle
  refine ⟨length_sec _ _ _ _, ?_⟩
  rcases VR_slice.1 hx with ⟨h0, _, rfl⟩ | ⟨ad, cc, rfl, hlc, _, _, had⟩
  ·rw [h0]
   exact ⟨fun w2 => rfl, [], rfl, by simpa [sec] using hnil⟩
  ·obtain ⟨vs, hv, hlen, hget⟩ := loadCells_ok hΘ hm ht hrow hle hlc had
   exact ⟨fun w2 => rfl, vs, hv, CL_rows hlen (fun i hi j c hj => by rw [getD_sec _ _ _ _ _ hi] at hj; exact hget i hi j c hj)⟩
 ·rename_i e l
  split at h
  ·rename_i he
   subst he
   cases h
   refine ⟨rfl, ?_⟩
   have hv := VR_vsl.1 hx
   unfold CR at hv
   rcases hv with ⟨h0, rfl⟩ | ⟨ad, cc, rfl, hlc, himm⟩
   ·rw [h0]
    have : l = [] := List.length_eq_zero_iff.1 h0
    subst this
    exact ⟨fun w2 => rfl, [], rfl, hnil⟩
   ·refine ⟨fun w2 => rfl, ?_⟩
    rcases Nat.eq_zero_or_pos l.length with h0 | hpos
    ·have : l = [] := List.length_eq_zero_iff.1 h0
     subst this
     exact ⟨[], by simp [Builtin.firstCells, loadCells, loadCellsFrom, Sem.run_pure], hnil⟩
    ·obtain ⟨hsp, os, el, fr, him, hcs⟩ := himm (by omega)
     obtain ⟨b, o, sp⟩ := ad
     simp only at hsp him hcs
     subst hsp
     rw [CRs_iff] at hcs
     let f : Nat → Value := fun j => (w.cell? ⟨b, o + j, none⟩).getD undef
     have hcell : ∀ j, j < l.length * size te.ty → w.cell? ((⟨b, o, none⟩ : Addr).add j) = some (f j) := by
      intro j hj
      obtain ⟨u, hu, _⟩ := hcs j _ (List.getElem?_eq_getElem (by rw [length_flat, size]; exact hj))
      rw [List.getElem?_drop] at hu
      have hc := imm_cell hm (a := ⟨b, o, none⟩) him rfl j
      rw [add_off]
      simp only at hc
      simp only [f, hc]
      rw [show os[o + j]? = some u from by simpa using hu]; rfl
     refine ⟨(List.range (l.length * size te.ty)).map f, run_loadCells (P := P) w _ _ f hcell, by simp [length_flat, size], fun i c hi => ?_⟩
     obtain ⟨u, hu, hr⟩ := hcs i c hi
     have hlt := (List.getElem?_eq_some_iff.1 hi).1
     rw [length_flat, size] at hlt
     refine ⟨u, ?_, hr⟩
     have hc := imm_cell hm (a := ⟨b, o, none⟩) him rfl i
     rw [List.getElem?_drop] at hu
     simp only at hc
     simp only [List.getElem?_map, List.getElem?_range hlt, Option.map_some, f, hc]
     rw [show os[o + i]? = some u from by simpa using hu]; rfl
  ·cases h
 ·rename_i s
  split at h
  ·rename_i he
   obtain ⟨tty, _, _, _⟩ := te
   simp only at he new h ⊢
   subst he
   cases h
   rw [VR_str] at hx
   subst hx
   refine ⟨by simp, fun w2 => by simp [Builtin.lenOf, Sem.run_pure]; rfl, (s.map fun b => Value.int .u8 b.toNat), ?_, ?_⟩
   ·simp only [Builtin.firstCells, Sem.run_pure]
    congr 1
    have : ((⟨s.toArray⟩ : ByteArray).extract 0 s.length).data = s.toArray := by
     rw [ByteArray.data_extract]; simp
    rw [this]; simp
   ·refine CL_rows (by simp [size]) (fun i hi j c hj => ?_)
    have hgi : ∃ b, s[i]? = some b := ⟨_, List.getElem?_eq_getElem hi⟩
    obtain ⟨b, hb⟩ := hgi
    have hd : (s.map fun b => ((b.toNat : Nat) : Int)).getD i (dflt (.int .u8)) = (b.toNat : Int) := by
     rw [List.getD_eq_getElem?_getD, List.getElem?_map, hb]; rfl
    have hj' : ([Cell.c0 (.int .u8 (b.toNat : Int))])[j]? = some c := by
     have e : flat (.int .u8) ((s.map fun b => ((b.toNat : Nat) : Int)).getD i (dflt (.int .u8))) = [Cell.c0 (.int .u8 (b.toNat : Int))] := by rw [hd]; rfl
     rw [← e]; exact hj
    cases j with
    | zero =>
     simp only [List.getElem?_cons_zero, Option.some.injEq] at hj'
     subst hj'
     exact ⟨.int .u8 b.toNat, by simp [size, hb], CR_c0.2 rfl⟩
    | succ j => simp at hj'
  ·cases h
 ·cases h
theorem base_ok {te : TI} {v : V} {x : Value} {i : Option Nat} {old : List te.ty.den} {m : Nat} (hx : VR φ v x) (h : baseX mem te.ty v = some (i, old, m, true)) :
 old.length = m ∧ ∃ (ad : Option Addr) (c : Nat) (cs : List Value), x = .slice ad m c ∧ m ≤ c ∧ (ad = none → c = 0) ∧ (Builtin.firstCells (size te.ty) m x).run P w = .ok cs.toArray w ∧ CL φ (flat (.arr m te.ty) old) cs ∧
  (0 < c → ∃ i0 b ph s, i = some i0 ∧ Mem.get mem i0 = some b ∧ b.t = te.ty ∧ b.wr = true ∧ φ i0 = some ph ∧ ad = some ⟨ph.blk, ph.off + s * size te.ty, none⟩ ∧ s + c ≤ ph.cap) := by
 have hnil : CL φ (flat (.arr 0 te.ty) ([] : List te.ty.den)) [] := ⟨rfl, fun i c hi => by simp [flat] at hi⟩
 unfold baseX at h
 split at h
 ·cases h
  rw [VR_nilslice] at hx
  subst hx
  exact ⟨rfl, none, 0, [], rfl, Nat.le_refl _, fun _ => rfl, rfl, hnil, fun h => by omega⟩
 ·rename_i s
  split at h
  ·rename_i b hp hbC
   obtain ⟨hb, hbnt⟩ := Mem.getC_spec hbC
   split at h
   ·rename_i hbt
    simp only [Option.some.injEq, Prod.mk.injEq] at h
    obtain ⟨rfl, hold, rfl, hok⟩ := h
    obtain ⟨hmk, hok⟩ := and_split hok
    have hnv : ¬ VD s := VD.start (by simpa using hmk)
    obtain ⟨hwr, hok2⟩ := and_split hok
    obtain ⟨hle, hcap⟩ := and_split hok2
    simp only [decide_eq_true_eq] at hle
    obtain ⟨bt, bn, brow, bwr⟩ := b
    simp only at hbt hwr hle hold hcap hbnt
    subst hbt
    simp only at hold
    subst hold
    refine ⟨length_sec _ _ _ _, ?_⟩
    rcases VR_slice.1 hx with ⟨h0, _, rfl⟩ | ⟨ad, cc, rfl, hlc, hck, hcn, had⟩
    ·rw [h0]
     exact ⟨none, 0, [], rfl, Nat.le_refl _, fun _ => rfl, rfl, by simpa [sec] using hnil, fun h => by omega⟩
    ·have hrow : rowOf mem te.ty s = some (brow, bn, true) := by
      have hn : nav (.arr bn te.ty) brow s.path = some ⟨.arr bn te.ty, brow⟩ := by rw [hp]; rfl
      have hi : inb (.arr bn te.ty) s.path = true := by rw [hp]; rfl
      simp only [rowOf, hbC, Blk.val, hn, dif_pos, hi]
     obtain ⟨vs, hv, hlen, hget⟩ := loadCells_ok hΘ hm ht hrow hle hlc had
     refine ⟨some ad, cc, vs, rfl, hlc, (fun e => (by cases e)), hv, CL_rows hlen (fun i hi j c hj => by rw [getD_sec _ _ _ _ _ hi] at hj; exact hget i hi j c hj), fun hc => ?_⟩
     have ha := had hc hnv
     obtain ⟨ph, hph⟩ := addr_phys ha
     simp only at hph
     have hbr := hm.blkAt hb hph
     refine ⟨s.id, _, ph, s.start, rfl, hb, rfl, hwr, hph, ?_, ?_⟩
     ·unfold addr at ha
      simp only [hph, hp, List.nil_append] at ha
      have ht' : ph.t = te.ty := hbr.t
      have h0 : offs te.ty [] = some 0 := by cases te.ty <;> rfl
      rw [ht'] at ha
      simp only [offs, h0, Option.map_some, Nat.add_zero, Option.some.injEq] at ha
      rw [← ha]
     ·obtain ⟨_, _, _, _, _, h3⟩ := hbr.cells hbnt
      have h4 := (h3 hwr).2.2.2.1
      simp only at h4
      cases hsc : s.cap with
      | none =>
       obtain ⟨ph', hp', _, he⟩ := hcn hsc hc hnv
       rw [hph] at hp'; cases hp'
       omega
      | some k =>
       have := hck k hsc
       rw [hsc] at hcap
       simp only [decide_eq_true_eq] at hcap
       omega
   ·cases h
  ·cases h
 ·cases h
end
theorem MemRel.regrow {base : Nat} {φ : Phi} {mem : Mem} {nxt nn id i0 : Nat} {w : World} (hm : MemRel base φ mem nxt w) (hfr : φ id = none) (hid : id < nn) (hnn : nxt ≤ nn) {b : Blk} {ph : Phys} (hb : Mem.get mem i0 = some b) (hw : b.wr = true) (hp : φ i0 = some ph)
 (hbnt : isTup b.t = false) {t : Ty} (hbt : b.t = t) {s c n : Nat} {row : List t.den} {cs : Array Value} (hsc : s + c ≤ ph.cap) (hn : n ≤ c) (hsz : ph.off + ph.cap * size t ≤ cs.size)
 (hcs : ∀ (k : Nat) d, (flat (.arr n t) row)[k]? = some d → ∃ v, cs[ph.off + s * size t + k]? = some v ∧ CR φ d v) :
 φ.le (φ.add id ⟨ph.blk, ph.off + s * size t, t, c⟩) ∧ MemRel base (φ.add id ⟨ph.blk, ph.off + s * size t, t, c⟩) ((id, ⟨t, n, row, true⟩) :: Mem.del mem i0) nn (w.setRow ph.blk cs) := by
 subst hbt
 have hle : φ.le (φ.add id ⟨ph.blk, ph.off + s * size b.t, b.t, c⟩) := Phi.le_add hfr
 have hbr := hm.blkAt hb hp
 obtain ⟨old, el, fr, h1, h2, h3⟩ := hbr.cells hbnt
 obtain ⟨hb1, rfl, him, hcap, hold⟩ := h3 hw
 have hadd : ∀ j, (φ.add id ⟨ph.blk, ph.off + s * size b.t, b.t, c⟩) j = if j = id then some ⟨ph.blk, ph.off + s * size b.t, b.t, c⟩ else φ j := fun j => rfl
 refine ⟨hle, ⟨fun j d hj => ?_, fun j k d1 d2 p1 p2 hj hk hjk hw1 q1 q2 => ?_, fun j p hj => ?_, hm.lo, by have := hm.base; simpa using this, fun k o hk => ?_⟩⟩
 ·rw [Mem.get_cons] at hj
  by_cases e : j = id
  ·rw [if_pos e] at hj; cases hj; subst e
   refine .inr ⟨⟨ph.blk, ph.off + s * size b.t, b.t, c⟩, by rw [hadd, if_pos rfl], rfl, fun _ => ⟨hb1, him⟩, MpRel.plain hbnt _, fun _ => ⟨cs, el, (0, 0), setRow_heap w _ _ _ _ _ h1, fun k d hk => ?_, fun _ => ⟨hb1, rfl, him, hn, ?_⟩⟩⟩
   ·obtain ⟨v, hv, hr⟩ := hcs k d hk
    exact ⟨v, hv, CR_mono hle hr⟩
   ·simp only
    have : (s + c) * size b.t ≤ ph.cap * size b.t := Nat.mul_le_mul_right _ hsc
    rw [Nat.add_mul] at this
    omega
  ·rw [if_neg e] at hj
   rw [Mem.get_del] at hj
   by_cases e2 : j = i0
   ·rw [if_pos e2] at hj; cases hj
   ·rw [if_neg e2] at hj
    rcases hm.blk j d hj with ⟨g1, g2⟩ | ⟨ph1, hp1, hr⟩
    ·exact .inl ⟨by rw [hadd, if_neg e]; exact g1, g2⟩
    ·have hd := hm.apart i0 j b d ph ph1 hb hj (fun e => e2 e.symm) hw hp hp1
     exact .inr ⟨ph1, by rw [hadd, if_neg e]; exact hp1, hr.same hle (fun _ h => h) (setRow_other w _ _ _ (fun e => hd e.symm))⟩
 ·rw [Mem.get_cons, Mem.get_del] at hj hk
  rw [hadd] at q1 q2
  by_cases e1 : j = id
  ·have e2 : k ≠ id := fun e => hjk (e1.trans e.symm)
   rw [if_pos e1] at q1; cases q1
   rw [if_neg e2] at q2 hk
   by_cases e3 : k = i0
   ·rw [if_pos e3] at hk; cases hk
   ·rw [if_neg e3] at hk
    exact hm.apart i0 k b d2 ph p2 hb hk (fun e => e3 e.symm) hw hp q2
  ·rw [if_neg e1] at q1 hj
   by_cases e3 : j = i0
   ·rw [if_pos e3] at hj; cases hj
   ·rw [if_neg e3] at hj
    by_cases e2 : k = id
    ·rw [if_pos e2] at q2; cases q2
     exact hm.apart j i0 d1 b p1 ph hj hb e3 hw1 q1 hp
    ·rw [if_neg e2] at q2 hk
     by_cases e4 : k = i0
     ·rw [if_pos e4] at hk; cases hk
     ·rw [if_neg e4] at hk
      exact hm.apart j k d1 d2 p1 p2 hj hk hjk hw1 q1 q2
 ·rw [hadd] at hj
  by_cases e : j = id
  ·rw [if_pos e] at hj; cases hj
   have := (hm.fresh i0 ph hp).2
   exact ⟨by omega, by simpa using this⟩
  ·rw [if_neg e] at hj
   have := hm.fresh j p hj
   exact ⟨by omega, by simpa using this.2⟩
 ·have hne : k ≠ ph.blk := by
   intro e; subst e
   have hk : φ.imm ph.blk = some o := hk
   rw [him] at hk; cases hk
  exact (setRow_other w _ _ _ hne).trans (hm.imm k o hk)
section
variable {P : Program} {Θ : Tab} {K : Kn} {base : Nat} {φ : Phi} {mem : Mem} {id nn nxt : Nat} {w : World} {tm : TM} {a : Act} {r : R}
variable (hΘ : TabOK P Θ) (hK : KOK P K) (hm : MemRel base φ mem nxt w) (hfr : φ id = none) (hid : id < nn) (hnn : nxt ≤ nn) (ht : TmR φ tm a.tmps)
variable {dst : Option Tmp} {type : TypeId} {pos : String} {after : Array Edge} {guard : Option (Nat × Bool)}
include hΘ hK hm hfr hid hnn ht
theorem acts_append {args : Array Operand} {ts : Array Nat} (h : opxI Θ K tm mem id nn nxt ⟨dst, .call ⟨.builtin .append, args, ts⟩, type, pos, after, guard⟩ = some r) (hok : r.ok = true) :
 ∀ (next : Act → World → Prop) (Q : Exit → Act → World → Prop),
 (∀ ψ w' x, φ.le ψ → MemRel base ψ r.mem r.nxt w' → Below base w w' → (∀ v, r.v = some v → VR ψ v x) → (∀ i ph, ψ i = some ph → φ i = some ph ∨ i = id) → next (a.put dst x) w') → (⟨dst, .call ⟨.builtin .append, args, ts⟩, type, pos, after, guard⟩ : Oper).wp P a w next Q := by
 simp only [opxI] at h
 split at h
 ·rename_i v i b c hap
  cases h
  obtain rfl : c = true := hok
  unfold appX at hap
  split at hap
  ·rename_i so xo st xt hargs hts
   split at hap
   ·rename_i si xi sv c xv d hsi hxi hs hx
    split at hap
    ·rename_i e hty hsub
     split at hap
     ·rename_i te hte
      split at hap
      ·rename_i i' old m c2 new n d2 hbase hsrc
       simp only [Option.some.injEq, Prod.mk.injEq] at hap
       obtain ⟨rfl, rfl, rfl, hok⟩ := hap
       rw [Bool.and_eq_true, Bool.and_eq_true, Bool.and_eq_true, Bool.and_eq_true, Bool.and_eq_true, Bool.and_eq_true] at hok
       obtain ⟨hok1, hok2, hok3, hok4, hbytes, hb0, hxk⟩ := hok
       subst hok1 hok2 hok3 hok4
       have hbytes := of_decide_eq_true hbytes
       have hb0 : 0 < te.bytes := Nat.le_of_ble_eq_true hb0
       have e1 : args = #[so, xo] := by apply Array.ext'; simpa using hargs
       have e2 : ts = #[st, xt] := by apply Array.ext'; simpa using hts
       subst e1; subst e2
       have hT := hΘ.get hsi
       have hTe := hΘ.get hte
       have hTx := hΘ.get hxi
       obtain ⟨dd, hd, hdu, hdr⟩ := hT.run_underlying
       obtain ⟨e', rfl, hsub'⟩ := desc_slice hd hty
       rw [hsub] at hsub'; cases hsub'
       obtain ⟨dx, hdx, hdxu, hdxr⟩ := hTx.run_underlying
       have hdxk : (∃ ee, dx = .slice ee) ∨ dx = .string := by
        have hk := desc_kind hdx
        have hk4 : kt xi.ty = 4 ∨ kt xi.ty = 2 := by
         rw [Bool.or_eq_true] at hxk
         rcases hxk with h | h <;> have h := of_decide_eq_true h
         ·left; revert h; cases xi.ty <;> simp [slT, kt]
         ·right; rw [h]; rfl
        cases dx <;> first | exact .inl ⟨_, rfl⟩ | exact .inr rfl | (simp [kd] at hk; omega)
       obtain ⟨ie, ze, hie, hes, heb, hez, hezo, hier⟩ := hTe.run_typeInfo
       obtain ⟨hol, ad, cc, ocs, hav, hmc, hadn, hof, hocl, hown⟩ := base_ok hΘ hm ht (rd_ok ht hs) hbase
       obtain ⟨hnl, hlen, ncs, hnf, hncl⟩ := src_ok hΘ hm ht (rd_ok ht hx) hsrc
       have hsz : ie.size = size te.ty := hes
       have hlen0 : ∀ w2, (Builtin.lenOf (a.eval xo)).run P w2 = .ok n w2 := hlen
       have hocl2 := CL_append2 hol hocl hncl
       have hol1 : ocs.length = m * size te.ty := by have := hocl.1; rwa [length_flat, size] at this
       have hnl1 : ncs.length = n * size te.ty := by have := hncl.1; rwa [length_flat, size] at this
       have hone : ∀ u ∈ ncs, u.oneCell' = true := fun u hu => by
        obtain ⟨i, hi⟩ := List.getElem?_of_mem hu
        obtain ⟨c, _, hr⟩ := CL_get hncl hi
        exact CR_one hr
       intro next Q hn
       unfold Oper.wp
       by_cases hroom : m + n ≤ cc
       ·have hrun : ∀ w', (match ad with | some q => (storeCells (q.add (m * size te.ty)) ncs).run P w | none => .ok () w) = .ok () w' →
         (Builtin.append_ #[st, xt] type #[a.eval so, a.eval xo]).run P w = .ok (.slice ad (m + n) cc) w' := by
         intro w' hst
         rw [hav]
         rcases hdxk with ⟨ee, rfl⟩ | rfl <;> cases ad <;> simp only at hst <;>
          simp [Builtin.append_, run_underlying hdu, run_underlying hdxu, sizeOf, typeInfo, hie, hsz, hlen0, hroom, hnf, hst] <;> first | (cases hst; rfl) | skip
        have key : ∃ ψ w', (match ad with | some q => (storeCells (q.add (m * size te.ty)) ncs).run P w | none => .ok () w) = .ok () w' ∧ φ.le ψ ∧ MemRel base ψ ((id, ⟨te.ty, m + n, old ++ new, true⟩) :: delO mem i') nn w' ∧ Below base w w' ∧
         (∀ j ph, ψ j = some ph → φ j = some ph ∨ j = id) ∧ VR ψ ⟨.slice, some ⟨id, [], 0, m + n, none⟩⟩ (.slice ad (m + n) cc) := by
         rcases Nat.eq_zero_or_pos cc with h0 | hpos
         ·have hm0 : m = 0 := by omega
          have hn0 : n = 0 := by omega
          have hnc : ncs = [] := List.length_eq_zero_iff.1 (by rw [hnl1, hn0]; simp)
          refine ⟨φ, w, ?_, Phi.le_refl _, (hm.del i').void hfr hid hnn (by simp only; omega), Below.refl _ _, fun j ph h => .inl h, ?_⟩
          ·rw [hnc]; cases ad <;> rfl
          ·rw [VR_slice, h0]
           cases ad with
           | none => exact .inl ⟨by simp only; omega, rfl, by rw [hm0, hn0]⟩
           | some q => exact .inr ⟨q, 0, rfl, by simp only; omega, fun k hk => (by cases hk), fun _ hc => (by omega), fun hc => (by omega)⟩
         ·obtain ⟨i0, b, ph, sn, rfl, hgb, hbt, hbw, hph, rfl, hsc⟩ := hown hpos
          have hbr := hm.blkAt hgb hph
          obtain ⟨cells, el, fr, h1, h2, h3⟩ := hbr.cells (by rw [hbt]; exact hTe.tup)
          obtain ⟨hbb, rfl, him, hcap, hcs⟩ := h3 hbw
          rw [hbt] at hcs
          have hle1 : (sn + cc) * size te.ty ≤ ph.cap * size te.ty := Nat.mul_le_mul_right _ hsc
          have hle2 : (m + n) * size te.ty ≤ cc * size te.ty := Nat.mul_le_mul_right _ hroom
          rw [Nat.add_mul] at hle1 hle2
          have hst := run_storeCells_at P ph.blk (ph.off + sn * size te.ty + m * size te.ty) el ncs 0 cells w h1 (by rw [hnl1]; omega) hone
          simp only [Nat.add_zero] at hst
          have hmatch : (match (some (⟨ph.blk, ph.off + sn * size te.ty, none⟩ : Addr)) with | some q => (storeCells (q.add (m * size te.ty)) ncs).run P w | none => .ok () w) = .ok () (w.setRow ph.blk (cells.toList.take (ph.off + sn * size te.ty + m * size te.ty) ++ ncs ++ cells.toList.drop (ph.off + sn * size te.ty + m * size te.ty + ncs.length)).toArray) := by
           simp only [add_off]; exact hst
          have hocell : ∀ k u, ocs[k]? = some u → cells[ph.off + sn * size te.ty + k]? = some u := by
           intro k u hk
           have hkl : k < ocs.length := (List.getElem?_eq_some_iff.1 hk).1
           have hfc : (loadCells ⟨ph.blk, ph.off + sn * size te.ty, none⟩ (m * size te.ty)).run P w = .ok ocs.toArray w := by
            rw [hav] at hof; exact hof
           let f : Nat → Value := fun j => (w.cell? ⟨ph.blk, ph.off + sn * size te.ty + j, none⟩).getD undef
           have hcellat : ∀ j, w.cell? ⟨ph.blk, ph.off + sn * size te.ty + j, none⟩ = cells[ph.off + sn * size te.ty + j]? := fun j => by simp only [World.cell?, h1]; rfl
           have hin : ∀ j, j < m * size te.ty → ph.off + sn * size te.ty + j < cells.size := fun j hj => by omega
           have hr2 := run_loadCells (P := P) w ⟨ph.blk, ph.off + sn * size te.ty, none⟩ (m * size te.ty) f (fun j hj => by
            rw [add_off, hcellat]
            simp only [f, hcellat]
            rw [Array.getElem?_eq_getElem (hin j hj)]; rfl)
           rw [hfc] at hr2
           simp only [Result.ok.injEq, and_true] at hr2
           have hr3 : ocs = (List.range (m * size te.ty)).map f := by simpa using hr2
           rw [hr3] at hk
           have hkm : k < m * size te.ty := by omega
           rw [List.getElem?_map, List.getElem?_range hkm] at hk
           simp only [Option.map_some, Option.some.injEq, f, hcellat] at hk
           rw [Array.getElem?_eq_getElem (hin k hkm)] at hk ⊢
           simpa using hk
          obtain ⟨g1, g2⟩ := hm.regrow hfr hid hnn hgb hbw hph (by rw [hbt]; exact hTe.tup) hbt hsc (n := m + n) (row := old ++ new) (cs := (cells.toList.take (ph.off + sn * size te.ty + m * size te.ty) ++ ncs ++ cells.toList.drop (ph.off + sn * size te.ty + m * size te.ty + ncs.length)).toArray) (by omega)
           (by simp only [List.size_toArray, List.length_append, List.length_take, List.length_drop, Array.length_toList]; omega) (fun k d hk => by
            obtain ⟨u, hu, hr⟩ := hocl2.2 k d hk
            refine ⟨u, ?_, hr⟩
            rw [List.getElem?_toArray, splice_get _ _ _ _ (by rw [hnl1]; simp; omega)]
            by_cases hkm : k < ocs.length
            ·rw [if_neg (by omega)]
             rw [List.getElem?_append_left hkm] at hu
             simpa using hocell k u hu
            ·rw [List.getElem?_append_right (by omega)] at hu
             have hul := (List.getElem?_eq_some_iff.1 hu).1
             rw [if_pos (by omega), ← hu]
             congr 1
             omega)
          refine ⟨_, _, hmatch, g1, g2, below_setRow (Below.refl base w) hbb _, OneNew.add (o := ⟨dst, .alloc 0, type, pos, after, guard⟩) rfl, ?_⟩
          rw [VR_slice]
          refine .inr ⟨_, cc, rfl, hroom, fun k hk => (by cases hk), fun _ _ _ => ⟨_, by show (if id = id then _ else _) = _; rw [if_pos rfl], rfl, by simp⟩, fun _ _ => ?_⟩
          show addr (φ.add id _) ⟨id, [] ++ [0]⟩ = _
          have h00 : offs te.ty [] = some 0 := by cases te.ty <;> rfl
          simp [addr, Phi.add, offs, h00]
        obtain ⟨ψ, w', hst, g1, g2, g3, g4, g5⟩ := key
        have := hrun w' hst
        have hex : (execOp a.eval ⟨dst, .call ⟨.builtin .append, #[so, xo], #[st, xt]⟩, type, pos, after, guard⟩).run P w = .ok (.value (.slice ad (m + n) cc)) w' := by
         simp only [execOp, resolve, invoke, builtin, Sem.run_bind, Sem.run_pure, Result.andThen, List.map_toArray, List.map_cons, List.map_nil]
         rw [this]
        rw [hex]
        exact hn ψ w' _ g1 g2 g3 (fun v hv => by cases hv; exact g5) g4
       ·have hmd : MemRel base φ mem nxt w.drew := hm.same (Same.drew w) (Nat.le_refl _)
        obtain ⟨_, ad2, cc2, ocs2, hav2, _, _, hof2, hocl', _⟩ := base_ok hΘ hmd ht (rd_ok ht hs) hbase
        obtain ⟨_, _, ncs2, hnf2, hncl'⟩ := src_ok hΘ hmd ht (rd_ok ht hx) hsrc
        have hcl := CL_append2 hol hocl' hncl'
        have ho1 : ocs2.length = m * size te.ty := by have := hocl'.1; rwa [length_flat, size] at this
        have hn1 : ncs2.length = n * size te.ty := by have := hncl'.1; rwa [length_flat, size] at this
        have hmn : m + n ≤ 140737488355328 := Nat.le_trans (Nat.le_mul_of_pos_right _ hb0) hbytes
        have h63' : ¬ (9223372036854775807 < ((m : Int) + (n : Int))) := by omega
        have hgt : cc < m + n := by omega
        have h48' : ¬ (281474976710656 < Builtin.nextslicecap (m + n) cc * ie.bytes) := by
         have := growslice_fits (bytes := ie.bytes) hgt (by rw [heb]; exact hbytes)
         omega
        rw [hav] at hof2
        have hzs : ze.cells.size = size te.ty := by have := (V1_cells (zeroOK_ok φ hTe.tup hezo)).1; rw [length_flat] at this; simpa using this
        have hrun : (Builtin.append_ #[st, xt] type #[a.eval so, a.eval xo]).run P w = .ok (.slice (some ⟨w.heap.size, 0, none⟩) (m + n) (grownCap w (m + n) cc e))
         (w.drew.alloc (.cells (ocs2.toArray ++ ncs2.toArray ++ Builtin.zeroCells ze.cells (grownCap w (m + n) cc e - (m + n))) e)) := by
         rw [hav]
         rcases hdxk with ⟨ee, rfl⟩ | rfl <;>
          simp [Builtin.append_, run_underlying hdu, run_underlying hdxu, sizeOf, typeInfo, zeroValue, hie, hez, hsz, hlen0, hroom, h63', h48', Question.forced, hnf2, hof2, newRow, grownCap, run_askRoom] <;> (congr 2; apply Array.ext'; simp [List.append_assoc])
        have hge := grownCap_ge w (m + n) cc e
        obtain ⟨g1, g2⟩ := (hmd.del i').allocAt hfr hid hnn ⟨te.ty, m + n, old ++ new, true⟩ (grownCap w (m + n) cc e) (ocs2.toArray ++ ncs2.toArray ++ Builtin.zeroCells ze.cells (grownCap w (m + n) cc e - (m + n))) e hTe.tup hge
         (by
          simp only [Array.size_append, List.size_toArray, size_zeroCells, hzs, ho1, hn1, ← Nat.add_mul]
          congr 1; omega) (fun k d hk => by
          obtain ⟨u, hu, hr⟩ := hcl.2 k d hk
          refine ⟨u, ?_, hr⟩
          have hul := (List.getElem?_eq_some_iff.1 hu).1
          rw [Array.getElem?_append_left (by simpa using hul)]
          simpa using hu)
        have hex : (execOp a.eval ⟨dst, .call ⟨.builtin .append, #[so, xo], #[st, xt]⟩, type, pos, after, guard⟩).run P w = .ok (.value (.slice (some ⟨w.heap.size, 0, none⟩) (m + n) (grownCap w (m + n) cc e))) (w.drew.alloc (.cells (ocs2.toArray ++ ncs2.toArray ++ Builtin.zeroCells ze.cells (grownCap w (m + n) cc e - (m + n))) e)) := by
         simp only [execOp, resolve, invoke, builtin, Sem.run_bind, Sem.run_pure, Result.andThen, List.map_toArray, List.map_cons, List.map_nil]
         rw [hrun]
        rw [hex]
        refine hn _ _ _ g1 g2 ((Below.refl base w).drew.alloc hm.base _) (fun v hv => ?_) (OneNew.add (o := ⟨dst, .alloc 0, type, pos, after, guard⟩) rfl)
        cases hv
        rw [VR_slice]
        refine .inr ⟨_, grownCap w (m + n) cc e, rfl, hge, fun k hk => (by cases hk), fun _ _ _ => ⟨_, by show (if id = id then _ else _) = _; rw [if_pos rfl], rfl, by simp⟩, fun _ _ => ?_⟩
        have h00 : offs te.ty [] = some 0 := by cases te.ty <;> rfl
        simp [addr, Phi.add, offs, h00]
      ·cases hap
     ·cases hap
    ·cases hap
   ·cases hap
  ·cases hap
 ·cases h
omit hfr hid hnn in
theorem acts_copy {args : Array Operand} {ts : Array Nat} (h : opxI Θ K tm mem id nn nxt ⟨dst, .call ⟨.builtin .copy, args, ts⟩, type, pos, after, guard⟩ = some r) (hok : r.ok = true) :
 Acts P base φ w a ⟨dst, .call ⟨.builtin .copy, args, ts⟩, type, pos, after, guard⟩ id r := by
 simp only [opxI] at h
 split at h
 ·rename_i v ob c hap
  cases h
  obtain rfl : c = true := hok
  unfold copX at hap
  split at hap
  ·rename_i so xo st xt hargs hts
   split at hap
   ·rename_i si q c xv d hsi hs hx
    split at hap
    ·rename_i e hty hsub
     split at hap
     ·rename_i te b hte hqp hbC
      split at hap
      ·rename_i hbt
       split at hap
       ·rename_i new n d2 hsrc
        simp only [Option.some.injEq, Prod.mk.injEq] at hap
        obtain ⟨rfl, rfl, hok⟩ := hap
        rw [Bool.and_eq_true, Bool.and_eq_true, Bool.and_eq_true, Bool.and_eq_true, Bool.and_eq_true] at hok
        obtain ⟨hok1, hok2, hok3, hwr, hnl0, hle⟩ := hok
        subst hok1 hok2 hok3
        have hnl0 := Nat.le_of_ble_eq_true hnl0
        have hle := Nat.le_of_ble_eq_true hle
        obtain ⟨hb, hbnt⟩ := Mem.getC_spec hbC
        obtain ⟨bt, bn, brow, bwr⟩ := b
        simp only at hbt hwr hle hbnt
        subst hbt
        simp only
        have e1 : args = #[so, xo] := by apply Array.ext'; simpa using hargs
        have e2 : ts = #[st, xt] := by apply Array.ext'; simpa using hts
        subst e1; subst e2
        have hT := hΘ.get hsi
        have hTe := hΘ.get hte
        obtain ⟨dd, hd, hdu, hdr⟩ := hT.run_underlying
        obtain ⟨e', rfl, hsub'⟩ := desc_slice hd hty
        rw [hsub] at hsub'; cases hsub'
        obtain ⟨ie, ze, hie, hes, heb, hez, hezo, hier⟩ := hTe.run_typeInfo
        obtain ⟨hnl, hlen, ncs, hnf, hncl⟩ := src_ok hΘ hm ht (rd_ok ht hx) hsrc
        have hsz : ie.size = size te.ty := hes
        have hlen0 : ∀ w2, (Builtin.lenOf (a.eval xo)).run P w2 = .ok n w2 := hlen
        have hnl1 : ncs.length = n * size te.ty := by have := hncl.1; rwa [length_flat, size] at this
        have hone : ∀ u ∈ ncs, u.oneCell' = true := fun u hu => by
         obtain ⟨i, hi⟩ := List.getElem?_of_mem hu
         obtain ⟨c, _, hr⟩ := CL_get hncl hi
         exact CR_one hr
        have hsv := VR_slice.1 (rd_ok ht hs)
        have hmin : Nat.min n q.len = n := Nat.min_eq_left hnl0
        have hrun : ∀ (ad : Option Addr) cc w', a.eval so = .slice ad q.len cc → (match ad with | some p => (storeCells p ncs).run P w | none => .ok () w) = .ok () w' →
         (execOp a.eval ⟨dst, .call ⟨.builtin .copy, #[so, xo], #[st, xt]⟩, type, pos, after, guard⟩).run P w = .ok (.value (goInt n)) w' := by
         intro ad cc w' hav hst
         have : (Builtin.copy_ #[st, xt] type #[a.eval so, a.eval xo]).run P w = .ok (goInt n) w' := by
          rw [hav]
          cases ad <;> simp only at hst <;> simp [Builtin.copy_, run_underlying hdu, sizeOf, typeInfo, hie, hsz, hlen0, hmin, hnf, hst] <;> first | (cases hst; rfl) | skip
         simp only [execOp, resolve, invoke, builtin, Sem.run_bind, Sem.run_pure, Result.andThen, List.map_toArray, List.map_cons, List.map_nil]
         rw [this]
        have hval : ∀ v', (some (⟨.int .i64, ((n : Nat) : Int)⟩ : V)) = some v' → VR φ v' (goInt n) := fun v' hv => by cases hv; exact VR_int.2 rfl
        by_cases h0 : n = 0
        ·subst h0
         have hnc : ncs = [] := List.length_eq_zero_iff.1 (by rw [hnl1]; simp)
         subst hnc
         have hex : ∃ ad cc, a.eval so = .slice ad q.len cc := by
          rcases hsv with ⟨h0, _, hv⟩ | ⟨ad, cc, hv, _⟩
          ·exact ⟨none, 0, by rw [hv, h0]⟩
          ·exact ⟨some ad, cc, hv⟩
         obtain ⟨ad, cc, hv⟩ := hex
         exact acts_value (hrun ad cc w hv (by cases ad <;> rfl)) (Phi.le_refl _) hm (Below.refl _ _) hval .refl
        ·have hbeq : Nat.beq n 0 = false := by rw [Bool.eq_false_iff]; intro h; exact h0 (Nat.eq_of_beq_eq_true h)
         simp only [hbeq, cond_false]
         rcases hsv with ⟨h00, _, hv⟩ | ⟨ad, cc, hv, hlc, _, _, had⟩
         ·omega
         ·have ha := had (by omega) (VD.not (by omega))
          obtain ⟨ph, hph⟩ := addr_phys ha
          simp only at hph
          have hbr := hm.blkAt hb hph
          obtain ⟨cells, el, fr, h1, h2, h3⟩ := hbr.cells hbnt
          obtain ⟨hbb, rfl, him, hcap, hcs⟩ := h3 hwr
          simp only at h2 hcap hcs
          have hadE : ad = ⟨ph.blk, ph.off + q.start * size te.ty, none⟩ := by
           unfold addr at ha
           simp only [hph, hqp, List.nil_append] at ha
           have ht' : ph.t = te.ty := hbr.t
           have h0 : offs te.ty [] = some 0 := by cases te.ty <;> rfl
           rw [ht'] at ha
           simp only [offs, h0, Option.map_some, Nat.add_zero, Option.some.injEq] at ha
           rw [← ha]
          subst hadE
          have hle1 : bn * size te.ty ≤ ph.cap * size te.ty := Nat.mul_le_mul_right _ hcap
          have hle2 : (q.start + n) * size te.ty ≤ bn * size te.ty := Nat.mul_le_mul_right _ (by omega)
          rw [Nat.add_mul] at hle2
          have hst := run_storeCells_at P ph.blk (ph.off + q.start * size te.ty) el ncs 0 cells w h1 (by rw [hnl1]; omega) hone
          simp only [Nat.add_zero] at hst
          refine acts_value (hrun _ cc _ hv hst) (Phi.le_refl _) ?_ (below_setRow (Below.refl base w) hbb _) hval .refl
          refine hm.put hb hbnt hwr hph rfl hcap ?_ (fun k c hk => ?_)
          ·simp only [List.size_toArray, List.length_append, List.length_take, List.length_drop, Array.length_toList]; omega
          ·have hlt : k < bn * size te.ty := by have := (List.getElem?_eq_some_iff.1 hk).1; rw [length_flat, size] at this; exact this
           have hpos : 0 < size te.ty := by
            rcases Nat.eq_zero_or_pos (size te.ty) with h0 | h0
            ·rw [h0] at hlt; omega
            ·exact h0
           have hi : k / size te.ty < bn := Nat.div_lt_of_lt_mul (by rw [Nat.mul_comm]; exact hlt)
           have hj : k % size te.ty < size te.ty := Nat.mod_lt _ hpos
           have hke : k = k / size te.ty * size te.ty + k % size te.ty := by have := Nat.div_add_mod k (size te.ty); rw [Nat.mul_comm] at this; exact this.symm
           generalize hgi : k / size te.ty = i at hi hke
           generalize hgj : k % size te.ty = j at hj hke
           clear hgi hgj
           subst hke
           have hk' : (flat te.ty ((cutIn (dflt te.ty) brow q.start new).getD i (dflt te.ty)))[j]? = some c := by
            have := get_flatMap_const (fun i => flat te.ty ((cutIn (dflt te.ty) brow q.start new).getD i (dflt te.ty))) (size te.ty) (fun i => length_flat _ _) bn i j hi hj
            rw [← this]; exact hk
           have hold : (cutIn (dflt te.ty) brow q.start new).getD i (dflt te.ty) = brow.getD i (dflt te.ty) → ∃ v, cells[ph.off + (i * size te.ty + j)]? = some v ∧ CR φ c v := by
            intro he
            rw [he] at hk'
            refine h2 _ c ?_
            have := get_flatMap_const (fun i => flat te.ty (brow.getD i (dflt te.ty))) (size te.ty) (fun i => length_flat _ _) bn i j hi hj
            rw [← hk', ← this]; rfl
           rw [List.getElem?_toArray, splice_get _ _ _ _ (by rw [hnl1, Array.length_toList]; omega), hnl1]
           have hgd : (cutIn (dflt te.ty) brow q.start new).getD i (dflt te.ty) = if i < q.start then brow.getD i (dflt te.ty) else if i < q.start + n then new.getD (i - q.start) (dflt te.ty) else brow.getD i (dflt te.ty) := by
            unfold cutIn
            rw [List.getD_eq_getElem?_getD]
            by_cases c1 : i < q.start
            ·rw [if_pos c1, List.getElem?_append_left (by rw [length_sec]; exact c1), ← List.getD_eq_getElem?_getD, getD_sec _ _ _ _ _ c1, Nat.zero_add]
            ·rw [if_neg c1, List.getElem?_append_right (by rw [length_sec]; omega), length_sec]
             by_cases c2 : i < q.start + n
             ·rw [if_pos c2, List.getElem?_append_left (by rw [hnl]; omega), ← List.getD_eq_getElem?_getD]
             ·rw [if_neg c2, List.getElem?_append_right (by rw [hnl]; omega), List.getElem?_drop, ← List.getD_eq_getElem?_getD, hnl]
              congr 1; omega
           by_cases c1 : i < q.start
           ·rw [if_pos c1] at hgd
            have : (i + 1) * size te.ty ≤ q.start * size te.ty := Nat.mul_le_mul_right _ c1
            rw [Nat.add_mul] at this
            rw [if_neg (by omega)]
            simpa using hold hgd
           ·rw [if_neg c1] at hgd
            by_cases c2 : i < q.start + n
            ·rw [if_pos c2] at hgd
             have a1 : (i + 1) * size te.ty ≤ (q.start + n) * size te.ty := Nat.mul_le_mul_right _ c2
             have a2 : q.start * size te.ty ≤ i * size te.ty := Nat.mul_le_mul_right _ (by omega)
             have a3 : (i - q.start) * size te.ty = i * size te.ty - q.start * size te.ty := Nat.sub_mul _ _ _
             rw [Nat.add_mul, Nat.add_mul] at a1
             rw [if_pos (by omega), show ph.off + (i * size te.ty + j) - (ph.off + q.start * size te.ty) = (i - q.start) * size te.ty + j from by omega]
             rw [hgd] at hk'
             refine hncl.2 _ c ?_
             have := get_flatMap_const (fun i => flat te.ty (new.getD i (dflt te.ty))) (size te.ty) (fun i => length_flat _ _) n (i - q.start) j (by omega) hj
             rw [← hk', ← this]; rfl
            ·rw [if_neg c2] at hgd
             have a2 : (q.start + n) * size te.ty ≤ i * size te.ty := Nat.mul_le_mul_right _ (by omega)
             rw [Nat.add_mul] at a2
             rw [if_neg (by omega)]
             simpa using hold hgd
       ·cases hap
      ·cases hap
     ·cases hap
    ·cases hap
   ·cases hap
  ·cases hap
 ·cases h
omit hΘ hK hm hfr hid hnn ht in
theorem put_cut {base : Nat} {φ : Phi} {mem : Mem} {nxt : Nat} {w : World} (hm : MemRel base φ mem nxt w) {i0 : Nat} {t : Ty} {bn n s : Nat} {brow new : List t.den} {ph : Phys} {cells : Array Value} {el : TypeId} {ncs : List Value}
 (hb : Mem.get mem i0 = some ⟨t, bn, brow, true⟩) (hbnt : isTup t = false) (hph : φ i0 = some ph) (h1 : w.heap[ph.blk]? = some (.cells cells el (0, 0))) (hnl : new.length = n) (hle : s + n ≤ bn) (hncl : CL φ (flat (.arr n t) new) ncs) :
 MemRel base φ (Mem.set mem i0 ⟨t, bn, cutIn (dflt t) brow s new, true⟩) nxt (w.setRow ph.blk (cells.toList.take (ph.off + s * size t) ++ ncs ++ cells.toList.drop (ph.off + s * size t + ncs.length)).toArray) := by
 have hnl1 : ncs.length = n * size t := by have := hncl.1; rwa [length_flat, size] at this
 have hbr := hm.blkAt hb hph
 obtain ⟨cells', el', fr', h1', h2, h3⟩ := hbr.cells hbnt
 rw [h1] at h1'
 cases h1'
 obtain ⟨hbb, _, him, hcap, hcs⟩ := h3 rfl
 simp only at h2 hcap hcs
 have hle1 : bn * size t ≤ ph.cap * size t := Nat.mul_le_mul_right _ hcap
 have hle2 : (s + n) * size t ≤ bn * size t := Nat.mul_le_mul_right _ hle
 rw [Nat.add_mul] at hle2
 refine hm.put hb hbnt rfl hph rfl hcap ?_ (fun k c hk => ?_)
 ·simp only [List.size_toArray, List.length_append, List.length_take, List.length_drop, Array.length_toList]; omega
 ·have hlt : k < bn * size t := by have := (List.getElem?_eq_some_iff.1 hk).1; rw [length_flat, size] at this; exact this
  have hpos : 0 < size t := by
   rcases Nat.eq_zero_or_pos (size t) with h0 | h0
   ·rw [h0] at hlt; omega
   ·exact h0
  have hi : k / size t < bn := Nat.div_lt_of_lt_mul (by rw [Nat.mul_comm]; exact hlt)
  have hj : k % size t < size t := Nat.mod_lt _ hpos
  have hke : k = k / size t * size t + k % size t := by have := Nat.div_add_mod k (size t); rw [Nat.mul_comm] at this; exact this.symm
  generalize hgi : k / size t = i at hi hke
  generalize hgj : k % size t = j at hj hke
  clear hgi hgj
  subst hke
  have hk' : (flat t ((cutIn (dflt t) brow s new).getD i (dflt t)))[j]? = some c := by
   have := get_flatMap_const (fun i => flat t ((cutIn (dflt t) brow s new).getD i (dflt t))) (size t) (fun i => length_flat _ _) bn i j hi hj
   rw [← this]; exact hk
  have hold : (cutIn (dflt t) brow s new).getD i (dflt t) = brow.getD i (dflt t) → ∃ v, cells[ph.off + (i * size t + j)]? = some v ∧ CR φ c v := by
   intro he
   rw [he] at hk'
   refine h2 _ c ?_
   have := get_flatMap_const (fun i => flat t (brow.getD i (dflt t))) (size t) (fun i => length_flat _ _) bn i j hi hj
   rw [← hk', ← this]; rfl
  rw [List.getElem?_toArray, splice_get _ _ _ _ (by rw [hnl1, Array.length_toList]; omega), hnl1]
  have hgd : (cutIn (dflt t) brow s new).getD i (dflt t) = if i < s then brow.getD i (dflt t) else if i < s + n then new.getD (i - s) (dflt t) else brow.getD i (dflt t) := by
   unfold cutIn
   rw [List.getD_eq_getElem?_getD]
   by_cases c1 : i < s
   ·rw [if_pos c1, List.getElem?_append_left (by rw [length_sec]; exact c1), ← List.getD_eq_getElem?_getD, getD_sec _ _ _ _ _ c1, Nat.zero_add]
   ·rw [if_neg c1, List.getElem?_append_right (by rw [length_sec]; omega), length_sec]
    by_cases c2 : i < s + n
    ·rw [if_pos c2, List.getElem?_append_left (by rw [hnl]; omega), ← List.getD_eq_getElem?_getD]
    ·rw [if_neg c2, List.getElem?_append_right (by rw [hnl]; omega), List.getElem?_drop, ← List.getD_eq_getElem?_getD, hnl]
     congr 1; omega
  by_cases c1 : i < s
  ·rw [if_pos c1] at hgd
   have : (i + 1) * size t ≤ s * size t := Nat.mul_le_mul_right _ c1
   rw [Nat.add_mul] at this
   rw [if_neg (by omega)]
   simpa using hold hgd
  ·rw [if_neg c1] at hgd
   by_cases c2 : i < s + n
   ·rw [if_pos c2] at hgd
    have a1 : (i + 1) * size t ≤ (s + n) * size t := Nat.mul_le_mul_right _ c2
    have a2 : s * size t ≤ i * size t := Nat.mul_le_mul_right _ (by omega)
    have a3 : (i - s) * size t = i * size t - s * size t := Nat.sub_mul _ _ _
    rw [Nat.add_mul, Nat.add_mul] at a1
    rw [if_pos (by omega), show ph.off + (i * size t + j) - (ph.off + s * size t) = (i - s) * size t + j from by omega]
    rw [hgd] at hk'
    refine hncl.2 _ c ?_
    have := get_flatMap_const (fun i => flat t (new.getD i (dflt t))) (size t) (fun i => length_flat _ _) n (i - s) j (by omega) hj
    rw [← hk', ← this]; rfl
   ·rw [if_neg c2] at hgd
    have a2 : (s + n) * size t ≤ i * size t := Nat.mul_le_mul_right _ (by omega)
    rw [Nat.add_mul] at a2
    rw [if_neg (by omega)]
    simpa using hold hgd
omit hΘ hK hm hfr hid hnn ht in
theorem put_same {base : Nat} {φ : Phi} {mem : Mem} {nxt : Nat} {w : World} (hm : MemRel base φ mem nxt w) {i0 : Nat} {t : Ty} {bn : Nat} {brow row : List t.den}
 (hb : Mem.get mem i0 = some ⟨t, bn, brow, true⟩) (hbnt : isTup t = false) (he : flat (.arr bn t) row = flat (.arr bn t) brow) : MemRel base φ (Mem.set mem i0 ⟨t, bn, row, true⟩) nxt w := by
 refine ⟨fun j b hj => ?_, fun i j b b' p p' hi hj hij hw hp hp' => ?_, hm.fresh, hm.lo, hm.base, hm.imm⟩
 ·rcases Mem.get_set _ _ _ _ _ hj with ⟨rfl, rfl⟩ | ⟨_, hj⟩
  ·rcases hm.blk j _ hb with h | ⟨ph, hp, hr⟩
   ·exact .inl h
   ·refine .inr ⟨ph, hp, hr.t, hr.own, MpRel.plain hbnt _, fun ht => ?_⟩
    obtain ⟨cs, el, fr, h1, h2, h3⟩ := hr.cells ht
    exact ⟨cs, el, fr, h1, fun k c hk => h2 k c (by show (flat (.arr bn t) brow)[k]? = some c; rw [← he]; exact hk), h3⟩
  ·exact hm.blk j b hj
 ·have g : ∀ {i : Nat} {b : Blk}, Mem.get (Mem.set mem i0 ⟨t, bn, row, true⟩) i = some b → ∃ b0, Mem.get mem i = some b0 ∧ (b.wr = true → b0.wr = true) := by
   intro i b h
   rcases Mem.get_set _ _ _ _ _ h with ⟨rfl, rfl⟩ | ⟨_, h⟩
   ·exact ⟨_, hb, fun _ => rfl⟩
   ·exact ⟨b, h, id⟩
  obtain ⟨b1, g1, g2⟩ := g hi
  obtain ⟨b2, g3, _⟩ := g hj
  exact hm.apart i j b1 b2 p p' g1 g3 hij (g2 hw) hp hp'
omit hΘ hK hm hfr hid hnn ht in
theorem range_flatMap_congr {α : Type} {f g : Nat → List α} {n : Nat} (h : ∀ i, i < n → f i = g i) : (List.range n).flatMap f = (List.range n).flatMap g := by
 have : ∀ l : List Nat, (∀ i ∈ l, f i = g i) → l.flatMap f = l.flatMap g := by
  intro l
  induction l with
  | nil => intro _; rfl
  | cons a r ih =>
   intro h
   rw [List.flatMap_cons, List.flatMap_cons, h a (by simp), ih (fun i hi => h i (by simp [hi]))]
 exact this _ (fun i hi => h i (by simpa using hi))
omit hΘ hK hm hfr hid hnn ht in
theorem cut_flat {t : Ty} {n s len : Nat} {l new : List t.den} (hnl : new.length = len) (hle : s + len ≤ n) (m : Nat) :
 (flat (.arr n t) (cutIn (dflt t) l s new))[m]? = if s * size t ≤ m ∧ m < s * size t + len * size t then (flat (.arr len t) new)[m - s * size t]? else (flat (.arr n t) l)[m]? := by
 have hle2 : (s + len) * size t ≤ n * size t := Nat.mul_le_mul_right _ hle
 rw [Nat.add_mul] at hle2
 by_cases hlt : m < n * size t
 ·have hpos : 0 < size t := by
   rcases Nat.eq_zero_or_pos (size t) with h0 | h0
   ·rw [h0] at hlt; omega
   ·exact h0
  have hi : m / size t < n := Nat.div_lt_of_lt_mul (by rw [Nat.mul_comm]; exact hlt)
  have hj : m % size t < size t := Nat.mod_lt _ hpos
  have hke : m = m / size t * size t + m % size t := by have := Nat.div_add_mod m (size t); rw [Nat.mul_comm] at this; exact this.symm
  generalize hgi : m / size t = i at hi hke
  generalize hgj : m % size t = j at hj hke
  clear hgi hgj
  subst hke
  have hL : (flat (.arr n t) (cutIn (dflt t) l s new))[i * size t + j]? = (flat t ((cutIn (dflt t) l s new).getD i (dflt t)))[j]? :=
   get_flatMap_const (fun i => flat t ((cutIn (dflt t) l s new).getD i (dflt t))) (size t) (fun i => length_flat _ _) n i j hi hj
  have hO : (flat (.arr n t) l)[i * size t + j]? = (flat t (l.getD i (dflt t)))[j]? :=
   get_flatMap_const (fun i => flat t (l.getD i (dflt t))) (size t) (fun i => length_flat _ _) n i j hi hj
  have hgd : (cutIn (dflt t) l s new).getD i (dflt t) = if i < s then l.getD i (dflt t) else if i < s + len then new.getD (i - s) (dflt t) else l.getD i (dflt t) := by
   unfold cutIn
   rw [List.getD_eq_getElem?_getD]
   by_cases c1 : i < s
   ·rw [if_pos c1, List.getElem?_append_left (by rw [length_sec]; exact c1), ← List.getD_eq_getElem?_getD, getD_sec _ _ _ _ _ c1, Nat.zero_add]
   ·rw [if_neg c1, List.getElem?_append_right (by rw [length_sec]; omega), length_sec]
    by_cases c2 : i < s + len
    ·rw [if_pos c2, List.getElem?_append_left (by rw [hnl]; omega), ← List.getD_eq_getElem?_getD]
    ·rw [if_neg c2, List.getElem?_append_right (by rw [hnl]; omega), List.getElem?_drop, ← List.getD_eq_getElem?_getD, hnl]
     congr 1; omega
  rw [hL, hO]
  by_cases c1 : i < s
  ·have : (i + 1) * size t ≤ s * size t := Nat.mul_le_mul_right _ c1
   rw [Nat.add_mul] at this
   rw [hgd, if_pos c1, if_neg (by omega)]
  ·by_cases c2 : i < s + len
   ·have a1 : (i + 1) * size t ≤ (s + len) * size t := Nat.mul_le_mul_right _ c2
    have a2 : s * size t ≤ i * size t := Nat.mul_le_mul_right _ (by omega)
    have a3 : (i - s) * size t = i * size t - s * size t := Nat.sub_mul _ _ _
    rw [Nat.add_mul, Nat.add_mul] at a1
    rw [hgd, if_neg c1, if_pos c2, if_pos (by omega), show i * size t + j - s * size t = (i - s) * size t + j from by omega]
    exact (get_flatMap_const (fun i => flat t (new.getD i (dflt t))) (size t) (fun i => length_flat _ _) len (i - s) j (by omega) hj).symm
   ·have a2 : (s + len) * size t ≤ i * size t := Nat.mul_le_mul_right _ (by omega)
    rw [Nat.add_mul] at a2
    rw [hgd, if_neg c1, if_neg c2, if_neg (by omega)]
 ·rw [if_neg (by omega), List.getElem?_eq_none (by rw [length_flat, size]; omega), List.getElem?_eq_none (by rw [length_flat, size]; omega)]
omit hΘ hK hm hfr hid hnn ht in
theorem put_cutN {base : Nat} {φ : Phi} {mem : Mem} {nxt : Nat} {w : World} (hm : MemRel base φ mem nxt w) {i0 : Nat} {t te : Ty} {bn n s len o : Nat} {brow row : List t.den} {l new : List te.den} {p : List Nat} {ph : Phys} {cells : Array Value} {el : TypeId} {ncs : List Value}
 (hb : Mem.get mem i0 = some ⟨t, bn, brow, true⟩) (hbnt : isTup t = false) (hph : φ i0 = some ph) (h1 : w.heap[ph.blk]? = some (.cells cells el (0, 0)))
 (hnav : nav (.arr bn t) brow p = some ⟨.arr n te, l⟩) (hupd : upd (.arr bn t) brow p ⟨.arr n te, cutIn (dflt te) l s new⟩ = some row) (hin : inb (.arr bn t) p = true) (ho : offs (.arr bn t) p = some o)
 (hnl : new.length = len) (hle : s + len ≤ n) (hncl : CL φ (flat (.arr len te) new) ncs) :
 ph.off + o + s * size te + ncs.length ≤ cells.size ∧ MemRel base φ (Mem.set mem i0 ⟨t, bn, row, true⟩) nxt (w.setRow ph.blk (cells.toList.take (ph.off + o + s * size te) ++ ncs ++ cells.toList.drop (ph.off + o + s * size te + ncs.length)).toArray) := by
 have hnl1 : ncs.length = len * size te := by have := hncl.1; rwa [length_flat, size] at this
 have hbr := hm.blkAt hb hph
 obtain ⟨cells', el', fr', h1', h2, h3⟩ := hbr.cells hbnt
 rw [h1] at h1'
 cases h1'
 obtain ⟨hbb, _, him, hcap, hcs⟩ := h3 rfl
 simp only at h2 hcap hcs
 obtain ⟨o1, ho1, hs1, hg1⟩ := nav_spec _ _ _ _ hnav hin
 obtain ⟨o2, ho2, hs2, hg2⟩ := upd_spec _ _ _ _ _ hupd hin
 rw [ho] at ho1 ho2
 cases ho1; cases ho2
 have hg2 : ∀ k, (flat (.arr bn t) row)[k]? = if o ≤ k ∧ k < o + n * size te then (flat (.arr n te) (cutIn (dflt te) l s new))[k - o]? else (flat (.arr bn t) brow)[k]? := hg2
 simp only [size] at hs1 hg1
 have hle1 : bn * size t ≤ ph.cap * size t := Nat.mul_le_mul_right _ hcap
 have hle2 : (s + len) * size te ≤ n * size te := Nat.mul_le_mul_right _ hle
 rw [Nat.add_mul] at hle2
 refine ⟨by omega, hm.put hb hbnt rfl hph rfl hcap ?_ (fun k c hk => ?_)⟩
 ·simp only [List.size_toArray, List.length_append, List.length_take, List.length_drop, Array.length_toList]; omega
 ·have hk' : (flat (.arr bn t) row)[k]? = some c := hk
  rw [hg2] at hk'
  rw [List.getElem?_toArray, splice_get _ _ _ _ (by rw [hnl1, Array.length_toList]; omega), hnl1]
  split at hk'
  ·rename_i hr
   rw [cut_flat hnl hle] at hk'
   by_cases hr2 : s * size te ≤ k - o ∧ k - o < s * size te + len * size te
   ·rw [if_pos hr2] at hk'
    rw [if_pos (by omega), show ph.off + k - (ph.off + o + s * size te) = k - o - s * size te from by omega]
    exact hncl.2 _ c hk'
   ·rw [if_neg hr2, ← hg1 (k - o) (by omega), show o + (k - o) = k from by omega] at hk'
    rw [if_neg (by omega)]
    simpa using h2 k c hk'
  ·rename_i hr
   rw [if_neg (by omega)]
   simpa using h2 k c hk'
omit hfr hid hnn in
theorem acts_clear {args : Array Operand} {ts : Array Nat} (h : opxI Θ K tm mem id nn nxt ⟨dst, .call ⟨.builtin .clear, args, ts⟩, type, pos, after, guard⟩ = some r) (hok : r.ok = true) :
 Acts P base φ w a ⟨dst, .call ⟨.builtin .clear, args, ts⟩, type, pos, after, guard⟩ id r := by
 simp only [opxI] at h
 split at h
 ·rename_i ob c hap
  cases h
  obtain rfl : c = true := hok
  unfold clrX at hap
  split at hap
  ·rename_i so st hargs hts
   split at hap
   ·rename_i si q c hsi hs
    split at hap
    ·rename_i e hty hsub
     split at hap
     ·rename_i te b hte hqp hbC
      split at hap
      ·rename_i hbt
       simp only [Option.some.injEq, Prod.mk.injEq] at hap
       obtain ⟨rfl, hok⟩ := hap
       rw [Bool.and_eq_true, Bool.and_eq_true] at hok
       obtain ⟨hok1, hwr, hle0⟩ := hok
       subst hok1
       replace hle0 := Nat.le_of_ble_eq_true hle0
       obtain ⟨hb, hbnt⟩ := Mem.getC_spec hbC
       obtain ⟨bt, bn, brow, bwr⟩ := b
       simp only at hbt hwr hle0 hbnt
       have hle := hle0
       clear hle0
       subst hbt
       subst hwr
       simp only
       have e1 : args = #[so] := by apply Array.ext'; simpa using hargs
       have e2 : ts = #[st] := by apply Array.ext'; simpa using hts
       subst e1; subst e2
       have hT := hΘ.get hsi
       have hTe := hΘ.get hte
       obtain ⟨dd, hd, hdu, hdr⟩ := hT.run_underlying
       obtain ⟨e', rfl, hsub'⟩ := desc_slice hd hty
       rw [hsub] at hsub'; cases hsub'
       obtain ⟨ze, hze, hzr⟩ := hTe.run_zero
       have hsv := VR_slice.1 (rd_ok ht hs)
       have hfin : ∀ w', (Builtin.clear_ #[st] type #[a.eval so]).run P w = .ok (.tuple #[]) w' → (execOp a.eval ⟨dst, .call ⟨.builtin .clear, #[so], #[st]⟩, type, pos, after, guard⟩).run P w = .ok (.value (.tuple #[])) w' := by
        intro w' hh
        simp only [execOp, resolve, invoke, builtin, Sem.run_bind, Sem.run_pure, Result.andThen, List.map_toArray, List.map_cons, List.map_nil]
        rw [hh]
       have hval : ∀ v', (none : Option V) = some v' → VR φ v' (.tuple #[]) := fun v' hv => by cases hv
       by_cases h0 : q.len = 0
       ·have hrun : (Builtin.clear_ #[st] type #[a.eval so]).run P w = .ok (.tuple #[]) w := by
         rcases hsv with ⟨_, _, hv⟩ | ⟨ad, cc, hv, _⟩
         ·rw [hv]; simp [Builtin.clear_, Sem.run_bind, hdr, Result.andThen, Sem.run_pure]
         ·rw [hv, h0]; simp [Builtin.clear_, Sem.run_bind, hdr, Result.andThen, Sem.run_pure]
        refine acts_value (hfin w hrun) (Phi.le_refl _) (put_same hm hb hbnt ?_) (Below.refl _ _) hval .refl
        rw [h0]
        simp only [flat]
        apply range_flatMap_congr
        intro j hj
        congr 1
        unfold cutIn
        simp only [List.replicate_zero, List.nil_append, List.length_nil, Nat.add_zero]
        rw [List.getD_eq_getElem?_getD]
        by_cases c1 : j < q.start
        ·rw [List.getElem?_append_left (by rw [length_sec]; exact c1), ← List.getD_eq_getElem?_getD, getD_sec _ _ _ _ _ c1, Nat.zero_add]
        ·rw [List.getElem?_append_right (by rw [length_sec]; omega), length_sec, List.getElem?_drop, ← List.getD_eq_getElem?_getD]
         congr 1; omega
       ·rcases hsv with ⟨h00, _, _⟩ | ⟨ad, cc, hv, hlc, _, _, had⟩
        ·exact absurd h00 h0
        ·have ha := had (by omega) (VD.not (by omega))
         obtain ⟨ph, hph⟩ := addr_phys ha
         simp only at hph
         have hbr := hm.blkAt hb hph
         obtain ⟨cells, el, fr, h1, h2, h3⟩ := hbr.cells hbnt
         obtain ⟨hbb, rfl, him, hcap, hcs⟩ := h3 rfl
         simp only at h2 hcap hcs
         have hadE : ad = ⟨ph.blk, ph.off + q.start * size te.ty, none⟩ := by
          unfold addr at ha
          simp only [hph, hqp, List.nil_append] at ha
          have ht' : ph.t = te.ty := hbr.t
          have h0 : offs te.ty [] = some 0 := by cases te.ty <;> rfl
          rw [ht'] at ha
          simp only [offs, h0, Option.map_some, Nat.add_zero, Option.some.injEq] at ha
          rw [← ha]
         subst hadE
         have hzc := V1_cells (zeroOK_ok φ hTe.tup hze)
         have hzs : ze.cells.size = size te.ty := by have := hzc.1; rw [length_flat] at this; simpa using this
         let ncs := (Builtin.zeroCells ze.cells q.len).toList
         have hncl : CL φ (flat (.arr q.len te.ty) (List.replicate q.len (dflt te.ty))) ncs := by
          have h := zeros_CL hzc q.len
          have e1 : flat (.arr q.len te.ty) (List.replicate q.len (dflt te.ty)) = flat (.arr q.len te.ty) ([] : List te.ty.den) := by
           simp only [flat]
           apply range_flatMap_congr
           intro j hj
           congr 1
           simp [List.getD, hj]
          rw [e1]
          have e2 : ncs = ((Array.range (q.len * size te.ty)).map fun i => ze.cells[i % ze.cells.size]!).toList := by
           show (Builtin.zeroCells ze.cells q.len).toList = _
           unfold Builtin.zeroCells
           rw [hzs]
          rw [e2]; exact h
         have hnl1 : ncs.length = q.len * size te.ty := by have := hncl.1; rwa [length_flat, size] at this
         have hone : ∀ u ∈ ncs, u.oneCell' = true := fun u hu => by
          obtain ⟨i, hi⟩ := List.getElem?_of_mem hu
          obtain ⟨c, _, hr⟩ := CL_get hncl hi
          exact CR_one hr
         have hle1 : bn * size te.ty ≤ ph.cap * size te.ty := Nat.mul_le_mul_right _ hcap
         have hle2 : (q.start + q.len) * size te.ty ≤ bn * size te.ty := Nat.mul_le_mul_right _ hle
         rw [Nat.add_mul] at hle2
         have hst := run_storeCells_at P ph.blk (ph.off + q.start * size te.ty) el ncs 0 cells w h1 (by rw [hnl1]; omega) hone
         simp only [Nat.add_zero] at hst
         have hrun : (Builtin.clear_ #[st] type #[a.eval so]).run P w = .ok (.tuple #[]) (w.setRow ph.blk (cells.toList.take (ph.off + q.start * size te.ty) ++ ncs ++ cells.toList.drop (ph.off + q.start * size te.ty + ncs.length)).toArray) := by
          rw [hv]
          obtain ⟨ql, hql⟩ : ∃ m, q.len = m + 1 := ⟨q.len - 1, by omega⟩
          have hst' : (storeCells ⟨ph.blk, ph.off + q.start * size te.ty, none⟩ (Builtin.zeroCells ze.cells q.len).toList).run P w = _ := hst
          rw [hql] at hst' ⊢
          simp only [Builtin.clear_, Sem.run_bind, hdr, hzr, Result.andThen, List.getElem?_toArray, List.getElem?_cons_zero]
          rw [hst']
          simp [Sem.run_pure, Result.andThen]
         exact acts_value (hfin _ hrun) (Phi.le_refl _) (put_cut hm hb hbnt hph h1 (by simp) hle hncl) (below_setRow (Below.refl base w) hbb _) hval .refl
      ·cases hap
     ·rename_i te b hte hbC hne
      split at hap
      ·rename_i b' e0 hcn
       simp only [Option.some.injEq, Prod.mk.injEq] at hap
       obtain ⟨rfl, hok⟩ := hap
       rw [Bool.and_eq_true] at hok
       obtain ⟨hok1, hok2⟩ := hok
       subst hok1
       subst hok2
       obtain ⟨hb, hbnt⟩ := Mem.getC_spec hbC
       unfold clrN at hcn
       split at hcn
       ·rename_i n t' l hnav
        cases htt : decide (t' = te.ty) <;> rw [htt] at hcn
        ·cases hcn
        ·have htt := of_decide_eq_true htt
         subst htt
         simp only [cond_true] at hcn
         split at hcn
         ·rename_i row hupd
          simp only [Option.some.injEq, Prod.mk.injEq] at hcn
          obtain ⟨rfl, hok⟩ := hcn
          rw [Bool.and_eq_true, Bool.and_eq_true] at hok
          obtain ⟨hwr, hin, hle0⟩ := hok
          obtain ⟨bt, bn, brow, bwr⟩ := b
          simp only at hnav hupd hwr hin hbnt
          subst hwr
          have hle := Nat.le_of_ble_eq_true hle0
          clear hle0
          simp only
          have e1 : args = #[so] := by apply Array.ext'; simpa using hargs
          have e2 : ts = #[st] := by apply Array.ext'; simpa using hts
          subst e1; subst e2
          have hT := hΘ.get hsi
          have hTe := hΘ.get hte
          obtain ⟨dd, hd, hdu, hdr⟩ := hT.run_underlying
          obtain ⟨e', rfl, hsub'⟩ := desc_slice hd hty
          rw [hsub] at hsub'; cases hsub'
          obtain ⟨ze, hze, hzr⟩ := hTe.run_zero
          have hsv := VR_slice.1 (rd_ok ht hs)
          have hfin : ∀ w', (Builtin.clear_ #[st] type #[a.eval so]).run P w = .ok (.tuple #[]) w' → (execOp a.eval ⟨dst, .call ⟨.builtin .clear, #[so], #[st]⟩, type, pos, after, guard⟩).run P w = .ok (.value (.tuple #[])) w' := by
           intro w' hh
           simp only [execOp, resolve, invoke, builtin, Sem.run_bind, Sem.run_pure, Result.andThen, List.map_toArray, List.map_cons, List.map_nil]
           rw [hh]
          have hval : ∀ v', (none : Option V) = some v' → VR φ v' (.tuple #[]) := fun v' hv => by cases hv
          by_cases h0 : q.len = 0
          ·have hrun : (Builtin.clear_ #[st] type #[a.eval so]).run P w = .ok (.tuple #[]) w := by
            rcases hsv with ⟨_, _, hv⟩ | ⟨ad, cc, hv, _⟩
            ·rw [hv]; simp [Builtin.clear_, Sem.run_bind, hdr, Result.andThen, Sem.run_pure]
            ·rw [hv, h0]; simp [Builtin.clear_, Sem.run_bind, hdr, Result.andThen, Sem.run_pure]
           refine acts_value (hfin w hrun) (Phi.le_refl _) (put_same hm hb hbnt ?_) (Below.refl _ _) hval .refl
           obtain ⟨o1, ho1, hs1, hg1⟩ := nav_spec _ _ _ _ hnav hin
           obtain ⟨o2, ho2, hs2, hg2⟩ := upd_spec _ _ _ _ _ hupd hin
           rw [ho1] at ho2
           cases ho2
           have hg2 : ∀ k, (flat (.arr bn bt) row)[k]? = if o1 ≤ k ∧ k < o1 + n * size te.ty then (flat (.arr n te.ty) (cutIn (dflt te.ty) l q.start (List.replicate q.len (dflt te.ty))))[k - o1]? else (flat (.arr bn bt) brow)[k]? := hg2
           refine List.ext_getElem? (fun k => ?_)
           have h2 := hg2 k
           split at h2
           ·rename_i hr
            rw [cut_flat (len := q.len) (by simp) hle, h0, if_neg (by omega)] at h2
            have h3 := hg1 (k - o1) (by simp only [size] at hr ⊢; omega)
            rw [show o1 + (k - o1) = k from by omega] at h3
            exact h2.trans h3.symm
           ·exact h2
          ·rcases hsv with ⟨h00, _, _⟩ | ⟨ad, cc, hv, hlc, _, _, had⟩
           ·exact absurd h00 h0
           ·have ha := had (by omega) (VD.not (by omega))
            obtain ⟨ph, hph⟩ := addr_phys ha
            simp only at hph
            have hbr := hm.blkAt hb hph
            obtain ⟨cells, el, fr, h1, h2, h3⟩ := hbr.cells hbnt
            obtain ⟨hbb, rfl, him, hcap, hcs⟩ := h3 rfl
            simp only at h2 hcap hcs
            obtain ⟨o, ho, _, _⟩ := nav_spec _ _ _ _ hnav hin
            have hadE : ad = ⟨ph.blk, ph.off + o + q.start * size te.ty, none⟩ := by
             unfold addr at ha
             simp only [hph] at ha
             have ht' : ph.t = bt := hbr.t
             rw [ht', ← offs_arr0 bn, offs_app (nav_tyAt hnav) (by simp), ho] at ha
             have h0 : offs te.ty [] = some 0 := by cases te.ty <;> rfl
             simp only [offs, h0, Option.map_some, Option.bind_some, Nat.add_zero, Option.some.injEq] at ha
             rw [← ha]
             simp only [Addr.mk.injEq, and_true, true_and]
             omega
            subst hadE
            have hzc := V1_cells (zeroOK_ok φ hTe.tup hze)
            have hzs : ze.cells.size = size te.ty := by have := hzc.1; rw [length_flat] at this; simpa using this
            let ncs := (Builtin.zeroCells ze.cells q.len).toList
            have hncl : CL φ (flat (.arr q.len te.ty) (List.replicate q.len (dflt te.ty))) ncs := by
             have h := zeros_CL hzc q.len
             have e1 : flat (.arr q.len te.ty) (List.replicate q.len (dflt te.ty)) = flat (.arr q.len te.ty) ([] : List te.ty.den) := by
              simp only [flat]
              apply range_flatMap_congr
              intro j hj
              congr 1
              simp [List.getD, hj]
             rw [e1]
             have e2 : ncs = ((Array.range (q.len * size te.ty)).map fun i => ze.cells[i % ze.cells.size]!).toList := by
              show (Builtin.zeroCells ze.cells q.len).toList = _
              unfold Builtin.zeroCells
              rw [hzs]
             rw [e2]; exact h
            have hone : ∀ u ∈ ncs, u.oneCell' = true := fun u hu => by
             obtain ⟨i, hi⟩ := List.getElem?_of_mem hu
             obtain ⟨c, _, hr⟩ := CL_get hncl hi
             exact CR_one hr
            obtain ⟨hfit, hput⟩ := put_cutN hm hb hbnt hph h1 hnav hupd hin ho (by simp) hle hncl
            have hst := run_storeCells_at P ph.blk (ph.off + o + q.start * size te.ty) el ncs 0 cells w h1 (by omega) hone
            simp only [Nat.add_zero] at hst
            have hrun : (Builtin.clear_ #[st] type #[a.eval so]).run P w = .ok (.tuple #[]) (w.setRow ph.blk (cells.toList.take (ph.off + o + q.start * size te.ty) ++ ncs ++ cells.toList.drop (ph.off + o + q.start * size te.ty + ncs.length)).toArray) := by
             rw [hv]
             obtain ⟨ql, hql⟩ : ∃ m, q.len = m + 1 := ⟨q.len - 1, by omega⟩
             have hst' : (storeCells ⟨ph.blk, ph.off + o + q.start * size te.ty, none⟩ (Builtin.zeroCells ze.cells q.len).toList).run P w = _ := hst
             rw [hql] at hst' ⊢
             simp only [Builtin.clear_, Sem.run_bind, hdr, hzr, Result.andThen, List.getElem?_toArray, List.getElem?_cons_zero]
             rw [hst']
             simp [Sem.run_pure, Result.andThen]
            exact acts_value (hfin _ hrun) (Phi.le_refl _) hput (below_setRow (Below.refl base w) hbb _) hval .refl
         ·cases hcn
       ·cases hcn
      ·cases hap
     ·cases hap
    ·cases hap
   ·cases hap
  ·cases hap
 ·cases h
end
end Go.GX

namespace Go.GX
set_option linter.unusedSimpArgs false
set_option linter.unusedVariables false
set_option linter.unusedSectionVars false
open Go.RowKit (Below)
section
variable {P : Program} {Θ : Tab} {K : Kn} {base : Nat} {φ : Phi} {mem : Mem} {id nn nxt : Nat} {w : World} {tm : TM} {a : Act} {r : R}
variable (hΘ : TabOK P Θ) (hK : KOK P K) (hm : MemRel base φ mem nxt w) (ht : TmR φ tm a.tmps)
variable {dst : Option Tmp} {type : TypeId} {pos : String} {after : Array Edge} {guard : Option (Nat × Bool)}
include hΘ hK hm ht
theorem call_args {f : Operand} {args : Array Operand} {fid : Nat} {fa fb : List (Ty × List Cell0)} {l ua ub : List V} (hf : rd tm f = some (⟨.func, .fn fid fa fb⟩, true)) (hl : rds tm args.toList = some (l, true))
 (ha : unpacks fa = some ua) (hb : unpacks fb = some ub) : ∃ x y : Array Value, a.eval f = .func (.func fid) x y ∧ AR φ (ua ++ (l ++ ub)) (x ++ args.map a.eval ++ y) := by
 obtain ⟨x, y, hv, hx, hy⟩ := VR_func.1 (rd_ok ht hf)
 obtain ⟨hl1, hl2⟩ := rds_ok ht hl rfl
 obtain ⟨h1, h2⟩ := unpacks_ok ha hx
 obtain ⟨h3, h4⟩ := unpacks_ok hb hy
 refine ⟨x, y, hv, ?_, fun i v hi => ?_⟩
 ·simp at h1 h3 hl1; simp [h1, h3, hl1, Nat.add_assoc]
 ·simp at h1 h3 hl1
  rw [Array.append_assoc]
  by_cases c1 : i < ua.length
  ·rw [List.getElem?_append_left c1] at hi
   obtain ⟨z, hz, hr⟩ := h2 i v hi
   exact ⟨z, by rw [Array.getElem?_append_left (by omega)]; simpa using hz, hr⟩
  ·rw [List.getElem?_append_right (by omega)] at hi
   rw [Array.getElem?_append_right (by omega), h1]
   by_cases c2 : i - ua.length < l.length
   ·rw [List.getElem?_append_left c2] at hi
    obtain ⟨z, hz, hr⟩ := hl2 _ v hi
    refine ⟨a.eval z, ?_, hr⟩
    rw [Array.getElem?_append_left (by simp; omega)]
    simp at hz ⊢
    exact ⟨z, hz, rfl⟩
   ·rw [List.getElem?_append_right (by omega)] at hi
    obtain ⟨z, hz, hr⟩ := h4 _ v hi
    refine ⟨z, ?_, hr⟩
    rw [Array.getElem?_append_right (by simp; omega)]
    simp only [Array.size_map, ← hl1]
    simpa using hz
theorem acts_call {f : Operand} {args : Array Operand} {ts : Array Nat} (h : opxI Θ K tm mem id nn nxt ⟨dst, .call ⟨.value f, args, ts⟩, type, pos, after, guard⟩ = some r) (hok : r.ok = true) : Acts P base φ w a ⟨dst, .call ⟨.value f, args, ts⟩, type, pos, after, guard⟩ id r := by
 simp only [opxI] at h
 split at h
 ·rename_i fid fa fb c l d hf hl
  split at h
  ·rename_i ua ub g ha hb hg
   split at h
   ·rename_i v mem' nxt' e hr
    cases h
    simp only at hok
    obtain ⟨rfl, hok2⟩ := and_split hok
    obtain ⟨rfl, rfl⟩ := and_split hok2
    obtain ⟨x, y, hv, hA⟩ := call_args hΘ hK hm ht hf hl ha hb
    obtain ⟨hcf, hsm⟩ := hK fid g hg
    intro next Q hn
    unfold Oper.wp
    have hrun : (execOp a.eval ⟨dst, .call ⟨.value f, args, ts⟩, type, pos, after, guard⟩).run P w = .ok (.enter fid (x ++ args.map a.eval ++ y)) w := by
     simp only [execOp, resolve, hv, Deferred.ofValue, invoke, Sem.run_bind, Sem.run_pure, Result.andThen]
     exact hcf _ _
    rw [hrun]
    show Calls P fid _ w _
    refine (hsm _ _ _ _ _ _ hr base φ w _ hm hA).mono ?_
    rintro e w' ⟨ψ, z, rfl, h1, h2, h3, h4⟩
    exact hn ψ w' z h1 h2 h3 (fun v' hv' => by cases hv'; exact h4) (fun e => by cases e)
   ·cases h
  ·cases h
 ·cases h
theorem opxI_ok (hfr : φ id = none) (hid : id < nn) (hnn : nxt ≤ nn) {o : Oper} (h : opxI Θ K tm mem id nn nxt o = some r) (hok : r.ok = true) : Acts P base φ w a o id r := by
 obtain ⟨dst, op, type, pos, after, guard⟩ := o
 cases op <;> try (simp [opxI] at h; done)
 case alloc => exact acts_alloc hΘ hK hm hfr hid hnn ht h
 case box => exact acts_box hΘ hK hm hfr hid hnn ht h hok
 case store => exact acts_store hΘ hK hm hfr hid hnn ht h hok
 case buildSlice => exact acts_buildSlice hΘ hK hm hfr hid hnn ht h hok
 case makeSlice => exact acts_makeSlice hΘ hK hm hfr hid hnn ht h hok
 case makeMap => exact acts_makeMap hΘ hK hm hfr hid hnn ht h hok
 case mapUpdate => exact acts_mapUpdate hΘ hK hm hfr hid hnn ht h hok
 case insert => exact acts_insert hΘ hK hm hfr hid hnn ht h hok
 case mapEntry => exact acts_mapEntry hΘ hK hm hfr hid hnn ht h hok
 case entryStore => exact acts_entryStore hΘ hK hm hfr hid hnn ht h hok
 case call c =>
  obtain ⟨callee, args, ts⟩ := c
  cases callee <;> try (simp [opxI] at h; done)
  ·exact acts_call hΘ hK hm ht h hok
  ·rename_i b
   cases b <;> try (simp [opxI] at h; done)
   ·intro next Q hn
    exact acts_append hΘ hK hm hfr hid hnn ht h hok next Q (fun ψ w' x h1 h2 h3 h4 h5 => hn ψ w' x h1 h2 h3 h4 (fun _ => h5))
   ·exact acts_clear hΘ hK hm ht h hok
   ·exact acts_copy hΘ hK hm ht h hok
theorem opx_ok {o : Oper} (h : opx Θ K tm mem nxt o = some r) (hok : r.ok = true) : Acts P base φ w a o nxt r :=
 opxI_ok hΘ hK hm ht hm.free (Nat.lt_succ_self _) (Nat.le_succ _) h hok
end
end Go.GX

namespace Go.GX
set_option linter.unusedSimpArgs false
set_option linter.unusedVariables false
set_option linter.unusedSectionVars false
open Go.RowKit (Below)
theorem rds_congr {tm tm' : TM} : ∀ {l : List Operand}, (∀ x ∈ l, rd tm x = rd tm' x) → rds tm l = rds tm' l
 | [], _ => rfl
 | x :: r, h => by simp only [rds]; rw [h x (by simp), rds_congr (fun y hy => h y (by simp [hy]))]
theorem rdp_congr {tm tm' : TM} : ∀ {l : List (Nat × Operand)}, (∀ p ∈ l, rd tm p.2 = rd tm' p.2) → rdp tm l = rdp tm' l
 | [], _ => rfl
 | (i, x) :: r, h => by simp only [rdp]; rw [h (i, x) (by simp), rdp_congr (fun y hy => h y (by simp [hy]))]
theorem optI_congr {tm tm' : TM} {x : Option Operand} (h : ∀ y, x = some y → rd tm y = rd tm' y) : optI tm x = optI tm' x := by
 cases x with
 | none => rfl
 | some y => simp only [optI]; rw [h y rfl]
theorem opv0_congr {Θ : Tab} {tm tm' : TM} {mem : Mem} {o : Oper} (h : ∀ x ∈ o.op.operands, rd tm x = rd tm' x) : opv0 Θ tm mem o = opv0 Θ tm' mem o := by
 obtain ⟨dst, op, type, pos, after, guard⟩ := o
 cases op <;> simp only [Op.operands] at h <;> try rfl
 case move x => simp only [opv0]; exact h x (by simp)
 case assign x => simp only [opv0]; exact h x (by simp)
 case pick c a b => simp only [opv0]; rw [h c (by simp), h a (by simp), h b (by simp)]
 case build t ps =>
  simp only [opv0]
  rw [rdp_congr (tm' := tm') (fun p hp => h p.2 (by simp; exact ⟨p.1, by simpa using hp⟩))]
 case load t a => simp only [opv0]; rw [h a (by simp)]
 case nilCheck x => simp only [opv0]; rw [h x (by simp)]
 case binOp => rename_i x y _; simp only [opv0]; rw [h x (by simp), h y (by simp)]
 case unOp => rename_i x; simp only [opv0]; rw [h x (by simp)]
 case convert => rename_i x; simp only [opv0]; rw [h x (by simp)]
 case makeFunc fn xs ys =>
  cases fn <;> simp only [opv0]
  rw [rds_congr (tm' := tm') (l := xs.toList) (fun x hx => h x (by simp at hx ⊢; exact .inl hx)), rds_congr (tm' := tm') (l := ys.toList) (fun x hx => h x (by simp at hx ⊢; exact .inr hx))]
 case slice t x lo hi mx =>
  simp only [opv0]
  rw [h x (by simp), optI_congr (tm' := tm') (x := lo) (fun y hy => h y (by simp [hy])), optI_congr (tm' := tm') (x := hi) (fun y hy => h y (by simp [hy])), optI_congr (tm' := tm') (x := mx) (fun y hy => h y (by simp [hy]))]
 case fieldAddr t x f => simp only [opv0]; rw [h x (by simp)]
 case field t x f => simp only [opv0]; rw [h x (by simp)]
 case indexAddr t x i => simp only [opv0]; rw [h x (by simp), h i (by simp)]
 case index t x i => simp only [opv0]; rw [h x (by simp), h i (by simp)]
 case extract x i => simp only [opv0]; rw [h x (by simp)]
 case call c =>
  obtain ⟨callee, args, ts⟩ := c
  cases callee <;> try rfl
  rename_i b
  have hx : ∀ x ∈ args.toList, rd tm x = rd tm' x := fun x hx => h x (by simp [Call.operands] at hx ⊢; exact hx)
  cases b <;> try rfl
  ·simp only [opv0]
   split
   ·rename_i x t hxs _
    rw [hx x (by rw [hxs]; simp)]
   ·rfl
  ·simp only [opv0]; rw [rds_congr hx]
  ·simp only [opv0]; rw [rds_congr hx]
theorem rdI_congr {tm tm' : TM} {x : Operand} (h : rd tm x = rd tm' x) : rdI tm x = rdI tm' x := by unfold rdI; rw [h]
theorem opn_congr {Θ : Tab} {tm tm' : TM} {o : Oper} (h : ∀ x ∈ o.op.operands, rd tm x = rd tm' x) : opn Θ tm o = opn Θ tm' o := by
 obtain ⟨dst, op, type, pos, after, guard⟩ := o
 cases op <;> simp only [Op.operands] at h <;> try rfl
 case load t a => simp only [opn]; rw [h a (by simp)]
 case nilCheck x => simp only [opn]; rw [h x (by simp)]
 case convert => rename_i x; simp only [opn]; rw [h x (by simp)]
 case slice t x lo hi mx =>
  simp only [opn]
  rw [h x (by simp), optI_congr (tm' := tm') (x := lo) (fun y hy => h y (by simp [hy])), optI_congr (tm' := tm') (x := hi) (fun y hy => h y (by simp [hy]))]
 case fieldAddr t x f => simp only [opn]; rw [h x (by simp)]
 case indexAddr t x i => simp only [opn]; rw [h x (by simp), rdI_congr (h i (by simp))]
 case call c =>
  obtain ⟨callee, args, ts⟩ := c
  cases callee <;> try rfl
  rename_i b
  have hx : ∀ x ∈ args.toList, rd tm x = rd tm' x := fun x hx => h x (by simp [Call.operands] at hx ⊢; exact hx)
  cases b <;> try rfl
  simp only [opn]
  split
  ·rename_i x t hxs _
   rw [hx x (by rw [hxs]; simp)]
  ·rfl
theorem opm_congr {Θ : Tab} {tm tm' : TM} {mem : Mem} {o : Oper} (h : ∀ x ∈ o.op.operands, rd tm x = rd tm' x) : opm Θ tm mem o = opm Θ tm' mem o := by
 obtain ⟨dst, op, type, pos, after, guard⟩ := o
 cases op <;> try rfl
 case lookup t m k ok => simp only [opm]; rw [h m (by simp [Op.operands]), h k (by simp [Op.operands])]
 case call c =>
  obtain ⟨callee, args, ts⟩ := c
  cases callee <;> try rfl
  rename_i b
  have hx : ∀ x ∈ args.toList, rd tm x = rd tm' x := fun x hx => h x (by simp [Op.operands, Call.operands] at hx ⊢; exact hx)
  cases b <;> try rfl
  simp only [opm]
  split
  ·rename_i x t hxs _
   rw [hx x (by rw [hxs]; simp)]
  ·rfl
theorem opv_congr {Θ : Tab} {tm tm' : TM} {mem : Mem} {o : Oper} (h : ∀ x ∈ o.op.operands, rd tm x = rd tm' x) : opv Θ tm mem o = opv Θ tm' mem o := by
 unfold opv
 rw [opn_congr h, opm_congr h, opv0_congr h]
def Tr.keep {α : Type} (p : Nat → Bool) : Tr α → (a b : Nat) → Tr α
 | .lf, _, _ => .lf
 | .nd l v r, a, b => .nd (l.keep p (2 * a) (a + b)) (bif p b then v else none) (r.keep p (2 * a) (2 * a + b))
theorem Tr.get_keep {α : Type} {p : Nat → Bool} : ∀ {t : Tr α} {a b n : Nat}, (t.keep p a b).get n = bif p (a * n + b) then t.get n else none
 | .lf, _, _, _ => by simp [keep, get]
 | .nd l v r, a, b, n => by
  simp only [keep, get]
  rcases Nat.eq_zero_or_pos n with hn | hn
  ·subst hn; simp
  ·rw [Tr.beq_pos hn]
   simp only [cond_false]
   by_cases ho : n % 2 = 1
   ·rw [Tr.beq_odd ho]
    simp only [cond_true]
    rw [Tr.get_keep]
    rw [show 2 * a * Nat.div n 2 + (a + b) = a * n + b from by
     have e : n = 2 * (n / 2) + 1 := by omega
     have : a * n = a * (2 * (n / 2) + 1) := congrArg (a * ·) e
     rw [Nat.mul_add] at this
     have e2 : 2 * a * (n / 2) = a * (2 * (n / 2)) := by rw [Nat.mul_comm 2 a, Nat.mul_assoc]
     show 2 * a * (n / 2) + (a + b) = _
     omega]
   ·rw [Tr.beq_even ho]
    simp only [cond_false]
    rw [Tr.get_keep]
    rw [show 2 * a * Nat.sub (Nat.div n 2) 1 + (2 * a + b) = a * n + b from by
     have e : n = 2 * (n / 2 - 1) + 2 := by omega
     have : a * n = a * (2 * (n / 2 - 1) + 2) := congrArg (a * ·) e
     rw [Nat.mul_add] at this
     have e2 : 2 * a * (n / 2 - 1) = a * (2 * (n / 2 - 1)) := by rw [Nat.mul_comm 2 a, Nat.mul_assoc]
     show 2 * a * (n / 2 - 1) + (2 * a + b) = _
     omega]
def Tr.mix {α : Type} (p : Nat → Bool) : Tr α → Tr α → (a b : Nat) → Tr α
 | .lf, u, a, b => u.keep (fun n => !p n) a b
 | .nd l v r, .lf, a, b => (Tr.nd l v r).keep p a b
 | .nd l v r, .nd l' v' r', a, b => .nd (l.mix p l' (2 * a) (a + b)) (bif p b then v else v') (r.mix p r' (2 * a) (2 * a + b))
theorem Tr.get_mix {α : Type} {p : Nat → Bool} : ∀ {t u : Tr α} {a b n : Nat}, (t.mix p u a b).get n = bif p (a * n + b) then t.get n else u.get n
 | .lf, u, a, b, n => by
  simp only [mix]
  rw [Tr.get_keep]
  cases p (a * n + b) <;> simp [get]
 | .nd l v r, .lf, a, b, n => by
  simp only [mix]
  rw [Tr.get_keep]
  cases p (a * n + b) <;> simp [get]
 | .nd l v r, .nd l' v' r', a, b, n => by
  simp only [mix, get]
  rcases Nat.eq_zero_or_pos n with hn | hn
  ·subst hn; simp
  ·rw [Tr.beq_pos hn]
   simp only [cond_false]
   by_cases ho : n % 2 = 1
   ·rw [Tr.beq_odd ho]
    simp only [cond_true]
    rw [Tr.get_mix]
    rw [show 2 * a * Nat.div n 2 + (a + b) = a * n + b from by
     have e : n = 2 * (n / 2) + 1 := by omega
     have : a * n = a * (2 * (n / 2) + 1) := congrArg (a * ·) e
     rw [Nat.mul_add] at this
     have e2 : 2 * a * (n / 2) = a * (2 * (n / 2)) := by rw [Nat.mul_comm 2 a, Nat.mul_assoc]
     show 2 * a * (n / 2) + (a + b) = _
     omega]
   ·rw [Tr.beq_even ho]
    simp only [cond_false]
    rw [Tr.get_mix]
    rw [show 2 * a * Nat.sub (Nat.div n 2) 1 + (2 * a + b) = a * n + b from by
     have e : n = 2 * (n / 2 - 1) + 2 := by omega
     have : a * n = a * (2 * (n / 2 - 1) + 2) := congrArg (a * ·) e
     rw [Nat.mul_add] at this
     have e2 : 2 * a * (n / 2 - 1) = a * (2 * (n / 2 - 1)) := by rw [Nat.mul_comm 2 a, Nat.mul_assoc]
     show 2 * a * (n / 2 - 1) + (2 * a + b) = _
     omega]
def protect (mem : Mem) : Mem := mem.map fun p => (p.1, { p.2 with wr := false })
theorem get_protect : ∀ {mem : Mem} {i : Nat}, Mem.get (protect mem) i = (Mem.get mem i).map fun b => { b with wr := false }
 | [], _ => rfl
 | (k, b) :: r, i => by
  show Mem.get ((k, _) :: protect r) i = _
  rw [Mem.get_cons, Mem.get_cons]
  by_cases h : i = k
  ·rw [if_pos h, if_pos h]; rfl
  ·rw [if_neg h, if_neg h]; exact get_protect
def Phi.rise (φ : Phi) (n : Nat) : Phi := ⟨φ.ad, φ.imm, n⟩
theorem Phi.sub_rise (φ : Phi) (n : Nat) : φ.sub (φ.rise n) := ⟨fun _ _ h => h, fun _ _ h => h⟩
theorem MemRel.protect {base : Nat} {φ : Phi} {m : Mem} {nxt : Nat} {w : World} (h : MemRel base φ m nxt w) : MemRel w.heap.size (φ.rise w.heap.size) (GX.protect m) nxt w where
 blk i b hi := by
  rw [get_protect, Option.map_eq_some_iff] at hi
  obtain ⟨b', hb, rfl⟩ := hi
  rcases h.blk i b' hb with h1 | ⟨ph, hp, hr⟩
  ·exact .inl h1
  refine .inr ⟨ph, hp, hr.t, fun e => (by cases e), hr.mp.same (φ.sub_rise _) rfl, fun ht => ?_⟩
  obtain ⟨cs, el, fr, h1, h2, h3⟩ := hr.cells ht
  exact ⟨cs, el, fr, h1, fun k c hk => let ⟨v, hv, hx⟩ := h2 k c hk; ⟨v, hv, CR_mono (φ.sub_rise _) hx⟩, fun e => by cases e⟩
 apart i j b b' ph ph' hi hj hij hw := by
  rw [get_protect, Option.map_eq_some_iff] at hi
  obtain ⟨b2, _, rfl⟩ := hi
  cases hw
 fresh := h.fresh
 lo := rfl
 base := Nat.le_refl _
 imm := h.imm
def ImmOK (φ : Phi) (w : World) : Prop := ∀ k o, φ.imm k = some o → w.heap[k]? = some o
def Phi.bare (φ : Phi) (n : Nat) : Phi := ⟨fun _ => none, φ.imm, n⟩
theorem MemRel.nil {φ : Phi} (w : World) (hi : ImmOK φ w) : MemRel w.heap.size (φ.bare w.heap.size) [] 0 w where
 blk i b h := by simp [Mem.get] at h
 apart i j b b' ph ph' h := by simp [Mem.get] at h
 fresh i ph h := by cases h
 lo := rfl
 base := Nat.le_refl _
 imm := hi
def Phi.with (φ : Phi) (im : Nat → Option Obj) : Phi := ⟨φ.ad, im, φ.lo⟩
theorem MemRel.back {base : Nat} {φ φ0 ψ : Phi} {m m' : Mem} {nxt n' : Nat} {w w' : World} (hm : MemRel base φ m nxt w) (hi : φ0.imm = φ.imm) (hl : φ0.lo = w.heap.size) (hle : φ0.le ψ)
 (h0 : MemRel w.heap.size ψ m' n' w') (hb : Below w.heap.size w w') : φ.le (φ.with ψ.imm) ∧ MemRel base (φ.with ψ.imm) m nxt w' := by
 have hle' : φ.le (φ.with ψ.imm) := ⟨⟨fun _ _ h => h, fun k o h => hle.imm k o (by rw [hi]; exact h)⟩, fun k o h => by
  rcases hle.new k o h with h | h
  ·exact .inl (by rw [← hi]; exact h)
  ·rw [hl] at h; exact .inr (by rw [hm.lo]; exact Nat.le_trans hm.base h), rfl⟩
 refine ⟨hle', hm.grow (Below.same hb (Nat.le_refl _)) (Nat.le_refl _) hle' (fun _ => rfl) (fun k o h => ?_) h0.imm⟩
 rcases hle.new k o h with h | h
 ·exact .inl (by rw [← hi]; exact h)
 ·rw [hl] at h; exact .inr h
def noPtr0 : Cell0 → Bool
 | .ptr (some _) | .slice (some _) | .map (some _) => false
 | _ => true
def noPtr : Cell → Bool
 | .c0 c => noPtr0 c
 | .func .nil => true
 | .func (.fn _ a b) => (a.all fun p => p.2.all noPtr0) && (b.all fun p => p.2.all noPtr0)
 | .iface .nil => true
 | .iface (.mk _ p) => p.2.all noPtr0
 | .vs _ _ | .vp _ => false
mutual
def noAd : Cell → Bool
 | .c0 c => noPtr0 c
 | .func f => noPtr (.func f)
 | .iface i => noPtr (.iface i)
 | .vs _ cs => noAds cs
 | .vp cs => noAds cs
def noAds : List Cell → Bool
 | [] => true
 | c :: cs => noAd c && noAds cs
end
theorem noAds_all : ∀ {cs : List Cell}, noAds cs = true ↔ ∀ c ∈ cs, noAd c = true
 | [] => by simp [noAds]
 | c :: cs => by simp [noAds, noAds_all (cs := cs)]
def plainT : Ty → Bool
 | .bool | .int _ | .str | .unit | .tnil => true
 | .pair a b | .tup a b => plainT a && plainT b
 | .arr _ e => plainT e
 | _ => false
theorem plain_cells : ∀ {t : Ty} {x : t.den}, plainT t = true → ∀ c ∈ flat t x, noPtr c = true
 | .bool, _, _, c, hc | .int _, _, _, c, hc | .str, _, _, c, hc => by simp [flat] at hc; subst hc; rfl
 | .unit, _, _, c, hc | .tnil, _, _, c, hc => by simp [flat] at hc
 | .pair a b, x, h, c, hc => by
  simp only [plainT, Bool.and_eq_true] at h
  simp only [flat, List.mem_append] at hc
  rcases hc with hc | hc
  ·exact plain_cells h.1 c hc
  ·exact plain_cells h.2 c hc
 | .tup a b, x, h, c, hc => by
  simp only [plainT, Bool.and_eq_true] at h
  simp only [flat, List.mem_append] at hc
  rcases hc with hc | hc
  ·exact plain_cells h.1 c hc
  ·exact plain_cells h.2 c hc
 | .arr n e, x, h, c, hc => by
  simp only [plainT] at h
  simp only [flat, List.mem_flatMap] at hc
  obtain ⟨i, _, hc⟩ := hc
  exact plain_cells h c hc
theorem CR0_any {φ ψ : Phi} : ∀ {c : Cell0} {v : Value}, noPtr0 c = true → CR0 φ c v → CR0 ψ c v
 | .bool _, _, _, hc | .int _ _, _, _, hc | .str _, _, _, hc | .ptr none, _, _, hc | .slice none, _, _, hc | .map none, _, _, hc => hc
theorem CL0_any {φ ψ : Phi} {cs : List Cell0} {vs : List Value} (h : cs.all noPtr0 = true) (hc : CL0 φ cs vs) : CL0 ψ cs vs :=
 ⟨hc.1, fun i c hi => let ⟨v, hv, hr⟩ := hc.2 i c hi; ⟨v, hv, CR0_any (List.all_eq_true.1 h c (List.mem_of_getElem? hi)) hr⟩⟩
theorem VC0_any {φ ψ : Phi} {p : Ty × List Cell0} {v : Value} (h : p.2.all noPtr0 = true) (hc : VC0 φ p v) : VC0 ψ p v := by
 unfold VC0 at hc ⊢
 split
 ·rename_i ha
  rw [if_pos ha] at hc
  obtain ⟨l, hl, hr⟩ := hc
  exact ⟨l, hl, CL0_any h hr⟩
 ·rename_i ha
  rw [if_neg ha] at hc
  obtain ⟨l, hl, hr⟩ := hc
  exact ⟨l, hl, CR0_any (by rw [hl] at h; simpa using h) hr⟩
theorem VL0_any {φ ψ : Phi} {cs : List (Ty × List Cell0)} {vs : List Value} (h : (cs.all fun p => p.2.all noPtr0) = true) (hc : VL0 φ cs vs) : VL0 ψ cs vs :=
 ⟨hc.1, fun i c hi => let ⟨v, hv, hr⟩ := hc.2 i c hi; ⟨v, hv, VC0_any (List.all_eq_true.1 h c (List.mem_of_getElem? hi)) hr⟩⟩
theorem CR_any {φ ψ : Phi} : ∀ {c : Cell} {v : Value}, noPtr c = true → CR φ c v → CR ψ c v
 | .c0 _, _, h, hc => by unfold CR at hc ⊢; exact CR0_any h hc
 | .func .nil, _, _, hc | .iface .nil, _, _, hc => by unfold CR at hc ⊢; exact hc
 | .func (.fn _ a b), _, h, hc => by
  unfold CR at hc ⊢
  obtain ⟨x, y, e, hx, hy⟩ := hc
  simp only [noPtr] at h
  obtain ⟨h1, h2⟩ := and_split h
  exact ⟨x, y, e, VL0_any h1 hx, VL0_any h2 hy⟩
 | .iface (.mk _ _), _, h, hc => by unfold CR at hc ⊢; obtain ⟨x, e, hx⟩ := hc; exact ⟨x, e, VC0_any h hx⟩
 | .vs _ _, _, h, _ | .vp _, _, h, _ => by simp [noPtr] at h
mutual
theorem CR_imm {φ ψ : Phi} (hi : ∀ k o, φ.imm k = some o → ψ.imm k = some o) : ∀ {c : Cell} {v : Value}, noAd c = true → CR φ c v → CR ψ c v
 | .c0 _, _, h, hc => CR_any (by simpa [noAd, noPtr] using h) hc
 | .func _, _, h, hc => CR_any (by simpa [noAd] using h) hc
 | .iface _, _, h, hc => CR_any (by simpa [noAd] using h) hc
 | .vs n cs, _, h, hc => by
  unfold CR at hc ⊢
  simp only [noAd] at h
  rcases hc with hc | ⟨a, c, hv, hn, hx⟩
  ·exact .inl hc
  ·exact .inr ⟨a, c, hv, hn, fun h0 => by obtain ⟨h1, os, el, fr, h2, h3⟩ := hx h0; exact ⟨h1, os, el, fr, hi _ _ h2, CRs_imm hi h h3⟩⟩
 | .vp cs, _, h, hc => by
  unfold CR at hc ⊢
  simp only [noAd] at h
  obtain ⟨a, hv, h1, os, el, fr, h2, h3⟩ := hc
  exact ⟨a, hv, h1, os, el, fr, hi _ _ h2, CRs_imm hi h h3⟩
theorem CRs_imm {φ ψ : Phi} (hi : ∀ k o, φ.imm k = some o → ψ.imm k = some o) : ∀ {cs : List Cell} {vs : List Value}, noAds cs = true → CRs φ cs vs → CRs ψ cs vs
 | [], _, _, _ => by unfold CRs; trivial
 | _ :: _, [], _, hc => by unfold CRs at hc; exact hc.elim
 | c :: cs, _ :: _, h, hc => by
  unfold CRs at hc ⊢
  simp only [noAds, Bool.and_eq_true] at h
  exact ⟨CR_imm hi h.1 hc.1, CRs_imm hi h.2 hc.2⟩
end
theorem V1_any {φ ψ : Phi} {t : Ty} {x : t.den} {v : Value} (h : ∀ c ∈ flat t x, noPtr c = true) (hc : V1 φ t x v) : V1 ψ t x v := by
 unfold V1 at hc ⊢
 split
 ·rename_i ha
  rw [if_pos ha] at hc
  obtain ⟨l, hl, hr⟩ := hc
  exact ⟨l, hl, hr.1, fun i c hi => let ⟨v, hv, hr⟩ := hr.2 i c hi; ⟨v, hv, CR_any (h c (List.mem_of_getElem? hi)) hr⟩⟩
 ·rename_i ha
  rw [if_neg ha] at hc
  obtain ⟨c, hl, hr⟩ := hc
  exact ⟨c, hl, CR_any (h c (by rw [hl]; simp)) hr⟩
theorem TR_any {φ ψ : Phi} : ∀ {t : Ty} {x : t.den} {l : List Value}, (∀ c ∈ flat t x, noPtr c = true) → TR φ t x l → TR ψ t x l
 | .tnil, _, _, _, hc => hc
 | .tup a b, x, l, h, ⟨v, r, e, h1, h2⟩ => ⟨v, r, e, V1_any (fun c hc => h c (by simp [flat, hc])) h1, TR_any (fun c hc => h c (by simp [flat, hc])) h2⟩
theorem VR_any {φ ψ : Phi} {v : V} {x : Value} (h : ∀ c ∈ flat v.t v.x, noPtr c = true) (hc : VR φ v x) : VR ψ v x := by
 unfold VR at hc ⊢
 split
 ·rename_i ha
  rw [if_pos ha] at hc
  obtain ⟨l, hl, hr⟩ := hc
  exact ⟨l, hl, TR_any h hr⟩
 ·rename_i ha
  rw [if_neg ha] at hc
  exact V1_any h hc
theorem V1_imm {φ ψ : Phi} (hi : ∀ k o, φ.imm k = some o → ψ.imm k = some o) {t : Ty} {x : t.den} {v : Value} (h : ∀ c ∈ flat t x, noAd c = true) (hc : V1 φ t x v) : V1 ψ t x v := by
 unfold V1 at hc ⊢
 split
 ·rename_i ha
  rw [if_pos ha] at hc
  obtain ⟨l, hl, hr⟩ := hc
  exact ⟨l, hl, hr.1, fun i c hi' => let ⟨v, hv, hr⟩ := hr.2 i c hi'; ⟨v, hv, CR_imm hi (h c (List.mem_of_getElem? hi')) hr⟩⟩
 ·rename_i ha
  rw [if_neg ha] at hc
  obtain ⟨c, hl, hr⟩ := hc
  exact ⟨c, hl, CR_imm hi (h c (by rw [hl]; simp)) hr⟩
theorem TR_imm {φ ψ : Phi} (hi : ∀ k o, φ.imm k = some o → ψ.imm k = some o) : ∀ {t : Ty} {x : t.den} {l : List Value}, (∀ c ∈ flat t x, noAd c = true) → TR φ t x l → TR ψ t x l
 | .tnil, _, _, _, hc => hc
 | .tup a b, x, l, h, ⟨v, r, e, h1, h2⟩ => ⟨v, r, e, V1_imm hi (fun c hc => h c (by simp [flat, hc])) h1, TR_imm hi (fun c hc => h c (by simp [flat, hc])) h2⟩
theorem VR_imm {φ ψ : Phi} (hi : ∀ k o, φ.imm k = some o → ψ.imm k = some o) {v : V} {x : Value} (h : ∀ c ∈ flat v.t v.x, noAd c = true) (hc : VR φ v x) : VR ψ v x := by
 unfold VR at hc ⊢
 split
 ·rename_i ha
  rw [if_pos ha] at hc
  obtain ⟨l, hl, hr⟩ := hc
  exact ⟨l, hl, TR_imm hi h hr⟩
 ·rename_i ha
  rw [if_neg ha] at hc
  exact V1_imm hi h hc
def valT : Ty → Bool
 | .bool | .int _ | .str | .unit | .tnil => true
 | .pair a b | .tup a b => valT a && valT b
 | .arr _ e => valT e
 | .vsl e | .vptr e => valT e
 | _ => false
theorem val_cells : ∀ {t : Ty} {x : t.den}, valT t = true → ∀ c ∈ flat t x, noAd c = true
 | .bool, _, _, c, hc | .int _, _, _, c, hc | .str, _, _, c, hc => by simp [flat] at hc; subst hc; rfl
 | .unit, _, _, c, hc | .tnil, _, _, c, hc => by simp [flat] at hc
 | .pair a b, x, h, c, hc => by
  simp only [valT, Bool.and_eq_true] at h
  simp only [flat, List.mem_append] at hc
  rcases hc with hc | hc
  ·exact val_cells h.1 c hc
  ·exact val_cells h.2 c hc
 | .tup a b, x, h, c, hc => by
  simp only [valT, Bool.and_eq_true] at h
  simp only [flat, List.mem_append] at hc
  rcases hc with hc | hc
  ·exact val_cells h.1 c hc
  ·exact val_cells h.2 c hc
 | .arr n e, x, h, c, hc => by
  simp only [valT] at h
  simp only [flat, List.mem_flatMap] at hc
  obtain ⟨i, _, hc⟩ := hc
  exact val_cells h c hc
 | .vsl e, x, h, c, hc => by
  simp only [valT] at h
  simp only [flat, List.mem_singleton] at hc
  subst hc
  simp only [noAd]
  rw [noAds_all]
  intro c hc
  simp only [List.mem_flatMap] at hc
  obtain ⟨i, _, hc⟩ := hc
  exact val_cells h c hc
 | .vptr e, x, h, c, hc => by
  simp only [valT] at h
  simp only [flat, List.mem_singleton] at hc
  subst hc
  simp only [noAd]
  rw [noAds_all]
  exact val_cells h
theorem noPtr_noAd {c : Cell} (h : noPtr c = true) : noAd c = true := by
 cases c <;> first | exact h | (simp [noPtr] at h)
def valV (v : V) : Bool := valT v.t || (flat v.t v.x).all noPtr
theorem valV_ok {φ ψ : Phi} (hi : ∀ k o, φ.imm k = some o → ψ.imm k = some o) {v : V} {x : Value} (h : valV v = true) (hc : VR φ v x) : VR ψ v x := by
 refine VR_imm hi ?_ hc
 simp only [valV, Bool.or_eq_true] at h
 rcases h with h | h
 ·exact val_cells h
 ·exact fun c hc => noPtr_noAd (List.all_eq_true.1 h c hc)
def plainV (v : V) : Bool := plainT v.t || (flat v.t v.x).all noPtr
theorem plainV_ok {φ ψ : Phi} {v : V} {x : Value} (h : plainV v = true) (hc : VR φ v x) : VR ψ v x := by
 refine VR_any ?_ hc
 simp only [plainV, Bool.or_eq_true] at h
 rcases h with h | h
 ·exact plain_cells h
 ·exact List.all_eq_true.1 h
theorem AR.mono {φ ψ : Phi} (h : φ.sub ψ) {args : List V} {xs : Array Value} (hA : AR φ args xs) : AR ψ args xs := ⟨hA.1, fun i v hi => let ⟨x, hx, hr⟩ := hA.2 i v hi; ⟨x, hx, VR_mono h hr⟩⟩
def callP (K : Kn) (tm : TM) (mem : Mem) (nxt : Nat) (o : Oper) : Option (V × Bool) :=
 match o.op with
 | .call ⟨.value f, args, _⟩ => match rd tm f, rds tm args.toList with
  | some (⟨.func, .fn f a b⟩, c), some (l, d) => match unpacks a, unpacks b, K f with
   | some a, some b, some g => match g (a ++ (l ++ b)) (protect mem) nxt with
    | some (v, _, _, e) => bif plainV v then some (v, c && (d && e)) else none
    | none => none
   | _, _, _ => none
  | _, _ => none
 | _ => none
theorem callP_congr {K : Kn} {tm tm' : TM} {mem : Mem} {nxt : Nat} {o : Oper} (h : ∀ x ∈ o.op.operands, rd tm x = rd tm' x) : callP K tm mem nxt o = callP K tm' mem nxt o := by
 obtain ⟨dst, op, type, pos, after, guard⟩ := o
 cases op <;> try rfl
 rename_i c
 obtain ⟨callee, args, ts⟩ := c
 cases callee <;> try rfl
 rename_i f
 simp only [callP]
 rw [h f (by simp [Op.operands, Call.operands]), rds_congr (tm' := tm') (fun x hx => h x (by simp [Op.operands, Call.operands] at hx ⊢; exact .inr hx))]
def Tame (P : Program) (φ : Phi) (w : World) (a : Act) (o : Oper) (v : V) : Prop :=
 ∀ (next : Act → World → Prop) (Q : Exit → Act → World → Prop), (∀ w' x, Below w.heap.size w w' → VR φ v x → next (a.put o.dst x) w') → o.wp P a w next Q
theorem callP_ok {P : Program} {K : Kn} (hK : KOK P K) {base : Nat} {φ : Phi} {mem : Mem} {nxt : Nat} {w : World} {tm : TM} {a : Act} (hm : MemRel base φ mem nxt w) (ht : TmR φ tm a.tmps) {o : Oper} {v : V}
 (h : callP K tm mem nxt o = some (v, true)) {Θ : Tab} (hΘ : TabOK P Θ) : Tame P φ w a o v := by
 obtain ⟨dst, op, type, pos, after, guard⟩ := o
 cases op <;> try (simp [callP] at h; done)
 rename_i c
 obtain ⟨callee, args, ts⟩ := c
 cases callee <;> try (simp [callP] at h; done)
 rename_i f
 simp only [callP] at h
 split at h
 ·rename_i fid fa fb c l d hf hl
  split at h
  ·rename_i ua ub g ha hb hg
   split at h
   ·rename_i v' mem' nxt' e hr
    cases hp : plainV v' <;> rw [hp] at h
    ·cases h
    ·simp only [cond_true, Option.some.injEq, Prod.mk.injEq] at h
     obtain ⟨rfl, hok⟩ := h
     obtain ⟨rfl, hok2⟩ := and_split hok
     obtain ⟨rfl, rfl⟩ := and_split hok2
     obtain ⟨x, y, hv, hA⟩ := call_args hΘ hK hm ht hf hl ha hb
     obtain ⟨hcf, hsm⟩ := hK fid g hg
     intro next Q hn
     unfold Oper.wp
     have hrun : (execOp a.eval ⟨dst, .call ⟨.value f, args, ts⟩, type, pos, after, guard⟩).run P w = .ok (.enter fid (x ++ args.map a.eval ++ y)) w := by
      simp only [execOp, resolve, hv, Deferred.ofValue, invoke, Sem.run_bind, Sem.run_pure, Result.andThen]
      exact hcf _ _
     rw [hrun]
     show Calls P fid _ w _
     refine (hsm _ _ _ _ _ _ hr w.heap.size (φ.rise w.heap.size) w _ hm.protect (hA.mono (φ.sub_rise _))).mono ?_
     rintro e w' ⟨ψ, z, rfl, h1, h2, h3, h4⟩
     exact hn w' z h3 (plainV_ok hp h4)
   ·cases h
  ·cases h
 ·cases h
theorem Quiet.tame {P : Program} {φ : Phi} {w : World} {a : Act} {o : Oper} {v : V} (h : Quiet P φ w a o v) : Tame P φ w a o v := by
 obtain ⟨x, hx, hr⟩ := h
 intro next Q hn
 unfold Oper.wp
 rw [hx]
 exact hn w x (Below.refl _ _) hr
def tameX (Θ : Tab) (K : Kn) (tm : TM) (mem : Mem) (nxt : Nat) (o : Oper) : Option (V × Bool) :=
 match opv Θ tm mem o with
 | some r => some r
 | none => callP K tm mem nxt o
theorem tameX_congr {Θ : Tab} {K : Kn} {tm tm' : TM} {mem : Mem} {nxt : Nat} {o : Oper} (h : ∀ x ∈ o.op.operands, rd tm x = rd tm' x) : tameX Θ K tm mem nxt o = tameX Θ K tm' mem nxt o := by
 simp only [tameX]; rw [opv_congr h, callP_congr h]
theorem tameX_ok {P : Program} {Θ : Tab} {K : Kn} (hΘ : TabOK P Θ) (hK : KOK P K) {base : Nat} {φ : Phi} {mem : Mem} {nxt : Nat} {w : World} {tm : TM} {a : Act} (hm : MemRel base φ mem nxt w) (ht : TmR φ tm a.tmps) {o : Oper} {v : V}
 (h : tameX Θ K tm mem nxt o = some (v, true)) : Tame P φ w a o v := by
 unfold tameX at h
 split at h
 ·rename_i r hr
  cases h
  exact (opv_ok hΘ hm ht hr).tame
 ·exact callP_ok hK hm ht h hΘ
end Go.GX

namespace Go.GX
set_option linter.unusedSimpArgs false
set_option linter.unusedVariables false
set_option linter.unusedSectionVars false
open Go.RowKit (Below)
structure St where
 tm : TM
 n : Nat
 mem : Mem
 nxt : Nat
 ok : Bool
class DefL where
 ds : List Deferred
instance (priority := low) DefL.none : DefL := ⟨[]⟩
variable [DefL]
structure Rel (base : Nat) (φ : Phi) (st : St) (a : Act) (w : World) : Prop where
 tm : TmR φ st.tm a.tmps
 n : a.tmps.size = st.n
 mem : MemRel base φ st.mem st.nxt w
 defers : a.defers = DefL.ds
theorem TmR_mono {φ ψ : Phi} (h : φ.le ψ) {tm : TM} {t : Array Value} (ht : TmR φ tm t) : TmR ψ tm t := fun s v c hs => ⟨fun hc => VR_mono h ((ht s v c hs).1 hc), (ht s v c hs).2⟩
namespace Tr
def mapv {α : Type} (f : α → α) : Tr α → Tr α
 | .lf => .lf
 | .nd l v r => .nd (l.mapv f) (v.map f) (r.mapv f)
def allv {α : Type} (p : α → Bool) : Tr α → Bool
 | .lf => true
 | .nd l v r => l.allv p && ((match v with | some x => p x | none => true) && r.allv p)
theorem get_mapv {α : Type} {f : α → α} : ∀ {t : Tr α} {n : Nat}, (t.mapv f).get n = (t.get n).map f
 | .lf, n => by simp [mapv, get]
 | .nd l v r, n => by
  simp only [mapv, get]
  cases Nat.beq n 0 <;> simp only [cond_true, cond_false]
  cases Nat.beq (Nat.mod n 2) 1 <;> simp only [cond_true, cond_false]
  ·exact get_mapv
  ·exact get_mapv
theorem allv_get {α : Type} {p : α → Bool} : ∀ {t : Tr α} {n : Nat} {x : α}, t.allv p = true → t.get n = some x → p x = true
 | .lf, n, x, _, h => by simp [get] at h
 | .nd l v r, n, x, ha, h => by
  simp only [allv] at ha
  obtain ⟨h1, ha⟩ := and_split ha
  obtain ⟨h2, h3⟩ := and_split ha
  simp only [get] at h
  cases hb : Nat.beq n 0 <;> rw [hb] at h <;> simp only [cond_true, cond_false] at h
  ·cases hc : Nat.beq (Nat.mod n 2) 1 <;> rw [hc] at h <;> simp only [cond_true, cond_false] at h
   ·exact allv_get h3 h
   ·exact allv_get h1 h
  ·subst h; exact h2
end Tr
def ofBlk (id : Nat) (v : V) : Option SL := match v with
 | ⟨.slice, some s⟩ => bif Nat.beq s.id id && s.path.isEmpty then some s else none
 | _ => none
def pubV (b : Blk) (id : Nat) (x : V × Bool) : V × Bool := match ofBlk id x.1 with
 | some s => (⟨.vsl b.t, sec (dflt b.t) b.row s.start s.len⟩, x.2)
 | none => x
def pubG (b : Blk) (id : Nat) (x : V × Bool) : Bool := match ofBlk id x.1 with
 | some s => decide (s.start + s.len ≤ b.n)
 | none => true
def frz (m : Mem) (id : Nat) (b : Blk) : Mem := Mem.set m id ⟨b.t, b.n, b.row, false⟩
def pubSt (st : St) (x : Operand) (e : Ty) : St :=
 match x with
 | .tmp t => match st.tm.get t with
  | some (⟨.slice, some s⟩, true) => match s.path, Mem.getC st.mem s.id with
   | [], some b => bif decide (b.t = e) && b.wr then ⟨st.tm.mapv (pubV b s.id), st.n, frz st.mem s.id b, st.nxt, st.tm.allv (pubG b s.id) && st.ok⟩ else st
   | _, _ => st
  | _ => st
 | _ => st
theorem pubSt_mono {st : St} {x : Operand} {e : Ty} (h : (pubSt st x e).ok = true) : st.ok = true := by
 unfold pubSt at h
 split at h
 ·split at h
  ·split at h
   ·rename_i b _ _
    cases hb : decide (b.t = e) && b.wr <;> rw [hb] at h
    ·exact h
    ·exact (and_split h).2
   ·exact h
  ·exact h
 ·exact h
theorem ofBlk_eq {id : Nat} {v : V} {s : SL} (h : ofBlk id v = some s) : v = ⟨.slice, some s⟩ ∧ s.id = id ∧ s.path = [] := by
 unfold ofBlk at h
 split at h
 ·rename_i s'
  cases hb : Nat.beq s'.id id && s'.path.isEmpty <;> rw [hb] at h
  ·cases h
  ·cases h
   obtain ⟨h1, h2⟩ := and_split hb
   exact ⟨rfl, Nat.eq_of_beq_eq_true h1, by simpa using h2⟩
 ·cases h
theorem pubSt_ok {base : Nat} {φ : Phi} {st : St} {a : Act} {w : World} (hr : Rel base φ st a w) {x : Operand} {e : Ty} (hok : (pubSt st x e).ok = true) : ∃ ψ, φ.le ψ ∧ Rel base ψ (pubSt st x e) a w := by
 have same : ∃ ψ, φ.le ψ ∧ Rel base ψ st a w := ⟨φ, Phi.le_refl _, hr⟩
 unfold pubSt at hok ⊢
 split at hok
 ·rename_i t
  split at hok
  ·rename_i s hs
   split at hok
   ·rename_i b hp hb
    obtain ⟨hb, hbnt⟩ := Mem.getC_spec hb
    cases hbb : decide (b.t = e) && b.wr <;> rw [hbb] at hok
    ·exact same
    ·simp only [cond_true] at hok ⊢
     obtain ⟨hg, _⟩ := and_split hok
     obtain ⟨hbt, hbw⟩ := and_split hbb
     simp only [decide_eq_true_eq] at hbt
     have hgo : ∀ (j : Nat) (v : V) (c : Bool) (s' : SL), st.tm.get j = some (v, c) → ofBlk s.id v = some s' → s'.start + s'.len ≤ b.n := by
      intro j v c s' hj ho
      have := Tr.allv_get hg hj
      simp only [pubG, ho, decide_eq_true_eq] at this
      exact this
     have hst : ∀ (m : Mem), True := fun _ => trivial
     cases hph : φ s.id with
     | none =>
      have hn : b.n = 0 := by
       rcases hr.mem.blk _ b hb with h | ⟨ph, h, _⟩
       ·exact h.2
       ·rw [hph] at h; cases h
      refine ⟨φ, Phi.le_refl _, fun j v c hj => ?_, hr.n, ⟨fun i b' hi => ?_, fun i j b1 b2 p1 p2 hi hj hij hw h1 h2 => ?_, hr.mem.fresh, hr.mem.lo, hr.mem.base, hr.mem.imm⟩, hr.defers⟩
      ·rw [Tr.get_mapv, Option.map_eq_some_iff] at hj
       obtain ⟨⟨v0, c0⟩, hj, he⟩ := hj
       obtain ⟨h1, h2⟩ := hr.tm j v0 c0 hj
       unfold pubV at he
       simp only at he
       cases ho : ofBlk s.id v0 with
       | none => rw [ho] at he; cases he; exact ⟨h1, h2⟩
       | some s' =>
        rw [ho] at he
        cases he
        refine ⟨fun hc => ?_, h2⟩
        have hle := hgo j v0 c s' hj ho
        obtain ⟨rfl, hid, hpp⟩ := ofBlk_eq ho
        have h1 := VR_slice.1 (h1 hc)
        have hl0 : s'.len = 0 := by omega
        rw [VR_vsl]
        unfold CR
        rcases h1 with ⟨_, _, h1⟩ | ⟨q, cc, h1, h3, _⟩
        ·exact .inl ⟨by rw [length_sec]; exact hl0, h1⟩
        ·exact .inr ⟨q, cc, by rw [h1, length_sec], by rw [length_sec]; exact h3, fun hne => absurd (by rw [length_sec]; exact hl0) hne⟩
      ·rcases Mem.get_set _ _ _ _ _ hi with ⟨rfl, rfl⟩ | ⟨_, hi⟩
       ·exact .inl ⟨hph, hn⟩
       ·exact hr.mem.blk i b' hi
      ·rcases Mem.get_set _ _ _ _ _ hi with ⟨rfl, rfl⟩ | ⟨_, hi⟩
       ·cases hw
       ·rcases Mem.get_set _ _ _ _ _ hj with ⟨rfl, rfl⟩ | ⟨_, hj⟩
        ·rw [hph] at h2; cases h2
        ·exact hr.mem.apart i j b1 b2 p1 p2 hi hj hij hw h1 h2
     | some ph =>
      have hbr := hr.mem.blkAt hb hph
      obtain ⟨cs, el, fr, h1, h2, h3⟩ := hbr.cells hbnt
      obtain ⟨hbs, rfl, him, hcap, hsz⟩ := h3 hbw
      let ψ : Phi := ⟨φ.ad, fun k => if k = ph.blk then some (.cells cs el (0, 0)) else φ.imm k, φ.lo⟩
      have hle : φ.le ψ := ⟨⟨fun _ _ h => h, fun k o h => by
       show (if k = ph.blk then _ else φ.imm k) = some o
       rw [if_neg (by intro e; subst e; rw [him] at h; cases h)]; exact h⟩, fun k o h => by
       have h : (if k = ph.blk then _ else φ.imm k) = some o := h
       by_cases e : k = ph.blk
       ·exact .inr (by rw [hr.mem.lo, e]; exact hbs)
       ·rw [if_neg e] at h; exact .inl h, rfl⟩
      have hoff : ∀ (sl : SL) (ad : Addr), sl.id = s.id → sl.path = [] → addr φ ⟨sl.id, sl.path ++ [sl.start]⟩ = some ad → ad = ⟨ph.blk, ph.off + sl.start * size b.t, none⟩ := by
       intro sl ad hid hpp ha
       unfold addr at ha
       have h0 : offs b.t [] = some 0 := by cases b.t <;> rfl
       simp only [hid, hph, hpp, List.nil_append, hbr.t] at ha
       simp only [offs, h0, Option.map_some, Nat.add_zero, Option.some.injEq] at ha
       exact ha.symm
      refine ⟨ψ, hle, fun j v c hj => ?_, hr.n, ⟨fun i b' hi => ?_, fun i j b1 b2 p1 p2 hi hj hij hw g1 g2 => ?_, hr.mem.fresh, hr.mem.lo, hr.mem.base, fun k o hk => ?_⟩, hr.defers⟩
      ·rw [Tr.get_mapv, Option.map_eq_some_iff] at hj
       obtain ⟨⟨v0, c0⟩, hj, he⟩ := hj
       obtain ⟨q1, q2⟩ := hr.tm j v0 c0 hj
       unfold pubV at he
       simp only at he
       cases ho : ofBlk s.id v0 with
       | none => rw [ho] at he; cases he; exact ⟨fun hc => VR_mono hle (q1 hc), q2⟩
       | some s' =>
        rw [ho] at he
        cases he
        refine ⟨fun hc => ?_, q2⟩
        have hle' := hgo j v0 c s' hj ho
        obtain ⟨rfl, hid, hpp⟩ := ofBlk_eq ho
        have q1 := VR_slice.1 (q1 hc)
        rw [VR_vsl]
        unfold CR
        rcases q1 with ⟨q0, _, q1⟩ | ⟨q, cc, q1, q3, _, _, had⟩
        ·exact .inl ⟨by rw [length_sec]; exact q0, q1⟩
        ·refine .inr ⟨q, cc, by rw [q1, length_sec], by rw [length_sec]; exact q3, fun hne => ?_⟩
         rw [length_sec] at hne
         have := hoff s' q hid hpp (had (by omega) (VD.not (by omega)))
         subst this
         refine ⟨rfl, cs, el, (0, 0), by show (if ph.blk = ph.blk then _ else _) = _; rw [if_pos rfl], ?_⟩
         rw [CRs_iff, length_sec]
         intro i d hi
         have hlt := (List.getElem?_eq_some_iff.1 hi).1
         rw [length_flat, size] at hlt
         have hpos : 0 < size b.t := by
          rcases Nat.eq_zero_or_pos (size b.t) with h0 | h0
          ·rw [h0] at hlt; omega
          ·exact h0
         have hq : i / size b.t < s'.len := Nat.div_lt_of_lt_mul (by rw [Nat.mul_comm]; exact hlt)
         have hrr : i % size b.t < size b.t := Nat.mod_lt _ hpos
         have hkk : i = i / size b.t * size b.t + i % size b.t := by rw [Nat.mul_comm]; exact (Nat.div_add_mod i (size b.t)).symm
         rw [flat, hkk, get_flatMap_const _ (size b.t) (fun i => length_flat b.t _) _ _ _ hq hrr, getD_sec _ _ _ _ _ hq] at hi
         obtain ⟨v, hv, hvr⟩ := h2 ((s'.start + i / size b.t) * size b.t + i % size b.t) d (by
          rw [flat, get_flatMap_const _ (size b.t) (fun i => length_flat b.t _) _ _ _ (by omega) hrr]; exact hi)
         refine ⟨v, ?_, CR_mono hle hvr⟩
         rw [List.getElem?_drop, Array.getElem?_toList, ← hv]
         congr 1
         show ph.off + s'.start * size b.t + i = _
         rw [Nat.add_mul]; omega
      ·rcases Mem.get_set _ _ _ _ _ hi with ⟨rfl, rfl⟩ | ⟨hne, hi⟩
       ·exact .inr ⟨ph, hph, hbr.t, fun e => (by cases e), hbr.mp.same hle.1 rfl, fun _ => ⟨cs, el, (0, 0), h1, fun k d hk => let ⟨v, hv, hx⟩ := h2 k d hk; ⟨v, hv, CR_mono hle hx⟩, fun e => by cases e⟩⟩
       ·rcases hr.mem.blk i b' hi with g | ⟨ph', hp', hr'⟩
        ·exact .inl g
        ·refine .inr ⟨ph', hp', hr'.same hle (fun hw' h0 => ?_) rfl⟩
         show (if ph'.blk = ph.blk then _ else φ.imm ph'.blk) = none
         rw [if_neg (hr.mem.apart i s.id b' b ph' ph hi hb hne hw' hp' hph)]
         exact h0
      ·rcases Mem.get_set _ _ _ _ _ hi with ⟨rfl, rfl⟩ | ⟨_, hi⟩
       ·cases hw
       ·rcases Mem.get_set _ _ _ _ _ hj with ⟨rfl, rfl⟩ | ⟨_, hj⟩
        ·exact hr.mem.apart i s.id b1 b p1 p2 hi hb hij hw g1 g2
        ·exact hr.mem.apart i j b1 b2 p1 p2 hi hj hij hw g1 g2
      ·have hk : (if k = ph.blk then _ else φ.imm k) = some o := hk
       by_cases e : k = ph.blk
       ·rw [if_pos e] at hk; cases hk; rw [e]; exact h1
       ·rw [if_neg e] at hk; exact hr.mem.imm k o hk
   ·exact same
  ·exact same
 ·exact same
def pubAs (st : St) (x : Operand) (t : Option Ty) : St := match t with
 | some (.vsl e) => pubSt st x e
 | _ => st
theorem pubAs_mono {st : St} {x : Operand} {t : Option Ty} (h : (pubAs st x t).ok = true) : st.ok = true := by
 unfold pubAs at h
 split at h
 ·exact pubSt_mono h
 ·exact h
theorem pubAs_ok {base : Nat} {φ : Phi} {st : St} {a : Act} {w : World} (hr : Rel base φ st a w) {x : Operand} {t : Option Ty} (hok : (pubAs st x t).ok = true) : ∃ ψ, φ.le ψ ∧ Rel base ψ (pubAs st x t) a w := by
 unfold pubAs at hok ⊢
 split at hok
 ·exact pubSt_ok hr hok
 ·exact ⟨φ, Phi.le_refl _, hr⟩
def pubs : List (Operand × Option Ty) → St → St
 | [], st => st
 | (x, t) :: r, st => pubs r (pubAs st x t)
theorem pubs_mono : ∀ {l : List (Operand × Option Ty)} {st : St}, (pubs l st).ok = true → st.ok = true
 | [], _, h => h
 | (x, t) :: r, st, h => pubAs_mono (pubs_mono (l := r) h)
theorem pubs_ok {base : Nat} {a : Act} {w : World} : ∀ {l : List (Operand × Option Ty)} {φ : Phi} {st : St}, Rel base φ st a w → (pubs l st).ok = true → ∃ ψ, φ.le ψ ∧ Rel base ψ (pubs l st) a w
 | [], φ, _, hr, _ => ⟨φ, Phi.le_refl _, hr⟩
 | (x, t) :: r, φ, st, hr, h => by
  obtain ⟨ψ, h1, h2⟩ := pubAs_ok hr (pubs_mono (l := r) h)
  obtain ⟨χ, h3, h4⟩ := pubs_ok (l := r) h2 h
  exact ⟨χ, Phi.le_trans h1 h3, h4⟩
def wantsO (Θ : Tab) : Op → List (Operand × Option Ty)
 | .store t _ x => [(x, (Θ t).map (·.ty))]
 | .box t x => [(x, (Θ t).map (·.ty))]
 | .build t ps => match Θ t with | some ti => ps.toList.map fun p => (p.2, tyAt ti.ty [p.1]) | none => []
 | .buildSlice t _ ps => match Θ t with
  | some ti => match ti.sub with | [e] => ps.toList.map fun p => (p.2, (Θ e).map (·.ty)) | _ => []
  | none => []
 | .call ⟨.value _, args, ts⟩ => args.toList.zip (ts.toList.map fun t => (Θ t).map (·.ty))
 | _ => []
def pubO (Θ : Tab) (st : St) (o : Op) : St := pubs (wantsO Θ o) st
theorem pubO_mono {Θ : Tab} {st : St} {o : Op} (h : (pubO Θ st o).ok = true) : st.ok = true := pubs_mono h
theorem pubO_ok {Θ : Tab} {base : Nat} {φ : Phi} {st : St} {a : Act} {w : World} (hr : Rel base φ st a w) {o : Op} (hok : (pubO Θ st o).ok = true) : ∃ ψ, φ.le ψ ∧ Rel base ψ (pubO Θ st o) a w := pubs_ok hr hok
def pubL (Θ : Tab) : List Oper → St → St
 | [], st => st
 | o :: r, st => pubL Θ r (pubO Θ st o.op)
theorem pubL_mono {Θ : Tab} : ∀ {l : List Oper} {st : St}, (pubL Θ l st).ok = true → st.ok = true
 | [], _, h => h
 | o :: r, st, h => pubO_mono (pubL_mono (l := r) h)
theorem pubL_ok {Θ : Tab} {base : Nat} {a : Act} {w : World} : ∀ {l : List Oper} {φ : Phi} {st : St}, Rel base φ st a w → (pubL Θ l st).ok = true → ∃ ψ, φ.le ψ ∧ Rel base ψ (pubL Θ l st) a w
 | [], φ, _, hr, _ => ⟨φ, Phi.le_refl _, hr⟩
 | o :: r, φ, st, hr, h => by
  obtain ⟨ψ, h1, h2⟩ := pubO_ok (o := o.op) hr (pubL_mono (l := r) h)
  obtain ⟨χ, h3, h4⟩ := pubL_ok (l := r) h2 h
  exact ⟨χ, Phi.le_trans h1 h3, h4⟩
end Go.GX

namespace Go.GX
set_option linter.unusedSimpArgs false
set_option linter.unusedVariables false
set_option linter.unusedSectionVars false
open Go.RowKit (Below)
variable [DefL]
def putV (tm : TM) (n : Nat) (dst : Option Tmp) (v : Option V) (g : Bool) : Option TM :=
 match dst with
 | none => some tm
 | some d => bif Nat.blt d n then (match v with | some v => some (tm.set d (v, g)) | none => none) else none
theorem putV_ok {φ : Phi} {tm tm' : TM} {n : Nat} {dst : Option Tmp} {v : Option V} {g : Bool} {a : Act} {x : Value} (ht : TmR φ tm a.tmps) (hn : a.tmps.size = n) (h : putV tm n dst v g = some tm')
 (hv : ∀ u, v = some u → (g = true → VR φ u x) ∧ (g = false → x = undef)) : TmR φ tm' (a.put dst x).tmps ∧ (a.put dst x).tmps.size = n ∧ (a.put dst x).defers = a.defers := by
 unfold putV at h
 split at h
 ·cases h; exact ⟨ht, hn, rfl⟩
 ·rename_i d
  cases hd : Nat.blt d n <;> rw [hd] at h
  ·cases h
  ·have hd : d < n := Nat.le_of_ble_eq_true hd
   simp only [cond_true] at h
   split at h
   ·rename_i u
    cases h
    refine ⟨fun s v' c hs => ?_, by simp [Act.put, hn], rfl⟩
    rcases Tr.get_set hs with ⟨rfl, he⟩ | ⟨hne, hs⟩
    ·cases he
     have hz : (a.put (some s) x).tmps.getD s undef = x := by
      simp only [Act.put, Array.getD_eq_getD_getElem?]
      rw [Array.getElem?_setIfInBounds, if_pos rfl, if_pos (Nat.lt_of_lt_of_eq hd hn.symm)]
      rfl
     rw [hz]
     exact hv u rfl
    ·simp only [Act.put, Array.getD_eq_getD_getElem?, Array.getElem?_setIfInBounds]
     rw [if_neg (fun e => hne e.symm)]
     have := ht s v' c hs
     simpa only [Array.getD_eq_getD_getElem?] using this
   ·cases h
def dummy : V := ⟨.unit, ()⟩
def opRun1 (Θ : Tab) (K : Kn) (st : St) (o : Oper) : Option St :=
 match opv Θ st.tm st.mem o with
 | some (v, c) => (putV st.tm st.n o.dst (some v) true).map fun tm => ⟨tm, st.n, st.mem, st.nxt, c && st.ok⟩
 | none => match opx Θ K st.tm st.mem st.nxt o with
  | some r => (putV st.tm st.n o.dst r.v true).map fun tm => ⟨tm, st.n, r.mem, r.nxt, r.ok && st.ok⟩
  | none => none
def opRun (Θ : Tab) (K : Kn) (st : St) (o : Oper) : Option St := opRun1 Θ K (pubO Θ st o.op) o
def guardV (tm : TM) (ops : List Oper) (j : Nat) (want : Bool) : Option Bool :=
 match ops[j]? with
 | some o => match o.dst with
  | some d => match tm.get d with
   | some (⟨.bool, b⟩, c) => some (c && (bif want then b else !b))
   | some (_, false) => some false
   | _ => none
  | none => none
 | none => none
def opS (sym : Bool) (Θ : Tab) (K : Kn) (ops : List Oper) (st : St) (o : Oper) : Option St :=
 match o.guard with
 | none => opRun Θ K st o
 | some (j, want) => match guardV st.tm ops j want with
  | none => none
  | some g => match sym with
   | true => match tameX Θ K st.tm st.mem st.nxt o with
    | some (v, c) => (putV st.tm st.n o.dst (some v) g).map fun tm => ⟨tm, st.n, st.mem, st.nxt, (c || !g) && st.ok⟩
    | none => none
   | false => bif g then opRun Θ K st o else (putV st.tm st.n o.dst (some dummy) false).map fun tm => ⟨tm, st.n, st.mem, st.nxt, st.ok⟩
def regionX (sym : Bool) (Θ : Tab) (K : Kn) (ops : List Oper) : List Oper → St → Option St
 | [], st => some st
 | o :: r, st => match opS sym Θ K ops st o with | some st' => regionX sym Θ K ops r st' | none => none
theorem opRun1_mono {Θ : Tab} {K : Kn} {st st' : St} {o : Oper} (h : opRun1 Θ K st o = some st') (hok : st'.ok = true) : st.ok = true := by
 unfold opRun1 at h
 split at h
 ·simp only [Option.map_eq_some_iff] at h
  obtain ⟨tm, _, rfl⟩ := h
  exact (and_split hok).2
 ·split at h
  ·simp only [Option.map_eq_some_iff] at h
   obtain ⟨tm, _, rfl⟩ := h
   exact (and_split hok).2
  ·cases h
theorem opRun_mono {Θ : Tab} {K : Kn} {st st' : St} {o : Oper} (h : opRun Θ K st o = some st') (hok : st'.ok = true) : st.ok = true := pubO_mono (opRun1_mono h hok)
theorem opS_mono {sym : Bool} {Θ : Tab} {K : Kn} {ops : List Oper} {st st' : St} {o : Oper} (h : opS sym Θ K ops st o = some st') (hok : st'.ok = true) : st.ok = true := by
 unfold opS at h
 split at h
 ·exact opRun_mono h hok
 ·split at h
  ·cases h
  ·rename_i g _
   split at h
   ·split at h
    ·simp only [Option.map_eq_some_iff] at h
     obtain ⟨tm, _, rfl⟩ := h
     exact (and_split hok).2
    ·cases h
   ·cases g
    ·simp only [cond_false, Option.map_eq_some_iff] at h
     obtain ⟨tm, _, rfl⟩ := h
     exact hok
    ·exact opRun_mono h hok
theorem regionX_mono {sym : Bool} {Θ : Tab} {K : Kn} {ops : List Oper} : ∀ {l : List Oper} {st st' : St}, regionX sym Θ K ops l st = some st' → st'.ok = true → st.ok = true
 | [], st, st', h, hok => by cases h; exact hok
 | o :: r, st, st', h, hok => by
  simp only [regionX] at h
  split at h
  ·rename_i st1 h1
   exact opS_mono h1 (regionX_mono h hok)
  ·cases h
def StepOK (P : Program) (base : Nat) (φ : Phi) (a : Act) (w : World) (o : Oper) (st' : St) : Prop :=
 ∀ (next : Act → World → Prop) (Q : Exit → Act → World → Prop), (∀ ψ a' w', φ.le ψ → Rel base ψ st' a' w' → Below base w w' → next a' w') → o.wp P a w next Q
theorem opRun1_ok {P : Program} {Θ : Tab} {K : Kn} (hΘ : TabOK P Θ) (hK : KOK P K) {base : Nat} {φ : Phi} {st st' : St} {a : Act} {w : World} {o : Oper} (hr : Rel base φ st a w) (h : opRun1 Θ K st o = some st') (hok : st'.ok = true) : StepOK P base φ a w o st' := by
 unfold opRun1 at h
 split at h
 ·rename_i v c hv
  simp only [Option.map_eq_some_iff] at h
  obtain ⟨tm, ht, rfl⟩ := h
  obtain ⟨hc, _⟩ := and_split hok
  subst hc
  obtain ⟨x, hx, hxr⟩ := opv_ok hΘ hr.mem hr.tm hv
  intro next Q hn
  unfold Oper.wp
  rw [hx]
  obtain ⟨h1, h2, h3⟩ := putV_ok hr.tm hr.n ht (x := x) (fun u hu => by cases hu; exact ⟨fun _ => hxr, fun e => (by cases e)⟩)
  exact hn φ _ w (Phi.le_refl _) ⟨h1, h2, hr.mem, h3.trans hr.defers⟩ (Below.refl _ _)
 ·split at h
  ·rename_i r hx
   simp only [Option.map_eq_some_iff] at h
   obtain ⟨tm, ht, rfl⟩ := h
   obtain ⟨hc, _⟩ := and_split hok
   have hA := opx_ok hΘ hK hr.mem hr.tm hx hc
   intro next Q hn
   refine hA next Q (fun ψ w' x h1 h2 h3 h4 _ => ?_)
   obtain ⟨h5, h6, h7⟩ := putV_ok (TmR_mono h1 hr.tm) hr.n ht (x := x) (fun u hu => ⟨fun _ => h4 u hu, fun e => (by cases e)⟩)
   exact hn ψ _ w' h1 ⟨h5, h6, h2, h7.trans hr.defers⟩ h3
  ·cases h
theorem opRun_ok {P : Program} {Θ : Tab} {K : Kn} (hΘ : TabOK P Θ) (hK : KOK P K) {base : Nat} {φ : Phi} {st st' : St} {a : Act} {w : World} {o : Oper} (hr : Rel base φ st a w) (h : opRun Θ K st o = some st') (hok : st'.ok = true) : StepOK P base φ a w o st' := by
 obtain ⟨ψ, hle, hr2⟩ := pubO_ok hr (opRun1_mono h hok)
 intro next Q hn
 exact opRun1_ok hΘ hK hr2 h hok next Q (fun χ a' w' h1 h2 h3 => hn χ a' w' (Phi.le_trans hle h1) h2 h3)
theorem guard_ok {φ : Phi} {tm : TM} {ops : Array Oper} {a : Act} (ht : TmR φ tm a.tmps) {o : Oper} {j : Nat} {want g : Bool} (ho : o.guard = some (j, want)) (h : guardV tm ops.toList j want = some g) : Region.wanted o (yielded ops a.tmps) = g := by
 unfold guardV at h
 split at h
 ·rename_i o' hj
  split at h
  ·rename_i d hd
   have hj' : ops[j]? = some o' := by simpa using hj
   have hund : ∀ s, a.tmps.getD s undef = undef → (match a.tmps[s]? with | some (.bool b) => some b | _ => (none : Option Bool)) = none := by
    intro s hs
    rw [Array.getD_eq_getD_getElem?] at hs
    cases he : a.tmps[s]? with
    | none => rfl
    | some x => rw [he] at hs; simp at hs; subst hs; rfl
   have hy : yielded ops a.tmps j = match a.tmps[d]? with | some (.bool b) => some b | _ => none := by
    simp only [yielded, hj', Option.bind_some, hd]
    rfl
   split at h
   ·rename_i b c hs
    simp only [Option.some.injEq] at h
    subst h
    simp only [Region.wanted, ho, hy]
    cases c
    ·have := (ht d _ _ hs).2 rfl
     rw [hund d this]; simp
    ·have hb := VR_bool.1 ((ht d _ _ hs).1 rfl)
     rw [Array.getD_eq_getD_getElem?] at hb
     cases he : a.tmps[d]? with
     | none => rw [he] at hb; simp [undef] at hb
     | some x =>
      rw [he] at hb; simp at hb; subst hb
      cases b <;> cases want <;> rfl
   ·rename_i v hns hs
    simp only [Option.some.injEq] at h
    subst h
    simp only [Region.wanted, ho, hy]
    rw [hund d ((ht d _ _ hs).2 rfl)]; simp
   ·cases h
  ·cases h
 ·cases h
theorem regionX_app {P : Program} {Θ : Tab} {K : Kn} (hΘ : TabOK P Θ) (hK : KOK P K) {sym : Bool} {ops : Array Oper} {base : Nat} {Q : Exit → Act → World → Prop} {w0 : World} {st' : St} {φ0 : Phi} {rest : List Oper}
 (hQ : ∀ ψ a' w', φ0.le ψ → Rel base ψ st' a' w' → Below base w0 w' → wpList P ops Q rest a' w') :
 ∀ {l : List Oper} {st : St} {φ : Phi} {a : Act} {w : World}, φ0.le φ → Rel base φ st a w → Below base w0 w → regionX sym Θ K ops.toList l st = some st' → st'.ok = true → wpList P ops Q (l ++ rest) a w
 | [], st, φ, a, w, h0, hr, hb, h, hok => by cases h; exact hQ φ a w h0 hr hb
 | o :: r, st, φ, a, w, h0, hr, hb, h, hok => by
  simp only [regionX] at h
  split at h
  ·rename_i st1 h1
   have hok1 := regionX_mono h hok
   unfold opS at h1
   have go : StepOK P base φ a w o st1 → o.wp P a w (wpList P ops Q (r ++ rest)) Q := fun hs => hs _ _ (fun ψ a' w' hle hr' hb' => regionX_app hΘ hK hQ (Phi.le_trans h0 hle) hr' (hb.trans hb') h hok)
   split at h1
   ·rename_i hg
    rw [List.cons_append, wpList, if_pos (by simp [Region.wanted, hg])]
    exact .inl (go (opRun_ok hΘ hK hr h1 hok1))
   ·rename_i j want hg
    split at h1
    ·cases h1
    ·rename_i g hgv
     have hw := guard_ok hr.tm hg hgv
     rw [List.cons_append, wpList, hw]
     have skip : ∀ tm', putV st.tm st.n o.dst (some dummy) false = some tm' ∨ (∃ v, putV st.tm st.n o.dst (some v) false = some tm') → Rel base φ ⟨tm', st.n, st.mem, st.nxt, true⟩ (a.put o.dst undef) w := by
      intro tm' ht
      have key : ∀ v, putV st.tm st.n o.dst (some v) false = some tm' → Rel base φ ⟨tm', st.n, st.mem, st.nxt, true⟩ (a.put o.dst undef) w := fun v ht => by
       obtain ⟨h1, h2, h3⟩ := putV_ok hr.tm hr.n ht (x := undef) (fun u hu => ⟨fun e => (by cases e), fun _ => rfl⟩)
       exact ⟨h1, h2, hr.mem, h3.trans hr.defers⟩
      rcases ht with ht | ⟨v, ht⟩
      ·exact key _ ht
      ·exact key v ht
     split at h1
     ·split at h1
      ·rename_i v c hv
       simp only [Option.map_eq_some_iff] at h1
       obtain ⟨tm, ht, rfl⟩ := h1
       obtain ⟨hc, hok2⟩ := and_split hok1
       cases g
       ·simp only [Bool.false_eq_true, if_false]
        have hr' := skip tm (.inr ⟨v, ht⟩)
        exact regionX_app hΘ hK hQ h0 (st := ⟨tm, st.n, st.mem, st.nxt, (c || !false) && st.ok⟩) ⟨hr'.tm, hr'.n, hr'.mem, hr'.defers⟩ hb h hok
       ·simp only [if_true]
        have hc : c = true := by simpa using hc
        subst hc
        refine .inl (go ?_)
        intro next Q' hn
        refine tameX_ok hΘ hK hr.mem hr.tm hv next Q' (fun w' x hbw hxr => ?_)
        obtain ⟨h1, h2, h3⟩ := putV_ok hr.tm hr.n ht (x := x) (fun u hu => by cases hu; exact ⟨fun _ => hxr, fun e => (by cases e)⟩)
        exact hn φ _ w' (Phi.le_refl _) ⟨h1, h2, hr.mem.same (Below.same hbw (Nat.le_refl _)) (Nat.le_refl _), h3.trans hr.defers⟩ (hbw.mono hr.mem.base)
      ·cases h1
     ·cases g
      ·simp only [cond_false, Option.map_eq_some_iff] at h1
       obtain ⟨tm, ht, rfl⟩ := h1
       simp only [Bool.false_eq_true, if_false]
       have hr' := skip tm (.inl ht)
       exact regionX_app hΘ hK hQ h0 (st := ⟨tm, st.n, st.mem, st.nxt, st.ok⟩) ⟨hr'.tm, hr'.n, hr'.mem, hr'.defers⟩ hb h hok
      ·simp only [if_true]
       exact .inl (go (opRun_ok hΘ hK hr h1 hok1))
  ·cases h
theorem regionX_ok {P : Program} {Θ : Tab} {K : Kn} (hΘ : TabOK P Θ) (hK : KOK P K) {sym : Bool} {ops : Array Oper} {base : Nat} {Q : Exit → Act → World → Prop} {w0 : World} {st' : St} {φ0 : Phi}
 (hQ : ∀ ψ a' w', φ0.le ψ → Rel base ψ st' a' w' → Below base w0 w' → Q .normal a' w')
 {l : List Oper} {st : St} {φ : Phi} {a : Act} {w : World} (h0 : φ0.le φ) (hr : Rel base φ st a w) (hb : Below base w0 w) (h : regionX sym Θ K ops.toList l st = some st') (hok : st'.ok = true) : wpList P ops Q l a w := by
 have := regionX_app (rest := []) hΘ hK (Q := Q) (fun ψ a' w' h1 h2 h3 => hQ ψ a' w' h1 h2 h3) h0 hr hb h hok
 rwa [List.append_nil] at this
end Go.GX

namespace Go.GX
set_option linter.unusedSimpArgs false
set_option linter.unusedVariables false
set_option linter.unusedSectionVars false
open Go.RowKit (Below)
theorem Tr.get_put_eq {α : Type} : ∀ (f : Nat) (t : Tr α) (n : Nat) (x : α) (m : Nat), n + 1 < 2 ^ f → (put f t n x).get m = if m = n then some x else t.get m
 | 0, _, _, _, _, h => by simp at h
 | f + 1, t, n, x, m, h => by
  have hp : 2 ^ (f + 1) = 2 * 2 ^ f := by rw [Nat.pow_succ, Nat.mul_comm]
  rcases Nat.eq_zero_or_pos n with hn | hn
  ·subst hn
   cases t with
   | lf =>
    simp only [put, Nat.beq, cond_true, get]
    rcases Nat.eq_zero_or_pos m with hm | hm
    ·subst hm; simp
    ·rw [beq_pos hm, if_neg (by omega)]
     simp [get]
   | nd l v r =>
    simp only [put, Nat.beq, cond_true, get]
    rcases Nat.eq_zero_or_pos m with hm | hm
    ·subst hm; simp
    ·rw [beq_pos hm, if_neg (by omega)]; rfl
  ·by_cases ho : n % 2 = 1
   ·have hlt : n / 2 + 1 < 2 ^ f := by omega
    cases t with
    | lf =>
     simp only [put, beq_pos hn, beq_odd ho, cond_true, cond_false, get]
     rcases Nat.eq_zero_or_pos m with hm | hm
     ·subst hm; rw [if_neg (by omega)]; simp
     ·rw [beq_pos hm]
      simp only [cond_false]
      by_cases hm2 : m % 2 = 1
      ·rw [beq_odd hm2]
       simp only [cond_true]
       rw [Tr.get_put_eq f .lf (Nat.div n 2) x _ hlt]
       by_cases e : m = n
       ·subst e; simp
       ·rw [if_neg e, if_neg (by show ¬ m / 2 = n / 2; omega)]; rfl
      ·rw [beq_even hm2, if_neg (by intro e; exact hm2 (e ▸ ho))]
       simp [get]
    | nd l v r =>
     simp only [put, beq_pos hn, beq_odd ho, cond_true, cond_false, get]
     rcases Nat.eq_zero_or_pos m with hm | hm
     ·subst hm; rw [if_neg (by omega)]; rfl
     ·rw [beq_pos hm]
      simp only [cond_false]
      by_cases hm2 : m % 2 = 1
      ·rw [beq_odd hm2]
       simp only [cond_true]
       rw [Tr.get_put_eq f l (Nat.div n 2) x _ hlt]
       by_cases e : m = n
       ·subst e; simp
       ·rw [if_neg e, if_neg (by show ¬ m / 2 = n / 2; omega)]
      ·rw [beq_even hm2, if_neg (by intro e; exact hm2 (e ▸ ho))]; rfl
   ·have hlt : (n / 2 - 1) + 1 < 2 ^ f := by omega
    cases t with
    | lf =>
     simp only [put, beq_pos hn, beq_even ho, cond_true, cond_false, get]
     rcases Nat.eq_zero_or_pos m with hm | hm
     ·subst hm; rw [if_neg (by omega)]; simp
     ·rw [beq_pos hm]
      simp only [cond_false]
      by_cases hm2 : m % 2 = 1
      ·rw [beq_odd hm2, if_neg (by intro e; exact ho (e ▸ hm2))]
       simp [get]
      ·rw [beq_even hm2]
       simp only [cond_false]
       rw [Tr.get_put_eq f .lf (Nat.sub (Nat.div n 2) 1) x _ hlt]
       by_cases e : m = n
       ·subst e; simp
       ·rw [if_neg e, if_neg (by show ¬ m / 2 - 1 = n / 2 - 1; omega)]; rfl
    | nd l v r =>
     simp only [put, beq_pos hn, beq_even ho, cond_true, cond_false, get]
     rcases Nat.eq_zero_or_pos m with hm | hm
     ·subst hm; rw [if_neg (by omega)]; rfl
     ·rw [beq_pos hm]
      simp only [cond_false]
      by_cases hm2 : m % 2 = 1
      ·rw [beq_odd hm2, if_neg (by intro e; exact ho (e ▸ hm2))]; rfl
      ·rw [beq_even hm2]
       simp only [cond_false]
       rw [Tr.get_put_eq f r (Nat.sub (Nat.div n 2) 1) x _ hlt]
       by_cases e : m = n
       ·subst e; simp
       ·rw [if_neg e, if_neg (by show ¬ m / 2 - 1 = n / 2 - 1; omega)]
def entry (sym : Bool) (Θ : Tab) (K : Kn) (ops : List Oper) (tm : TM) (mem : Mem) (nxt : Nat) (o : Oper) : Option (V × Bool × Bool) :=
 match o.guard with
 | none => (tameX Θ K tm mem nxt o).map fun r => (r.1, true, r.2)
 | some (j, want) => match guardV tm ops j want with
  | none => none
  | some g => match sym with
   | true => (tameX Θ K tm mem nxt o).map fun r => (r.1, g, r.2 || !g)
   | false => bif g then (tameX Θ K tm mem nxt o).map fun r => (r.1, true, r.2) else some (dummy, false, true)
def drawL (sym : Bool) (Θ : Tab) (K : Kn) (ops : List Oper) (mem : Mem) (nxt : Nat) : List Oper → TM → Bool → Option (TM × Bool)
 | [], tm, ok => some (tm, ok)
 | o :: r, tm, ok => match entry sym Θ K ops tm mem nxt o, o.dst with
  | some (v, g, c), some d => drawL sym Θ K ops mem nxt r (tm.set d (v, g)) (c && ok)
  | _, _ => none
def edgeTo (o : Oper) (i : Nat) : Bool := o.after.toList.any fun e => Nat.beq e.on i && Region.binds .any e
def opdTmps (o : Oper) : List Nat := o.op.operands.toList.filterMap fun | .tmp t => some t | _ => none
def depsOK : List Oper → List (Nat × Oper) → (k n : Nat) → Bool
 | [], _, _, _ => true
 | o :: r, bef, k, n =>
  ((o.after.toList.all fun e => !Region.binds .any e || Nat.blt e.on k) &&
   ((match o.dst with | some d => Nat.blt d n && bef.all fun p => !(p.2.dst == some d) | none => false) &&
    ((bef.all fun p => match p.2.dst with | some d => !((opdTmps o).contains d) || edgeTo o p.1 | none => true) &&
     ((r.all fun q => match q.dst with | some d => !((opdTmps o).contains d) | none => true) &&
      ((match o.dst with | some d => !((opdTmps o).contains d) | none => true) &&
       (match o.guard with | some (j, _) => edgeTo o j | none => true)))))) &&
   depsOK r ((k, o) :: bef) (k + 1) n
def drawX (sym : Bool) (Θ : Tab) (K : Kn) (ops : List Oper) (st : St) : Option St :=
 bif Nat.ble st.n 1000000 && depsOK ops [] 0 st.n then
  (drawL sym Θ K ops st.mem st.nxt ops st.tm true).map fun r => ⟨r.1, st.n, st.mem, st.nxt, r.2 && st.ok⟩
 else none
structure Deps (ops : List Oper) (n : Nat) : Prop where
 dst : ∀ (j : Nat) o, ops[j]? = some o → ∃ d, o.dst = some d ∧ d < n
 uniq : ∀ (i j : Nat) o o' d, ops[i]? = some o → ops[j]? = some o' → o.dst = some d → o'.dst = some d → i = j
 low : ∀ (j : Nat) o, ops[j]? = some o → ∀ e ∈ o.after, Region.binds .any e = true → e.on < j
 data : ∀ (i j : Nat) o o' d, ops[i]? = some o → ops[j]? = some o' → o.dst = some d → d ∈ opdTmps o' → i < j ∧ edgeTo o' i = true
 guard : ∀ (j : Nat) o i b, ops[j]? = some o → o.guard = some (i, b) → edgeTo o i = true
theorem depsOK_all : ∀ {l : List Oper} {bef : List (Nat × Oper)} {k n : Nat}, depsOK l bef k n = true →
 ∀ (j : Nat) o, l[j]? = some o →
  (∀ e ∈ o.after, Region.binds .any e = true → e.on < k + j) ∧ (∃ d, o.dst = some d ∧ d < n ∧ d ∉ opdTmps o ∧ (∀ p ∈ bef, p.2.dst ≠ some d) ∧ (∀ (i : Nat) o', i < j → l[i]? = some o' → o'.dst ≠ some d)) ∧
  (∀ p ∈ bef, ∀ d, p.2.dst = some d → d ∈ opdTmps o → edgeTo o p.1 = true) ∧ (∀ (i : Nat) o' d, i < j → l[i]? = some o' → o'.dst = some d → d ∈ opdTmps o → edgeTo o (k + i) = true) ∧
  (∀ (i : Nat) o' d, j < i → l[i]? = some o' → o'.dst = some d → d ∉ opdTmps o) ∧ (∀ i b, o.guard = some (i, b) → edgeTo o i = true)
 | [], _, _, _, _, j, o, h => by simp at h
 | o :: r, bef, k, n, h, j, o', hj => by
  simp only [depsOK, Bool.and_eq_true] at h
  obtain ⟨⟨h1, h2, h3, h4, h5, h6⟩, h7⟩ := h
  cases j with
  | zero =>
   simp at hj; subst hj
   cases hd : o.dst with
   | none => rw [hd] at h2; cases h2
   | some d =>
    rw [hd] at h2 h5
    obtain ⟨h2a, h2b⟩ := and_split h2
    refine ⟨fun e he hbd => ?_, ⟨d, rfl, Nat.le_of_ble_eq_true h2a, by simpa using h5, fun p hp e => ?_, fun i o' hi => by omega⟩, fun p hp d' hd' hmem => ?_, fun i o' d' hi => by omega, fun i o' d' hi hgi hd' => ?_, fun i b hg => ?_⟩
    ·have hh := List.all_eq_true.1 h1 e (by simpa using he)
     rw [hbd] at hh
     exact Nat.le_of_ble_eq_true hh
    ·have := List.all_eq_true.1 h2b p hp
     rw [e] at this; simp at this
    ·have := List.all_eq_true.1 h3 p hp
     rw [hd'] at this
     simp only [Bool.or_eq_true, Bool.not_eq_true', List.contains_eq_mem, decide_eq_false_iff_not] at this
     exact this.resolve_left (fun hh => hh hmem)
    ·cases i with
     | zero => omega
     | succ i =>
      have := List.all_eq_true.1 h4 o' (List.mem_of_getElem? (by simpa using hgi))
      rw [hd'] at this
      simpa using this
    ·rw [hg] at h6; exact h6
  | succ j =>
   have hj' : r[j]? = some o' := by simpa using hj
   obtain ⟨g1, ⟨d, g2, g3, g4, g5, g6⟩, g7, g8, g9, g10⟩ := depsOK_all h7 j o' hj'
   refine ⟨fun e he hbd => by have := g1 e he hbd; omega, ⟨d, g2, g3, g4, fun p hp => g5 p (by simp [hp]), fun i o2 hi hgi => ?_⟩, fun p hp => g7 p (by simp [hp]), fun i o2 d2 hi hgi hd2 hmem => ?_, fun i o2 d2 hi hgi => ?_, g10⟩
   ·cases i with
    | zero => simp at hgi; subst hgi; exact g5 (k, o) (by simp)
    | succ i => exact g6 i o2 (by omega) (by simpa using hgi)
   ·cases i with
    | zero => simp at hgi; subst hgi; exact g7 (k, o) (by simp) d2 hd2 hmem
    | succ i => have := g8 i o2 d2 (by omega) (by simpa using hgi) hd2 hmem; rwa [show k + (i + 1) = k + 1 + i from by omega]
   ·cases i with
    | zero => omega
    | succ i => exact g9 i o2 d2 (by omega) (by simpa using hgi)
theorem Deps.of {ops : List Oper} {n : Nat} (h : depsOK ops [] 0 n = true) : Deps ops n := by
 have A := depsOK_all h
 refine ⟨fun j o hj => ?_, fun i j o o' d hi hj hd hd' => ?_, fun j o hj e he hbd => ?_, fun i j o o' d hi hj hd hm => ?_, fun j o i b hj hg => (A j o hj).2.2.2.2.2 i b hg⟩
 ·obtain ⟨_, ⟨d, h1, h2, _⟩, _⟩ := A j o hj; exact ⟨d, h1, h2⟩
 ·obtain ⟨_, ⟨d1, h1, _, _, _, h2⟩, _⟩ := A i o hi
  obtain ⟨_, ⟨d2, h3, _, _, _, h4⟩, _⟩ := A j o' hj
  rw [hd] at h1; rw [hd'] at h3; cases h1; cases h3
  rcases Nat.lt_trichotomy i j with hlt | heq | hgt
  ·exact absurd hd (h4 i o hlt hi)
  ·exact heq
  ·exact absurd hd' (h2 j o' hgt hj)
 ·have := (A j o hj).1 e he hbd; omega
 ·obtain ⟨_, ⟨d1, h1, _, h5, _⟩, _, h2, h3, _⟩ := A j o' hj
  rcases Nat.lt_trichotomy i j with hlt | heq | hgt
  ·exact ⟨hlt, by have := h2 i o d hlt hi hd hm; simpa using this⟩
  ·subst heq
   rw [hi] at hj; cases hj
   rw [hd] at h1; cases h1
   exact absurd hm h5
  ·exact absurd hm (h3 i o d hgt hi hd)
theorem drawL_all {sym : Bool} {Θ : Tab} {K : Kn} {ops : List Oper} {mem : Mem} {nxt : Nat} : ∀ {l : List Oper} {tm tmN : TM} {ok okN : Bool}, drawL sym Θ K ops mem nxt l tm ok = some (tmN, okN) → okN = true → (∀ (j : Nat) o d, l[j]? = some o → o.dst = some d → d < 1000000) →
 ok = true ∧ (∀ s, (∀ (j : Nat) o, l[j]? = some o → o.dst ≠ some s) → tmN.get s = tm.get s) ∧
 ∀ (j : Nat) o, l[j]? = some o → ∃ tmj v g d, entry sym Θ K ops tmj mem nxt o = some (v, g, true) ∧ o.dst = some d ∧ ((∀ (i : Nat) o', j < i → l[i]? = some o' → o'.dst ≠ some d) → tmN.get d = some (v, g)) ∧
  (∀ s, (∀ (i : Nat) o', j ≤ i → l[i]? = some o' → o'.dst ≠ some s) → tmN.get s = tmj.get s)
 | [], tm, tmN, ok, okN, h, hok, _ => by
  simp [drawL] at h
  obtain ⟨rfl, rfl⟩ := h
  exact ⟨hok, fun s _ => rfl, fun j o hj => by simp at hj⟩
 | o :: r, tm, tmN, ok, okN, h, hok, hb => by
  simp only [drawL] at h
  split at h
  ·rename_i v g c d he hd
   obtain ⟨h1, h2, h3⟩ := drawL_all h hok (fun j o' d' hj => hb (j + 1) o' d' (by simpa using hj))
   obtain ⟨h1b, h1a⟩ := and_split h1
   subst h1b
   have hset : ∀ m, (tm.set d (v, g)).get m = if m = d then some (v, g) else tm.get m := fun m => Tr.get_put_eq 40 tm d (v, g) m (by have h0 : d < 1000000 := hb 0 o d rfl hd; exact Nat.lt_of_lt_of_le (Nat.succ_lt_succ h0) (by decide))
   refine ⟨h1a, fun s hs => ?_, fun j o' hj => ?_⟩
   ·rw [h2 s (fun j o' hj => hs (j + 1) o' (by simpa using hj)), hset, if_neg (fun (e : s = d) => hs 0 o rfl (by rw [e]; exact hd))]
   ·cases j with
    | zero =>
     simp at hj; subst hj
     refine ⟨tm, v, g, d, he, hd, fun hlast => ?_, fun s hs => ?_⟩
     ·rw [h2 d (fun j o' hj => hlast (j + 1) o' (by omega) (by simpa using hj)), hset, if_pos rfl]
     ·rw [h2 s (fun j o' hj => hs (j + 1) o' (by omega) (by simpa using hj)), hset, if_neg (fun (e : s = d) => hs 0 o (Nat.le_refl _) rfl (by rw [e]; exact hd))]
    | succ j =>
     obtain ⟨tmj, v', g', d', k1, k2, k3, k4⟩ := h3 j o' (by simpa using hj)
     refine ⟨tmj, v', g', d', k1, k2, fun hlast => k3 (fun i o2 hi hgi => hlast (i + 1) o2 (by omega) (by simpa using hgi)), fun s hs => k4 s (fun i o2 hi hgi => hs (i + 1) o2 (by omega) (by simpa using hgi))⟩
  ·cases h
end Go.GX

namespace Go.GX
set_option linter.unusedSimpArgs false
set_option linter.unusedVariables false
set_option linter.unusedSectionVars false
open Go.RowKit (Below)
variable [DefL]
theorem edgeTo_mem {o : Oper} {i : Nat} (h : edgeTo o i = true) : ∃ e ∈ o.after, e.on = i ∧ Region.binds .any e = true := by
 unfold edgeTo at h
 obtain ⟨e, he, h⟩ := List.any_eq_true.1 h
 simp only [Bool.and_eq_true] at h
 exact ⟨e, by simpa using he, Nat.eq_of_beq_eq_true h.1, h.2⟩
structure Drawn (base : Nat) (φ : Phi) (ops : Array Oper) (tmN : TM) (n : Nat) (mem : Mem) (nxt : Nat) (w0 : World) (listed : Array Bool) (a : Act) (w : World) : Prop where
 size : listed.size = ops.size
 tm : ∀ s v c, tmN.get s = some (v, c) → (∀ (j : Nat) o, ops[j]? = some o → o.dst = some s → listed.getD j false = true) → (c = true → VR φ v (a.tmps.getD s undef)) ∧ (c = false → a.tmps.getD s undef = undef)
 n : a.tmps.size = n
 defers : a.defers = DefL.ds
 mem : MemRel base φ mem nxt w
 below : Below base w0 w
def cntF (l : List Bool) : Nat := (l.filter fun b => !b).length
theorem cntF_set : ∀ {l : List Bool} {i : Nat}, l[i]? = some false → cntF (l.set i true) + 1 = cntF l
 | [], i, h => by simp at h
 | b :: l, 0, h => by simp at h; subst h; simp [cntF]
 | b :: l, i + 1, h => by
  have := cntF_set (l := l) (i := i) (by simpa using h)
  cases b <;> simp [cntF] at this ⊢ <;> omega
theorem cntF_zero : ∀ {l : List Bool}, cntF l = 0 → ∀ (i : Nat) b, l[i]? = some b → b = true
 | [], _, i, b, h => by simp at h
 | b :: l, hc, 0, b', h => by simp at h; subst h; cases b <;> simp [cntF] at hc ⊢
 | b :: l, hc, i + 1, b', h => cntF_zero (l := l) (by cases b <;> simp [cntF] at hc ⊢; exact hc) i b' (by simpa using h)
theorem rd_keep {tm tm' : TM} {x : Operand} (h : ∀ t, x = .tmp t → tm.get t = tm'.get t) : rd tm x = rd tm' x := by
 cases x <;> first | rfl | exact h _ rfl
section
variable {P : Program} {Θ : Tab} {K : Kn} (hΘ : TabOK P Θ) (hK : KOK P K) {sym : Bool} {ops : Array Oper} {base : Nat} {φ : Phi} {tmN tm0 : TM} {n : Nat} {mem : Mem} {nxt : Nat} {okN : Bool}
variable (hD : Deps ops.toList n) (hL : drawL sym Θ K ops.toList mem nxt ops.toList tm0 true = some (tmN, okN)) (hok : okN = true) (hn : n ≤ 1000000)
include hΘ hK hD hL hok hn
theorem drawn_any {Q : Exit → Act → World → Prop} {w0 : World} (hQ : ∀ a w, TmR φ tmN a.tmps → a.tmps.size = n → a.defers = DefL.ds → MemRel base φ mem nxt w → Below base w0 w → Q .normal a w) :
 ∀ (fuel : Nat) (listed : Array Bool) (a : Act) (w : World), Drawn base φ ops tmN n mem nxt w0 listed a w → cntF listed.toList ≤ fuel → wpAny P .any ops Q fuel listed a w := by
 have hall := drawL_all hL hok (fun j o d hj hd => by
  obtain ⟨d', h1, h2⟩ := hD.dst j o hj
  rw [hd] at h1; cases h1
  exact Nat.lt_of_lt_of_le h2 hn)
 have done : ∀ (listed : Array Bool) (a : Act) (w : World), Drawn base φ ops tmN n mem nxt w0 listed a w → Region.ready .any ops listed = [] → Q .normal a w := by
  intro listed a w hI hr
  have hl : ∀ j, j < ops.size → listed.getD j false = true := by
   intro j
   induction j using Nat.strongRecOn with
   | _ j ih =>
    intro hj
    cases hb : listed.getD j true with
    | true =>
     have hjl : j < listed.size := by rw [hI.size]; exact hj
     simp [hjl] at hb ⊢
     exact hb
    | false =>
     exfalso
     have : j ∈ Region.ready .any ops listed := by
      rw [mem_ready]
      refine ⟨hb, _, Array.getElem?_eq_getElem hj, fun e he hbd => ?_⟩
      have hlt := hD.low j _ (by rw [Array.getElem?_toList]; exact Array.getElem?_eq_getElem hj) e he hbd
      exact ih e.on hlt (by omega)
     rw [hr] at this; cases this
  refine hQ a w (fun s v c hs => hI.tm s v c hs (fun j o hj _ => hl j ?_)) hI.n hI.defers hI.mem hI.below
  exact (Array.getElem?_eq_some_iff.1 hj).1
 intro fuel
 induction fuel with
 | zero =>
  intro listed a w hI hc
  have hr : Region.ready .any ops listed = [] := by
   rw [List.eq_nil_iff_forall_not_mem]
   intro j hj
   rw [mem_ready] at hj
   obtain ⟨hb, o, ho, _⟩ := hj
   have hjl : j < listed.size := by rw [hI.size]; exact (Array.getElem?_eq_some_iff.1 ho).1
   have := cntF_zero (l := listed.toList) (by omega) j (listed[j]) (by simp [hjl])
   simp [hjl] at hb
   rw [this] at hb; cases hb
  exact ⟨hr, done listed a w hI hr⟩
 | succ fuel ih =>
  intro listed a w hI hc
  refine ⟨done listed a w hI, fun i hi => ?_⟩
  rw [mem_ready] at hi
  obtain ⟨hb, o, ho, hpre⟩ := hi
  have hol : ops.toList[i]? = some o := by simpa using ho
  obtain ⟨tmj, v, g, d, he, hd, hlast, hsame⟩ := hall.2.2 i o hol
  have hisz : i < listed.size := by rw [hI.size]; exact (Array.getElem?_eq_some_iff.1 ho).1
  have hlast := hlast (fun k o' hk hgk e => by have := hD.uniq i k o o' d hol hgk hd e; omega)
  let pend : Nat → Bool := fun s => (List.range ops.size).any fun j => (match ops[j]? with | some o => o.dst == some s | none => false) && !listed.getD j false
  let tms : TM := tmN.keep (fun s => !pend s) 1 0
  have hpend : ∀ s, pend s = false ↔ ∀ (j : Nat) o, ops[j]? = some o → o.dst = some s → listed.getD j false = true := by
   intro s
   simp only [pend, List.any_eq_false, List.mem_range]
   constructor
   ·intro h j o' hj hd'
    have := h j (Array.getElem?_eq_some_iff.1 hj).1
    rw [hj] at this
    simp [hd'] at this
    simpa using this
   ·intro h j hj
    rw [Array.getElem?_eq_getElem hj]
    by_cases e : ops[j].dst = some s
    ·have := h j _ (Array.getElem?_eq_getElem hj) e
     rw [this]; simp
    ·simp [e]
  have hgs : ∀ s, tms.get s = bif !pend s then tmN.get s else none := fun s => by
   have := Tr.get_keep (p := fun s => !pend s) (t := tmN) (a := 1) (b := 0) (n := s)
   simpa using this
  have hT : TmR φ tms a.tmps := by
   intro s v' c' hs
   rw [hgs] at hs
   cases hp : pend s <;> rw [hp] at hs
   ·exact hI.tm s v' c' hs ((hpend s).1 hp)
   ·cases hs
  have hslot : ∀ t, (∀ (k : Nat) o', ops.toList[k]? = some o' → o'.dst = some t → k < i ∧ edgeTo o k = true) → tmj.get t = tms.get t := by
   intro t ht
   have hp : pend t = false := (hpend t).2 (fun k o' hk hdk => by
    obtain ⟨hlt, hed⟩ := ht k o' (by simpa using hk) hdk
    obtain ⟨e, hem, heo, heb⟩ := edgeTo_mem hed
    have := hpre e hem heb
    rwa [heo] at this)
   rw [hgs, hp]
   simp only [Bool.not_false, cond_true]
   exact (hsame t (fun k o' hk hgk e => by have := (ht k o' hgk e).1; omega)).symm
  have hop : ∀ x ∈ o.op.operands, rd tmj x = rd tms x := fun x hx => rd_keep (fun t hxt => hslot t (fun k o' hk hdk => hD.data k i o' o t hk hol hdk (by
   simp only [opdTmps, List.mem_filterMap]
   exact ⟨x, by simpa using hx, by rw [hxt]⟩)))
  have hgd : ∀ j want, o.guard = some (j, want) → guardV tmj ops.toList j want = guardV tms ops.toList j want := by
   intro j want hg
   have hed := hD.guard i o j want hol hg
   obtain ⟨e, hem, heo, heb⟩ := edgeTo_mem hed
   have hlow := hD.low i o hol e hem heb
   unfold guardV
   cases hoj : ops.toList[j]? with
   | none => rfl
   | some oj =>
    cases hdj : oj.dst with
    | none => simp only [hdj]
    | some dj =>
     simp only [hdj]
     rw [hslot dj (fun k o' hk hdk => by
      have := hD.uniq k j o' oj dj hk hoj hdk hdj
      subst this
      exact ⟨by omega, hed⟩)]
  have hent : entry sym Θ K ops.toList tms mem nxt o = some (v, g, true) := by
   rw [← he]
   unfold entry
   cases hg : o.guard with
   | none => simp only; rw [tameX_congr hop]
   | some p =>
    obtain ⟨j, want⟩ := p
    simp only
    rw [hgd j want hg, tameX_congr hop]
  have hset : (listed.setIfInBounds i true).toList = listed.toList.set i true := by simp
  have hcnt : cntF (listed.setIfInBounds i true).toList ≤ fuel := by
   have hf : listed.toList[i]? = some false := by
    have : listed[i]? = some false := by
     rw [Array.getElem?_eq_getElem hisz]
     simp [hisz] at hb
     rw [hb]
    simpa using this
   have := cntF_set hf
   rw [hset]; omega
  have next : ∀ (x : Value) (w' : World), Below w.heap.size w w' → (g = true → VR φ v x) → (g = false → x = undef) → wpAny P .any ops Q fuel (listed.setIfInBounds i true) (a.put o.dst x) w' := by
   intro x w' hbw h1 h2
   refine ih _ _ _ ⟨by simp [hI.size], fun s v' c' hs hl => ?_, by simp [Act.put, hd, hI.n], by simp [Act.put, hd, hI.defers], hI.mem.same (Below.same hbw (Nat.le_refl _)) (Nat.le_refl _), hI.below.trans (hbw.mono hI.mem.base)⟩ hcnt
   by_cases e : s = d
   ·subst e
    rw [hlast] at hs
    cases hs
    have hdn : s < a.tmps.size := by
     obtain ⟨d', k1, k2⟩ := hD.dst i o hol
     rw [hd] at k1; cases k1
     rw [hI.n]; exact k2
    have hz : (a.put o.dst x).tmps.getD s undef = x := by
     simp only [hd, Act.put, Array.getD_eq_getD_getElem?]
     rw [Array.getElem?_setIfInBounds, if_pos rfl, if_pos hdn]
     rfl
    rw [hz]
    exact ⟨h1, h2⟩
   ·have hz : (a.put o.dst x).tmps.getD s undef = a.tmps.getD s undef := by
     simp only [hd, Act.put, Array.getD_eq_getD_getElem?]
     rw [Array.getElem?_setIfInBounds, if_neg (fun e' => e e'.symm)]
    rw [hz]
    refine hI.tm s v' c' hs (fun j oj hj hdj => ?_)
    have := hl j oj hj hdj
    have hji : j ≠ i := by
     intro e'; subst e'
     rw [ho] at hj; cases hj
     rw [hd] at hdj; cases hdj
     exact e rfl
    rwa [getD_set_ne false (fun e' => hji e'.symm)] at this
  have run : tameX Θ K tms mem nxt o = some (v, true) → g = true → o.wp P a w (wpAny P .any ops Q fuel (listed.setIfInBounds i true)) Q := fun ht hg =>
   tameX_ok hΘ hK hI.mem hT ht _ _ (fun w' x hb hx => next x w' hb (fun _ => hx) (fun e => by rw [hg] at e; cases e))
  unfold wpOp
  rw [ho]
  simp only
  unfold entry at hent
  cases hg : o.guard with
  | none =>
   rw [hg] at hent
   simp only [Option.map_eq_some_iff, Prod.mk.injEq] at hent
   obtain ⟨⟨v', c'⟩, ht, rfl, rfl, hc'⟩ := hent
   simp only at hc'
   subst hc'
   rw [if_pos (by simp [Region.wanted, hg])]
   exact .inl (run ht rfl)
  | some p =>
   obtain ⟨j, want⟩ := p
   rw [hg] at hent
   simp only at hent
   split at hent
   ·cases hent
   ·rename_i g' hgv
    have hw := guard_ok hT hg hgv
    rw [hw]
    split at hent
    ·simp only [Option.map_eq_some_iff, Prod.mk.injEq] at hent
     obtain ⟨⟨v', c'⟩, ht, rfl, rfl, hc'⟩ := hent
     cases g'
     ·simp only [Bool.false_eq_true, if_false]
      exact next undef w (Below.refl _ _) (fun e => by cases e) (fun _ => rfl)
     ·simp only [if_true]
      have : c' = true := by simpa using hc'
      subst this
      exact .inl (run ht rfl)
    ·cases g'
     ·simp only [cond_false, Option.some.injEq, Prod.mk.injEq] at hent
      obtain ⟨rfl, rfl, _⟩ := hent
      simp only [Bool.false_eq_true, if_false]
      exact next undef w (Below.refl _ _) (fun e => by cases e) (fun _ => rfl)
     ·simp only [cond_true, Option.map_eq_some_iff, Prod.mk.injEq] at hent
      obtain ⟨⟨v', c'⟩, ht, rfl, rfl, hc'⟩ := hent
      simp only at hc'
      subst hc'
      simp only [if_true]
      exact .inl (run ht rfl)
end
theorem drawX_ok {P : Program} {Θ : Tab} {K : Kn} (hΘ : TabOK P Θ) (hK : KOK P K) (hmix : P.follows .mixedOrders = true) {sym : Bool} {ops : Array Oper} {base : Nat} {Q : Exit → Act → World → Prop} {st st' : St} {φ : Phi} {a : Act} {w : World} {id : Nat}
 (h : drawX sym Θ K ops.toList st = some st') (hok : st'.ok = true) (hr : Rel base φ st a w) (hQ : ∀ a' w', Rel base φ st' a' w' → Below base w w' → Q .normal a' w') : (Code.region id ops true).wp P Q a w := by
 unfold drawX at h
 cases hb : Nat.ble st.n 1000000 && depsOK ops.toList [] 0 st.n <;> rw [hb] at h
 ·cases h
 ·obtain ⟨h1, h2⟩ := and_split hb
  simp only [cond_true, Option.map_eq_some_iff] at h
  obtain ⟨⟨tmN, okN⟩, hL, rfl⟩ := h
  obtain ⟨hok2, hok1⟩ := and_split hok
  refine wp_region_any hmix (drawn_any hΘ hK (Deps.of h2) hL hok2 (Nat.le_of_ble_eq_true h1) (w0 := w) (φ := φ) (base := base) (fun a' w' g1 g2 g3 g4 g5 => hQ a' w' ⟨g1, g2, g4, g3⟩ g5) ops.size _ _ _ ⟨by simp, fun s v c hs hl => ?_, hr.n, hr.defers, ?_, ?_⟩ ?_)
  ·have hn := (drawL_all hL hok2 (fun j o d hj hd => by
    obtain ⟨d', h3, h4⟩ := (Deps.of h2).dst j o hj
    rw [hd] at h3; cases h3
    exact Nat.lt_of_lt_of_le h4 (Nat.le_of_ble_eq_true h1))).2.1 s (fun j o hj hd => by
     have := hl j o (by simpa using hj) hd
     have hlt : j < ops.size := by have := (List.getElem?_eq_some_iff.1 hj).1; simpa using this
     simp [hlt] at this)
   rw [hn] at hs
   exact hr.tm s v c hs
  ·exact hr.mem.same ⟨Nat.le_refl _, fun _ _ => rfl⟩ (Nat.le_refl _)
  ·exact (Below.refl base w).drew
  ·have : ∀ n, cntF (List.replicate n false) = n := by
    intro n
    unfold cntF
    rw [List.filter_replicate]; simp
   simp [this]
end Go.GX

namespace Go.GX
set_option linter.unusedSimpArgs false
set_option linter.unusedVariables false
set_option linter.unusedSectionVars false
open Go.RowKit (Below)
def c0Ids : Cell0 → List Nat
 | .ptr (some p) => [p.id]
 | .slice (some s) => [s.id]
 | .map (some m) => [m]
 | _ => []
def packIds (l : List (Ty × List Cell0)) : List Nat := l.flatMap fun p => p.2.flatMap c0Ids
def cellIds : Cell → List Nat
 | .c0 c => c0Ids c
 | .func (.fn _ a b) => packIds a ++ packIds b
 | .iface (.mk _ c) => c.2.flatMap c0Ids
 | _ => []
def vIds (v : V) : List Nat := bif plainT v.t then [] else (flat v.t v.x).flatMap cellIds
def opIds (tm : TM) (o : Oper) : List Nat := o.op.operands.toList.flatMap fun x => match rd tm x with | some (v, _) => vIds v | none => []
def memFree : Op → Bool
 | .move _ | .assign _ | .pick _ _ _ | .build _ _ | .nilCheck _ | .binOp _ _ _ _ _ | .unOp _ _ _ | .field _ _ _ | .index _ _ _ | .extract _ _ => true
 | _ => false
def readsOf (tm : TM) (mem : Mem) (o : Oper) : List Nat :=
 bif memFree o.op then [] else bif isCallO o.op then (match opIds tm o with | [] => [] | _ => mem.map (·.1)) else opIds tm o
def restrict (mem : Mem) : List Nat → Mem
 | [] => []
 | i :: r => match Mem.get mem i with | some b => (i, b) :: restrict mem r | none => restrict mem r
theorem get_restrict {mem : Mem} {i : Nat} {b : Blk} : ∀ {r : List Nat}, Mem.get (restrict mem r) i = some b → Mem.get mem i = some b
 | [], h => by simp [restrict, Mem.get] at h
 | k :: r, h => by
  simp only [restrict] at h
  split at h
  ·rename_i b' hb
   rw [Mem.get_cons] at h
   by_cases e : i = k
   ·rw [if_pos e] at h; cases h; rw [e]; exact hb
   ·rw [if_neg e] at h; exact get_restrict h
  ·exact get_restrict h
theorem restrict_congr {m m' : Mem} : ∀ {r : List Nat}, (∀ i ∈ r, Mem.get m i = Mem.get m' i) → restrict m r = restrict m' r
 | [], _ => rfl
 | k :: r, h => by
  simp only [restrict]
  rw [h k (by simp), restrict_congr (fun i hi => h i (by simp [hi]))]
structure YR where
 v : Option V
 w : List (Nat × Option Blk)
 rs : List Nat
 ok : Bool
 ks : List Nat
def wrL : List (Nat × Option Blk) → Nat → Option (Option Blk)
 | [], _ => none
 | (k, b) :: r, i => bif Nat.beq k i then some b else wrL r i
theorem wrL_cons (k : Nat) (b : Option Blk) (r : List (Nat × Option Blk)) (i : Nat) : wrL ((k, b) :: r) i = if i = k then some b else wrL r i := by
 simp only [wrL]
 by_cases h : i = k
 ·subst h; rw [if_pos rfl, show Nat.beq i i = true from Nat.beq_refl i]; rfl
 ·rw [if_neg h, show Nat.beq k i = false from by rw [Bool.eq_false_iff]; intro e; exact h (Nat.eq_of_beq_eq_true e).symm]; rfl
theorem wrL_mem : ∀ {r : List (Nat × Option Blk)} {i : Nat}, wrL r i ≠ none → i ∈ r.map (·.1)
 | [], i, h => absurd rfl h
 | (k, b) :: r, i, h => by
  rw [wrL_cons] at h
  by_cases e : i = k
  ·subst e; simp
  ·rw [if_neg e] at h
   have := wrL_mem h
   simp only [List.map_cons, List.mem_cons]
   exact .inr this
def callQ (K : Kn) (tm : TM) (mem : Mem) (nxt : Nat) (o : Oper) : Option (V × Bool) :=
 match o.op with
 | .call ⟨.value f, args, _⟩ => match rd tm f, rds tm args.toList with
  | some (⟨.func, .fn f a b⟩, c), some (l, d) => match unpacks a, unpacks b, K f with
   | some a, some b, some g => match g (a ++ (l ++ b)) (protect mem) nxt with
    | some (v, _, _, e) => bif valV v then some (v, c && (d && e)) else none
    | none => none
   | _, _, _ => none
  | _, _ => none
 | _ => none
theorem callQ_congr {K : Kn} {tm tm' : TM} {mem : Mem} {nxt : Nat} {o : Oper} (h : ∀ x ∈ o.op.operands, rd tm x = rd tm' x) : callQ K tm mem nxt o = callQ K tm' mem nxt o := by
 obtain ⟨dst, op, type, pos, after, guard⟩ := o
 cases op <;> try rfl
 rename_i c
 obtain ⟨callee, args, ts⟩ := c
 cases callee <;> try rfl
 rename_i f
 simp only [callQ]
 rw [h f (by simp [Op.operands, Call.operands]), rds_congr (tm' := tm') (fun x hx => h x (by simp [Op.operands, Call.operands] at hx ⊢; exact .inr hx))]
def kindX (Θ : Tab) (tm : TM) (mem : Mem) (o : Oper) : Option (V × Bool × Nat) :=
 match o.op with
 | .fieldAddr _ x _ => match rd tm x with
  | some (⟨.ptr, some p⟩, _) => (opv Θ tm mem o).map fun r => (r.1, r.2, p.id)
  | _ => none
 | _ => none
theorem kindX_opv {Θ : Tab} {tm : TM} {mem mem' : Mem} {o : Oper} {v : V} {c : Bool} {i : Nat} (h : kindX Θ tm mem o = some (v, c, i)) (hk : ∀ p, tyOf mem' i p = tyOf mem i p) : opv Θ tm mem' o = some (v, c) := by
 obtain ⟨dst, op, type, pos, after, guard⟩ := o
 cases op <;> try (simp [kindX] at h; done)
 case fieldAddr t x f =>
  simp only [kindX] at h
  split at h
  ·rename_i p c' hx
   simp only [Option.map_eq_some_iff, Prod.mk.injEq] at h
   obtain ⟨⟨v', c2⟩, h1, rfl, rfl, rfl⟩ := h
   rw [← h1]
   unfold opv
   simp only [opn, opm, opv0, hx]
   cases Θ t with
   | none => rfl
   | some ti => simp only [hk]
  ·cases h
def stepY (Θ : Tab) (K : Kn) (tm : TM) (mem : Mem) (B id : Nat) (o : Oper) : Option YR :=
 match kindX Θ tm mem o with
 | some (v, c, i) => some ⟨some v, [], [], c, [i]⟩
 | none => match tameX Θ K tm (restrict mem (readsOf tm mem o)) B o with
 | some (v, c) => some ⟨some v, [], readsOf tm mem o, c, []⟩
 | none => match o.op with
  | .store t a x => match Θ t, rd tm a, rd tm x with
   | some ti, some (⟨.ptr, some p⟩, c), some (v, d) => bif decide ((coeV ti.ty v).t = ti.ty) then
    (match Mem.getC mem p.id with
    | some b => bif b.wr then (upd (.arr b.n b.t) b.val p.path (coeV ti.ty v)).map fun row => ⟨none, [(p.id, some ⟨b.t, b.n, row, true⟩)], [p.id], c && (d && inb (.arr b.n b.t) p.path), []⟩ else none
    | none => none) else none
   | _, _, _ => none
  | .call ⟨.builtin .append, args, ts⟩ => (appX Θ tm (restrict mem (opIds tm o)) id B args.toList ts.toList).map fun r => ⟨some r.1, (id, some r.2.2.1) :: (match r.2.1 with | some k => [(k, none)] | none => []), opIds tm o, r.2.2.2, []⟩
  | .call ⟨.value _, _, _⟩ => (callQ K tm (restrict mem (readsOf tm mem o)) B o).map fun r => ⟨some r.1, [], readsOf tm mem o, r.2, []⟩
  | .call _ => none
  | .mapUpdate t m k x => (putX Θ tm mem t m k x).map fun r => ⟨none, [(r.1, some r.2.1)], [r.1], r.2.2, []⟩
  | .insert t m k x => (putX Θ tm mem t m k x).map fun r => ⟨none, [(r.1, some r.2.1)], [r.1], r.2.2, []⟩
  | _ => match opxI Θ K tm [] id B B o with
   | some ⟨some v, [(_, b)], _, c⟩ => some ⟨some v, [(id, some b)], [], c, []⟩
   | _ => none
theorem Mem.get_set_same : ∀ {m : Mem} {i : Nat} {x b : Blk}, Mem.get m i = some b → Mem.get (Mem.set m i x) i = some x
 | [], _, _, _, h => by simp [Mem.get] at h
 | (k, c) :: r, i, x, b, h => by
  simp only [Mem.set]
  by_cases e : k = i
  ·subst e; simp [Mem.get]
  ·have hb : Nat.beq k i = false := by rw [Bool.eq_false_iff]; intro h'; exact e (Nat.eq_of_beq_eq_true h')
   rw [hb]
   simp only [Mem.get, hb, cond_false] at h ⊢
   exact Mem.get_set_same h
theorem Mem.get_set_other : ∀ {m : Mem} {i j : Nat} {x : Blk}, j ≠ i → Mem.get (Mem.set m i x) j = Mem.get m j
 | [], _, _, _, _ => rfl
 | (k, c) :: r, i, j, x, hne => by
  simp only [Mem.set]
  by_cases e : k = i
  ·subst e
   have hb : Nat.beq k j = false := by rw [Bool.eq_false_iff]; intro h'; exact hne (Nat.eq_of_beq_eq_true h').symm
   simp [Mem.get, hb]
  ·have hb : Nat.beq k i = false := by rw [Bool.eq_false_iff]; intro h'; exact e (Nat.eq_of_beq_eq_true h')
   rw [hb]
   simp only [Mem.get, cond_false]
   rw [Mem.get_set_other hne]
def Steps (P : Program) (base B : Nat) (φ : Phi) (w : World) (a : Act) (o : Oper) (id : Nat) (memD : Mem) (v : Option V) (wr : List (Nat × Option Blk)) : Prop :=
 ∀ (next : Act → World → Prop) (Q : Exit → Act → World → Prop),
  (∀ ψ w' x memD', φ.le ψ → (∀ i ph, ψ i = some ph → φ i = some ph ∨ i = id) → MemRel base ψ memD' B w' →
   (∀ i, Mem.get memD' i = match wrL wr i with | some b => b | none => Mem.get memD i) → Below base w w' →
   (∀ u, v = some u → VR ψ u x) → next (a.put o.dst x) w') → o.wp P a w next Q
def isMapO : Op → Bool
 | .mapUpdate _ _ _ _ | .insert _ _ _ _ | .mapEntry _ _ _ | .entryStore _ _ _ _ => true
 | _ => false
theorem opxI_any {Θ : Tab} {K : Kn} {tm : TM} {m m' : Mem} {id nn nxt : Nat} {o : Oper} {r : R} (hst : ∀ t a x, o.op ≠ .store t a x) (hcall : isCallO o.op = false) (hmp : isMapO o.op = false)
 (h : opxI Θ K tm m id nn nxt o = some r) : ∃ b, r.mem = (id, b) :: m ∧ r.nxt = nn ∧ opxI Θ K tm m' id nn nxt o = some ⟨r.v, (id, b) :: m', r.nxt, r.ok⟩ := by
 obtain ⟨dst, op, type, pos, after, guard⟩ := o
 cases op <;> try (simp [opxI] at h; done)
 case alloc e =>
  simp only [opxI] at h ⊢
  cases hti : Θ e with
  | none => rw [hti] at h; cases h
  | some ti => rw [hti] at h; cases h; exact ⟨_, rfl, rfl, rfl⟩
 case box e x =>
  simp only [opxI] at h ⊢
  split at h
  ·rename_i ti v c hti hx
   simp only [Option.map_eq_some_iff] at h
   obtain ⟨y, hy, rfl⟩ := h
   exact ⟨_, rfl, rfl, by simp only [hy, Option.map_some]⟩
  ·cases h
 case store t a x => exact absurd rfl (hst t a x)
 case buildSlice t len ps =>
  simp only [opxI] at h ⊢
  split at h
  ·rename_i ti l c hti hl
   split at h
   ·rename_i e hty hsub
    split at h
    ·rename_i te hte
     cases hb : Nat.ble (len * size te.ty) 16777216 <;> rw [hb] at h
     ·cases h
     ·simp only [cond_true, Option.map_eq_some_iff] at h ⊢
      obtain ⟨row, hrow, rfl⟩ := h
      exact ⟨_, rfl, rfl, _, hrow, rfl⟩
    ·cases h
   ·cases h
  ·cases h
 case makeSlice t x y =>
  simp only [opxI] at h ⊢
  split at h
  ·rename_i ti nv c mv d hti hx hy
   split at h
   ·rename_i e k1 n k2 m2 hty hsub hn' hm'
    split at h
    ·rename_i te hte
     cases h
     exact ⟨_, rfl, rfl, rfl⟩
    ·cases h
   ·cases h
  ·cases h
 case makeMap t m =>
  simp only [opxI] at h ⊢
  split at h
  ·rename_i b c hb
   cases h
   exact ⟨_, rfl, rfl, rfl⟩
  ·cases h
 case mapUpdate => cases hmp
 case insert => cases hmp
 case mapEntry => cases hmp
 case entryStore => cases hmp
 case call c => cases hcall
theorem newMapX_congr {Θ : Tab} {tm tm' : TM} {t : Nat} {m : Option Operand} (h : ∀ x, m = some x → rd tm x = rd tm' x) : newMapX Θ tm t m = newMapX Θ tm' t m := by
 unfold newMapX
 cases m with
 | none => rfl
 | some x => simp only; rw [rdI_congr (h x rfl)]
theorem putX_congr {Θ : Tab} {tm tm' : TM} {mem : Mem} {t : Nat} {m k x : Operand} (h1 : rd tm m = rd tm' m) (h2 : rd tm k = rd tm' k) (h3 : rd tm x = rd tm' x) : putX Θ tm mem t m k x = putX Θ tm' mem t m k x := by
 unfold putX
 rw [h1, h2, h3]
theorem entX_congr {Θ : Tab} {tm tm' : TM} {mem : Mem} {t : Nat} {m k : Operand} (h1 : rd tm m = rd tm' m) (h2 : rd tm k = rd tm' k) : entX Θ tm mem t m k = entX Θ tm' mem t m k := by
 unfold entX
 rw [h1, h2]
theorem estX_congr {Θ : Tab} {tm tm' : TM} {mem : Mem} {t : Nat} {m k x : Operand} (h1 : rd tm m = rd tm' m) (h2 : rd tm k = rd tm' k) (h3 : rd tm x = rd tm' x) : estX Θ tm mem t m k x = estX Θ tm' mem t m k x := by
 unfold estX
 rw [h1, rdI_congr h2, h3]
theorem opxI_congr {Θ : Tab} {K : Kn} {tm tm' : TM} {m : Mem} {id nn nxt : Nat} {o : Oper} (hst : ∀ t a x, o.op ≠ .store t a x) (hcall : isCallO o.op = false) (h : ∀ x ∈ o.op.operands, rd tm x = rd tm' x) : opxI Θ K tm m id nn nxt o = opxI Θ K tm' m id nn nxt o := by
 obtain ⟨dst, op, type, pos, after, guard⟩ := o
 cases op <;> try (simp [opxI]; done)
 case box e x => simp only [opxI]; rw [h x (by simp [Op.operands])]
 case store t a x => exact absurd rfl (hst t a x)
 case buildSlice t len ps => simp only [opxI]; rw [rdp_congr (tm := tm) (tm' := tm') (fun p hp => h p.2 (by simp [Op.operands]; exact ⟨p.1, by simpa using hp⟩))]
 case makeSlice t x y => simp only [opxI]; rw [h x (by simp [Op.operands]), h y (by simp [Op.operands])]
 case makeMap t m => simp only [opxI]; rw [newMapX_congr (tm := tm) (tm' := tm') (fun x hx => h x (by simp [Op.operands, hx]))]
 case mapUpdate t m k x => simp only [opxI]; rw [putX_congr (h m (by simp [Op.operands])) (h k (by simp [Op.operands])) (h x (by simp [Op.operands]))]
 case insert t m k x => simp only [opxI]; rw [putX_congr (h m (by simp [Op.operands])) (h k (by simp [Op.operands])) (h x (by simp [Op.operands]))]
 case mapEntry t m k => simp only [opxI]; rw [entX_congr (h m (by simp [Op.operands])) (h k (by simp [Op.operands]))]
 case entryStore t m k x => simp only [opxI]; rw [estX_congr (h m (by simp [Op.operands])) (h k (by simp [Op.operands])) (h x (by simp [Op.operands]))]
 case call c => cases hcall
section
variable {P : Program} {Θ : Tab} {K : Kn} (hΘ : TabOK P Θ) (hK : KOK P K)
include hΘ hK
theorem callQ_ok {base B : Nat} {φ : Phi} {w : World} {a : Act} {o : Oper} {id : Nat} {memD memD' : Mem} {tm : TM} {v : V} (hm : MemRel base φ memD B w) (hm' : MemRel base φ memD' B w) (ht : TmR φ tm a.tmps) (h : callQ K tm memD' B o = some (v, true)) :
 Steps P base B φ w a o id memD (some v) [] := by
 obtain ⟨dst, op, type, pos, after, guard⟩ := o
 cases op <;> try (simp [callQ] at h; done)
 rename_i c
 obtain ⟨callee, args, ts⟩ := c
 cases callee <;> try (simp [callQ] at h; done)
 rename_i f
 simp only [callQ] at h
 split at h
 ·rename_i fid fa fb c l d hf hl
  split at h
  ·rename_i ua ub g ha hb hg
   split at h
   ·rename_i v' mem' nxt' e hr
    cases hp : valV v' <;> rw [hp] at h
    ·cases h
    ·simp only [cond_true, Option.some.injEq, Prod.mk.injEq] at h
     obtain ⟨rfl, hok⟩ := h
     obtain ⟨rfl, hok2⟩ := and_split hok
     obtain ⟨rfl, rfl⟩ := and_split hok2
     obtain ⟨x, y, hv, hA⟩ := call_args hΘ hK hm ht hf hl ha hb
     obtain ⟨hcf, hsm⟩ := hK fid g hg
     intro next Q hn
     unfold Oper.wp
     have hrun : (execOp a.eval ⟨dst, .call ⟨.value f, args, ts⟩, type, pos, after, guard⟩).run P w = .ok (.enter fid (x ++ args.map a.eval ++ y)) w := by
      simp only [execOp, resolve, hv, Deferred.ofValue, invoke, Sem.run_bind, Sem.run_pure, Result.andThen]
      exact hcf _ _
     rw [hrun]
     show Calls P fid _ w _
     refine (hsm _ _ _ _ _ _ hr w.heap.size (φ.rise w.heap.size) w _ hm'.protect (hA.mono (φ.sub_rise _))).mono ?_
     rintro e w' ⟨ψ, z, rfl, h1, h2, h3, h4⟩
     obtain ⟨g1, g2⟩ := hm.back (φ0 := φ.rise w.heap.size) rfl rfl h1 h2 h3
     exact hn _ w' z memD g1 (fun i ph h => .inl h) g2 (fun i => rfl) (h3.mono hm.base) (fun u hu => by cases hu; exact valV_ok (φ := ψ) (ψ := φ.with ψ.imm) (fun _ _ h => h) hp h4)
   ·cases h
  ·cases h
 ·cases h
omit hΘ hK in
theorem rowOf_more {m m' : Mem} (hsub : ∀ i b, Mem.get m i = some b → Mem.get m' i = some b) {e : Ty} {s : SL} {r} (h : rowOf m e s = some r) : rowOf m' e s = some r := by
 unfold rowOf at h ⊢
 cases hb : Mem.getC m s.id with
 | none => rw [hb] at h; cases h
 | some b => rw [hb] at h; rw [Mem.getC_more hsub hb]; exact h
omit hΘ hK in
theorem appX_congr {tm tm' : TM} {mem : Mem} {id nn : Nat} {args : List Operand} {ts : List Nat} (h : ∀ x ∈ args, rd tm x = rd tm' x) : appX Θ tm mem id nn args ts = appX Θ tm' mem id nn args ts := by
 unfold appX
 split
 ·rename_i so xo st xt
  rw [h so (by simp), h xo (by simp)]
 ·rfl
omit hΘ hK in
theorem copX_congr {tm tm' : TM} {mem : Mem} {args : List Operand} {ts : List Nat} (h : ∀ x ∈ args, rd tm x = rd tm' x) : copX Θ tm mem args ts = copX Θ tm' mem args ts := by
 unfold copX
 split
 ·rename_i so xo st xt
  rw [h so (by simp), h xo (by simp)]
 ·rfl
omit hΘ hK in
theorem clrX_congr {tm tm' : TM} {mem : Mem} {args : List Operand} {ts : List Nat} (h : ∀ x ∈ args, rd tm x = rd tm' x) : clrX Θ tm mem args ts = clrX Θ tm' mem args ts := by
 unfold clrX
 split
 ·rename_i so st
  rw [h so (by simp)]
 ·rfl
omit hΘ hK in
theorem putX_get {tm : TM} {m m' : Mem} {t : Nat} {mo k x : Operand} {r} (h : putX Θ tm m t mo k x = some r) : (∃ b, Mem.get m r.1 = some b) ∧ (Mem.get m' r.1 = Mem.get m r.1 → putX Θ tm m' t mo k x = some r) := by
 unfold putX at h
 split at h
 ·rename_i ti i c kv d xv e hti hm hk hx
  split at h
  ·rename_i ke ee hd hs
   split at h
   ·rename_i ki ei b hki hei hg
    cases hw : keyK ki.ty && b.wr <;> rw [hw] at h
    ·cases h
    ·simp only [cond_true] at h
     split at h
     ·rename_i k' x' row h1 h2 h3
      cases h
      refine ⟨⟨b, hg⟩, fun he => ?_⟩
      simp only at he
      rw [hg] at he
      simp only [putX, hti, hm, hk, hx, hd, hs, hki, hei, he, hw, cond_true, h1, h2, h3]
     ·cases h
   ·cases h
  ·cases h
 ·cases h
omit hΘ hK in
theorem appX_more {tm : TM} {m m' : Mem} {id nn : Nat} {args : List Operand} {ts : List Nat} {r} (hsub : ∀ i b, Mem.get m i = some b → Mem.get m' i = some b) (h : appX Θ tm m id nn args ts = some r) : appX Θ tm m' id nn args ts = some r := by
 have hbase : ∀ {te : Ty} {v : V} {r}, baseX m te v = some r → baseX m' te v = some r := by
  intro te v r h
  unfold baseX at h ⊢
  split at h
  ·exact h
  ·rename_i s
   cases hb : Mem.getC m s.id with
   | none =>
    rw [hb] at h
    split at h
    ·rename_i h2; cases h2
    ·cases h
   | some b => rw [hb] at h; simp only [Mem.getC_more hsub hb]; exact h
  ·cases h
 have hsrc : ∀ {te : Ty} {v : V} {r}, srcX m te v = some r → srcX m' te v = some r := by
  intro te v r h
  unfold srcX at h ⊢
  split at h
  ·exact h
  ·simp only [Option.map_eq_some_iff] at h ⊢
   obtain ⟨q, hq, he⟩ := h
   exact ⟨q, rowOf_more hsub hq, he⟩
  ·exact h
  ·exact h
  ·cases h
 unfold appX at h ⊢
 split at h
 ·split at h
  ·split at h
   ·split at h
    ·split at h
     ·rename_i hb hs
      simp only [hbase hb, hsrc hs]
      exact h
     ·cases h
    ·cases h
   ·cases h
  ·cases h
 ·cases h
theorem stepY_ok {base B : Nat} {φ : Phi} {w : World} {a : Act} {o : Oper} {id : Nat} {memD memj : Mem} {tm tms : TM} {y : YR}
 (hm : MemRel base φ memD B w) (ht : TmR φ tms a.tmps) (hop : ∀ x ∈ o.op.operands, rd tm x = rd tms x) (hfr : φ id = none) (hid : id < B)
 (h : stepY Θ K tm memj B id o = some y) (hok : y.ok = true) (hag : ∀ i ∈ y.rs, Mem.get memD i = Mem.get memj i) (hks : ∀ i ∈ y.ks, ∀ p, tyOf memD i p = tyOf memj i p) : Steps P base B φ w a o id memD y.v y.w := by
 unfold stepY at h
 split at h
 ·rename_i v c i hv
  cases h
  simp only at hok hks
  subst hok
  have hv := kindX_opv hv (fun p => hks i (by simp) p)
  rw [opv_congr hop] at hv
  intro next Q hn
  exact (opv_ok hΘ hm ht hv).tame next Q (fun w' x hb hx => hn φ w' x memD (Phi.le_refl _) (fun i ph h => .inl h) (hm.same (Below.same hb (Nat.le_refl _)) (Nat.le_refl _)) (fun i => rfl) (hb.mono hm.base) (fun u hu => by cases hu; exact hx))
 rename_i hkx
 split at h
 ·rename_i v c hv
  cases h
  simp only at hok hag
  subst hok
  rw [tameX_congr hop, ← restrict_congr hag] at hv
  have hm' := hm.forget (m' := restrict memD (readsOf tm memj o)) (fun i b hi => get_restrict hi)
  intro next Q hn
  refine tameX_ok hΘ hK hm' ht hv next Q (fun w' x hb hx => hn φ w' x memD (Phi.le_refl _) (fun i ph h => .inl h) (hm.same (Below.same hb (Nat.le_refl _)) (Nat.le_refl _)) (fun i => rfl) (hb.mono hm.base) (fun u hu => by cases hu; exact hx))
 ·rename_i hv
  obtain ⟨dst, op, type, pos, after, guard⟩ := o
  by_cases hst : ∃ t x z, op = .store t x z
  ·obtain ⟨t, x, z, rfl⟩ := hst
   simp only at h
   split at h
   ·rename_i ti p c v d hti hx hz
    cases hb : decide ((coeV ti.ty v).t = ti.ty) <;> rw [hb] at h
    ·cases h
    ·simp only [cond_true] at h
     split at h
     ·rename_i b hgb
      obtain ⟨hgb, hbnt⟩ := Mem.getC_spec hgb
      cases hw : b.wr <;> rw [hw] at h
      ·cases h
      ·simp only [cond_true, Option.map_eq_some_iff] at h
       obtain ⟨row, hrow, rfl⟩ := h
       simp only at hok hag
       have hgD := (hag p.id (by simp)).trans hgb
       have hgC := Mem.getC_of hgD hbnt
       have hx' : rd tms x = some (⟨.ptr, some p⟩, c) := by rw [← hop x (by simp [Op.operands])]; exact hx
       have hz' : rd tms z = some (v, d) := by rw [← hop z (by simp [Op.operands])]; exact hz
       have hrun : opxI Θ K tms memD id B B ⟨dst, .store t x z, type, pos, after, guard⟩ = some ⟨none, Mem.set memD p.id ⟨b.t, b.n, row, true⟩, B, c && (d && inb (.arr b.n b.t) p.path)⟩ := by
        simp only [opxI, hti, hx', hz', hb, cond_true, storeX, hgC, hw, hrow, Option.map_some]
       intro next Q hn
       refine opxI_ok hΘ hK hm ht hfr hid (Nat.le_refl _) hrun hok next Q (fun ψ w' xx h1 h2 h3 h4 h5 => hn ψ w' xx _ h1 (h5 rfl) h2 (fun i => ?_) h3 (fun u hu => by cases hu))
       rw [wrL_cons]
       by_cases e : i = p.id
       ·rw [if_pos e, e]; exact Mem.get_set_same hgD
       ·rw [if_neg e]; exact Mem.get_set_other e
     ·cases h
   ·cases h
  ·have hst' : ∀ t a x, op ≠ .store t a x := fun t a x e => hst ⟨t, a, x, e⟩
   have hpt : ∀ t m k x, (op = .mapUpdate t m k x ∨ op = .insert t m k x) → (putX Θ tm memj t m k x).map (fun r => (⟨none, [(r.1, some r.2.1)], [r.1], r.2.2, []⟩ : YR)) = some y → Steps P base B φ w a ⟨dst, op, type, pos, after, guard⟩ id memD y.v y.w := by
    intro t m k x hor h
    simp only [Option.map_eq_some_iff] at h
    obtain ⟨⟨i, b, c⟩, hp, rfl⟩ := h
    simp only at hok hag
    subst hok
    have hops : rd tm m = rd tms m ∧ rd tm k = rd tms k ∧ rd tm x = rd tms x := by
     rcases hor with rfl | rfl <;> exact ⟨hop m (by simp [Op.operands]), hop k (by simp [Op.operands]), hop x (by simp [Op.operands])⟩
    rw [putX_congr hops.1 hops.2.1 hops.2.2] at hp
    obtain ⟨⟨b0, hb0⟩, hp2⟩ := putX_get (m' := memD) hp
    have hgE := hag i (by simp)
    have hp3 := hp2 hgE
    have hrun : opxI Θ K tms memD id B B ⟨dst, op, type, pos, after, guard⟩ = some ⟨none, Mem.set memD i b, B, true⟩ := by
     rcases hor with rfl | rfl <;> simp only [opxI, hp3]
    have hcl : isCallO op = false := by rcases hor with rfl | rfl <;> rfl
    intro next Q hn
    refine opxI_ok hΘ hK hm ht hfr hid (Nat.le_refl _) hrun rfl next Q (fun ψ w' xx h1 h2 h3 h4 h5 => hn ψ w' xx _ h1 (h5 hcl) h2 (fun j => ?_) h3 (fun u hu => by cases hu))
    rw [wrL_cons]
    by_cases e : j = i
    ·rw [if_pos e, e]; exact Mem.get_set_same (hgE.trans hb0)
    ·rw [if_neg e]; exact Mem.get_set_other e
   by_cases hmu : ∃ t m k x, op = .mapUpdate t m k x ∨ op = .insert t m k x
   ·obtain ⟨t, m, k, x, hor⟩ := hmu
    refine hpt t m k x hor ?_
    rcases hor with rfl | rfl <;> exact h
   have hmu1 : ∀ t m k x, op ≠ .mapUpdate t m k x := fun t m k x e => hmu ⟨t, m, k, x, .inl e⟩
   have hmu2 : ∀ t m k x, op ≠ .insert t m k x := fun t m k x e => hmu ⟨t, m, k, x, .inr e⟩
   cases hc : isCallO op with
   | true =>
    cases op <;> try (cases hc; done)
    rename_i c
    obtain ⟨callee, args, ts⟩ := c
    cases callee with
    | value f =>
     simp only [Option.map_eq_some_iff] at h
     obtain ⟨⟨v, c⟩, hq, rfl⟩ := h
     simp only at hok hag
     subst hok
     rw [callQ_congr hop, ← restrict_congr hag] at hq
     have hm' := hm.forget (m' := restrict memD (readsOf tm memj ⟨dst, .call ⟨.value f, args, ts⟩, type, pos, after, guard⟩)) (fun i b hi => get_restrict hi)
     exact callQ_ok hΘ hK hm hm' ht hq
    | invoke _ _ => cases h
    | builtin bb =>
     cases bb <;> try (cases h; done)
     simp only [Option.map_eq_some_iff] at h
     obtain ⟨⟨v, i, b, c⟩, hq, rfl⟩ := h
     simp only at hok hag
     subst hok
     rw [← restrict_congr hag] at hq
     rw [appX_congr (tm := tm) (tm' := tms) (args := args.toList) (fun x hx => hop x (by simpa [Op.operands, Call.operands] using hx))] at hq
     have hq2 := appX_more (fun i b hi => get_restrict hi) hq
     have hrun : opxI Θ K tms memD id B B ⟨dst, .call ⟨.builtin .append, args, ts⟩, type, pos, after, guard⟩ = some ⟨some v, (id, b) :: delO memD i, B, true⟩ := by
      simp only [opxI, hq2]
     intro next Q hn
     refine acts_append hΘ hK hm hfr hid (Nat.le_refl _) ht hrun rfl next Q (fun ψ w' xx h1 h2 h3 h4 h5 => hn ψ w' xx _ h1 h5 h2 (fun j => ?_) h3 h4)
     rw [Mem.get_cons]
     cases i with
     | none =>
      rw [wrL_cons]
      by_cases e : j = id
      ·rw [if_pos e, if_pos e]
      ·rw [if_neg e, if_neg e]; rfl
     | some k =>
      rw [wrL_cons, wrL_cons]
      by_cases e : j = id
      ·rw [if_pos e, if_pos e]
      ·rw [if_neg e, if_neg e]
       simp only [delO, Mem.get_del]
       by_cases e2 : j = k
       ·rw [if_pos e2, if_pos e2]
       ·rw [if_neg e2, if_neg e2]; rfl
   | false =>
    have h : (match opxI Θ K tm [] id B B ⟨dst, op, type, pos, after, guard⟩ with
     | some ⟨some v, [(_, b)], _, c⟩ => some (⟨some v, [(id, some b)], [], c, []⟩ : YR)
     | _ => none) = some y := by
     cases op <;> first | exact absurd rfl (hst' _ _ _) | exact absurd rfl (hmu1 _ _ _ _) | exact absurd rfl (hmu2 _ _ _ _) | (cases hc; done) | exact h
    split at h
    ·rename_i v k b n c hrun
     cases h
     have hmp : isMapO op = false := by
      cases op <;> first | rfl | skip
      all_goals
       exfalso
       simp only [opxI] at hrun
       split at hrun
       ·rename_i hp
        simp only [putX, entX, estX, Mem.get] at hp
        split at hp
        ·split at hp
         ·split at hp
          ·rename_i h0; cases h0
          ·cases hp
         ·cases hp
        ·cases hp
       ·cases hrun
     obtain ⟨b', hb', hnn, hr2⟩ := opxI_any (m' := memD) hst' hc hmp hrun
     simp only [List.cons.injEq, Prod.mk.injEq] at hb'
     obtain ⟨⟨rfl, rfl⟩, _⟩ := hb'
     simp only at hnn hr2 hok
     subst hnn
     rw [opxI_congr hst' hc hop] at hr2
     intro next Q hn
     refine opxI_ok hΘ hK hm ht hfr hid (Nat.le_refl _) hr2 hok next Q (fun ψ w' xx h1 h2 h3 h4 h5 => hn ψ w' xx _ h1 (h5 hc) h2 (fun i => ?_) h3 h4)
     rw [wrL_cons, Mem.get_cons]
     split <;> rfl
    ·cases h
end
end Go.GX

namespace Go.GX
set_option linter.unusedSimpArgs false
set_option linter.unusedVariables false
set_option linter.unusedSectionVars false
open Go.RowKit (Below)
structure Ent where
 tm : TM
 mem : Mem
 g : Bool
 y : YR
def wr (e : Ent) (i : Nat) : Option (Option Blk) := wrL e.y.w i
def curD : List Ent → Nat → (Nat → Bool) → Nat → Option Blk → Option Blk
 | [], _, _, _, acc => acc
 | e :: r, k, D, i, acc => curD r (k + 1) D i (match D k, wr e i with | true, some b => b | _, _ => acc)
theorem curD_agree : ∀ {E : List Ent} {k : Nat} {D D' : Nat → Bool} {i : Nat} {acc : Option Blk}, (∀ (j : Nat) e, E[j]? = some e → wr e i ≠ none → D (k + j) = D' (k + j)) → curD E k D i acc = curD E k D' i acc
 | [], _, _, _, _, _, _ => rfl
 | e :: r, k, D, D', i, acc, h => by
  simp only [curD]
  have h0 : (match D k, wr e i with | true, some b => b | _, _ => acc) = (match D' k, wr e i with | true, some b => b | _, _ => acc) := by
   cases hw : wr e i with
   | none => cases D k <;> cases D' k <;> rfl
   | some b => rw [show D k = D' k from h 0 e rfl (by rw [hw]; simp)]
  rw [h0]
  exact curD_agree (fun j e' hj hw => by have := h (j + 1) e' (by simpa using hj) hw; rwa [show k + (j + 1) = k + 1 + j from by omega] at this)
theorem curD_last : ∀ {E : List Ent} {k : Nat} {D : Nat → Bool} {i : Nat} {acc : Option Blk} {j : Nat} {e : Ent} {b : Option Blk}, E[j]? = some e → wr e i = some b → D (k + j) = true →
 (∀ (l : Nat) e', j < l → E[l]? = some e' → wr e' i ≠ none → D (k + l) = false) → curD E k D i acc = b
 | [], _, _, _, _, j, e, b, h, _, _, _ => by simp at h
 | e0 :: r, k, D, i, acc, 0, e, b, h, hw, hD, hl => by
  simp at h; subst h
  simp only [curD]
  rw [show D k = true from hD, hw]
  simp only
  rw [curD_agree (D' := fun _ => false) (fun l e' hl' hw' => by
   have := hl (l + 1) e' (by omega) (by simpa using hl') hw'
   rwa [show k + (l + 1) = k + 1 + l from by omega] at this)]
  generalize k + 1 = k'
  clear hl hD hw
  induction r generalizing k' with
  | nil => rfl
  | cons e1 r ih => simp only [curD]; cases wr e1 i <;> exact ih _
 | e0 :: r, k, D, i, acc, j + 1, e, b, h, hw, hD, hl => by
  simp only [curD]
  refine curD_last (j := j) (by simpa using h) hw (by rwa [show k + 1 + j = k + (j + 1) from by omega]) (fun l e' hlt hl' hw' => ?_)
  have := hl (l + 1) e' (by omega) (by simpa using hl') hw'
  rwa [show k + (l + 1) = k + 1 + l from by omega] at this
def entryY (Θ : Tab) (K : Kn) (ops : List Oper) (tm : TM) (mem : Mem) (B id : Nat) (o : Oper) : Option (Bool × YR) :=
 match o.guard with
 | none => (stepY Θ K tm mem B id o).map fun y => (true, y)
 | some (j, want) => match guardV tm ops j want with
  | none => none
  | some true => (stepY Θ K tm mem B id o).map fun y => (true, y)
  | some false => some (false, ⟨none, [], [], true, []⟩)
def setY (tm : TM) (dst : Option Tmp) (g : Bool) (y : YR) : Option TM :=
 match dst, g, y.v with
 | none, true, none => some tm
 | none, false, _ => some tm
 | some d, true, some v => some (tm.set d (v, true))
 | some d, false, _ => some (tm.set d (dummy, false))
 | _, _, _ => none
def memW (mem : Mem) : List (Nat × Option Blk) → Mem
 | [] => mem
 | (k, some b) :: r => match Mem.get (memW mem r) k with | some _ => Mem.set (memW mem r) k b | none => (k, b) :: memW mem r
 | (k, none) :: r => Mem.del (memW mem r) k
def memY (mem : Mem) (y : YR) : Mem := memW mem y.w
theorem get_memW {mem : Mem} {i : Nat} : ∀ {w : List (Nat × Option Blk)}, Mem.get (memW mem w) i = match wrL w i with | some b => b | none => Mem.get mem i
 | [] => rfl
 | (k, some b) :: r => by
  rw [wrL_cons]
  simp only [memW]
  cases hg : Mem.get (memW mem r) k with
  | none =>
   simp only [Mem.get_cons]
   by_cases e : i = k
   ·rw [if_pos e, if_pos e]
   ·rw [if_neg e, if_neg e]; exact get_memW
  | some c =>
   simp only
   by_cases e : i = k
   ·rw [if_pos e, e]; exact Mem.get_set_same hg
   ·rw [if_neg e, Mem.get_set_other e]; exact get_memW
 | (k, none) :: r => by
  rw [wrL_cons]
  simp only [memW, Mem.get_del]
  by_cases e : i = k
  ·rw [if_pos e, if_pos e]
  ·rw [if_neg e, if_neg e]; exact get_memW
theorem get_memY {mem : Mem} {y : YR} {i : Nat} : Mem.get (memY mem y) i = match wrL y.w i with | some b => b | none => Mem.get mem i := get_memW
def walkY (Θ : Tab) (K : Kn) (ops : List Oper) (B nxt0 : Nat) : List Oper → Nat → TM → Mem → Bool → Option (List Ent × TM × Mem × Bool)
 | [], _, tm, mem, ok => some ([], tm, mem, ok)
 | o :: r, j, tm, mem, ok => match entryY Θ K ops tm mem B (nxt0 + j) o with
  | some (g, y) => match setY tm o.dst g y with
   | some tm' => match walkY Θ K ops B nxt0 r (j + 1) tm' (memY mem y) (y.ok && ok) with
    | some (E, tmN, memN, okN) => some (⟨tm, mem, g, y⟩ :: E, tmN, memN, okN)
    | none => none
   | none => none
  | none => none
def valY (g : Bool) (y : YR) : Option (V × Bool) := match g, y.v with | true, some v => some (v, true) | true, none => none | false, _ => some (dummy, false)
theorem setY_get {tm tm' : TM} {dst : Option Tmp} {g : Bool} {y : YR} (h : setY tm dst g y = some tm') (hd : ∀ d, dst = some d → d < 1000000) :
 (∀ m, dst ≠ some m → tm'.get m = tm.get m) ∧ (∀ d, dst = some d → tm'.get d = valY g y) ∧ (dst = none → g = true → y.v = none) := by
 have hp : ∀ d x m, d < 1000000 → (Tr.set tm d x).get m = if m = d then some x else tm.get m := fun d x m hd => Tr.get_put_eq 40 tm d x m (Nat.lt_of_lt_of_le (Nat.succ_lt_succ hd) (by decide))
 unfold setY at h
 cases dst with
 | none =>
  cases g
  ·simp only [Option.some.injEq] at h
   subst h
   exact ⟨fun _ _ => rfl, fun d e => (by cases e), fun _ e => (by cases e)⟩
  ·cases hv : y.v with
   | none =>
    rw [hv] at h
    simp only [Option.some.injEq] at h
    subst h
    exact ⟨fun _ _ => rfl, fun d e => (by cases e), fun _ _ => rfl⟩
   | some v => rw [hv] at h; cases h
 | some d =>
  have hd := hd d rfl
  cases g
  ·simp only [Option.some.injEq] at h
   subst h
   refine ⟨fun m hm => by rw [hp d _ m hd, if_neg (fun e => hm (by rw [e]))], fun d' e => ?_, fun e => by cases e⟩
   cases e
   rw [hp d _ d hd, if_pos rfl]; rfl
  ·cases hv : y.v with
   | none => rw [hv] at h; cases h
   | some v =>
    rw [hv] at h
    simp only [Option.some.injEq] at h
    subst h
    refine ⟨fun m hm => by rw [hp d _ m hd, if_neg (fun e => hm (by rw [e]))], fun d' e => ?_, fun e => by cases e⟩
    cases e
    rw [hp d _ d hd, if_pos rfl]; simp [valY, hv]
theorem walkY_all {Θ : Tab} {K : Kn} {ops : List Oper} {B nxt0 : Nat} : ∀ {l : List Oper} {j : Nat} {tm tmN : TM} {mem memN : Mem} {ok okN : Bool} {E : List Ent}, walkY Θ K ops B nxt0 l j tm mem ok = some (E, tmN, memN, okN) → okN = true →
 (∀ (k : Nat) o d, l[k]? = some o → o.dst = some d → d < 1000000) →
 ok = true ∧ (∀ s, (∀ (k : Nat) o, l[k]? = some o → o.dst ≠ some s) → tmN.get s = tm.get s) ∧ (∀ i, Mem.get memN i = curD E j (fun _ => true) i (Mem.get mem i)) ∧
 ∀ (k : Nat) o, l[k]? = some o → ∃ e, E[k]? = some e ∧ entryY Θ K ops e.tm e.mem B (nxt0 + (j + k)) o = some (e.g, e.y) ∧ e.y.ok = true ∧
  (∀ d, o.dst = some d → (∀ (i : Nat) o', k < i → l[i]? = some o' → o'.dst ≠ some d) → tmN.get d = valY e.g e.y) ∧
  (∀ s, (∀ (i : Nat) o', k ≤ i → l[i]? = some o' → o'.dst ≠ some s) → tmN.get s = e.tm.get s) ∧
  (∀ i, Mem.get e.mem i = curD E j (fun n => decide (n < j + k)) i (Mem.get mem i)) ∧ (o.dst = none → e.g = true → e.y.v = none) ∧
  (∀ s, (∀ (i : Nat) o', i < k → l[i]? = some o' → o'.dst ≠ some s) → e.tm.get s = tm.get s)
 | [], j, tm, tmN, mem, memN, ok, okN, E, h, hok, hb => by
  simp only [walkY, Option.some.injEq, Prod.mk.injEq] at h
  obtain ⟨rfl, rfl, rfl, rfl⟩ := h
  exact ⟨hok, fun s _ => rfl, fun i => rfl, fun k o hk => by simp at hk⟩
 | o :: r, j, tm, tmN, mem, memN, ok, okN, E, h, hok, hb => by
  simp only [walkY] at h
  split at h
  ·rename_i g y he
   split at h
   ·rename_i tm' hs
    split at h
    ·rename_i E' tmN' memN' okN' hw
     simp only [Option.some.injEq, Prod.mk.injEq] at h
     obtain ⟨rfl, rfl, rfl, rfl⟩ := h
     obtain ⟨h1, h2, h3, h4⟩ := walkY_all hw hok (fun k o' d hk hd => hb (k + 1) o' d (by simpa using hk) hd)
     obtain ⟨hyok, hokk⟩ := and_split h1
     obtain ⟨hs1, hs2, hs3⟩ := setY_get hs (fun d hd => hb 0 o d rfl hd)
     have hwr : ∀ i, Mem.get (memY mem y) i = (match wr ⟨tm, mem, g, y⟩ i with | some b => b | none => Mem.get mem i) := fun i => get_memY
     refine ⟨hokk, fun s hn => ?_, fun i => ?_, fun k o' hk => ?_⟩
     ·rw [h2 s (fun k o' hk => hn (k + 1) o' (by simpa using hk)), hs1 s (hn 0 o rfl)]
     ·rw [h3 i, hwr i]; simp only [curD]
      cases wr ⟨tm, mem, g, y⟩ i <;> rfl
     ·cases k with
      | zero =>
       simp at hk; subst hk
       refine ⟨_, rfl, he, hyok, fun d hd hl => ?_, fun s hn => ?_, fun i => ?_, hs3, fun s _ => rfl⟩
       ·rw [h2 d (fun k o' hk => hl (k + 1) o' (by omega) (by simpa using hk))]; exact hs2 d hd
       ·rw [h2 s (fun k o' hk => hn (k + 1) o' (by omega) (by simpa using hk)), hs1 s (hn 0 o (Nat.le_refl _) rfl)]
       ·have : ∀ (E : List Ent) (n j : Nat) (acc : Option Blk), j ≤ n → curD E n (fun m => decide (m < j)) i acc = acc := by
         intro E
         induction E with
         | nil => intros; rfl
         | cons e1 r ih =>
          intro n j acc hle
          simp only [curD]
          rw [show decide (n < j) = false from decide_eq_false (by omega)]
          exact ih _ _ _ (by omega)
        exact (this _ _ _ _ (Nat.le_refl _)).symm
      | succ k =>
       obtain ⟨e, k1, k2, k3, k4, k5, k6, k7, k8⟩ := h4 k o' (by simpa using hk)
       refine ⟨e, by simpa using k1, by rwa [show j + (k + 1) = j + 1 + k from by omega], k3, fun d hd hl => k4 d hd (fun i o2 hi hgi => hl (i + 1) o2 (by omega) (by simpa using hgi)),
        fun s hn => k5 s (fun i o2 hi hgi => hn (i + 1) o2 (by omega) (by simpa using hgi)), fun i => ?_, k7, fun s hn => by rw [k8 s (fun i o2 hi hgi => hn (i + 1) o2 (by omega) (by simpa using hgi)), hs1 s (hn 0 o (by omega) rfl)]⟩
       rw [k6 i, hwr i]
       simp only [curD]
       rw [show decide (j < j + (k + 1)) = true from decide_eq_true (by omega), show j + 1 + k = j + (k + 1) from by omega]
       cases wr ⟨tm, mem, g, y⟩ i <;> rfl
    ·cases h
   ·cases h
  ·cases h
end Go.GX

namespace Go.GX
set_option linter.unusedSimpArgs false
set_option linter.unusedVariables false
set_option linter.unusedSectionVars false
open Go.RowKit (Below)
def allIdx {α : Type} (f : Nat → α → Bool) : List α → Nat → Bool
 | [], _ => true
 | x :: r, k => f k x && allIdx f r (k + 1)
theorem allIdx_spec {α : Type} {f : Nat → α → Bool} : ∀ {l : List α} {k : Nat}, allIdx f l k = true → ∀ (i : Nat) x, l[i]? = some x → f (k + i) x = true
 | [], _, _, i, x, h => by simp at h
 | y :: r, k, h, i, x, hi => by
  obtain ⟨h1, h2⟩ := and_split h
  cases i with
  | zero => simp at hi; subst hi; exact h1
  | succ i => have := allIdx_spec h2 i x (by simpa using hi); rwa [show k + (i + 1) = k + 1 + i from by omega]
def pairY (k : Nat) (o : Oper) (i : Nat) (p : Oper) : Bool := match p.dst with
 | none => true
 | some d => bif Nat.blt i k then (match o.dst with | some e => !(Nat.beq d e) | none => true) && (!((opdTmps o).contains d) || edgeTo o i)
  else !((opdTmps o).contains d) || (Nat.blt k i && edgeTo p k)
def depY (n : Nat) (ops : List Oper) (k : Nat) (o : Oper) : Bool :=
 (o.after.toList.all fun e => !Region.binds .any e || Nat.blt e.on k) &&
  ((match o.dst with | some d => Nat.blt d n | none => true) && ((match o.guard with | some (i, _) => edgeTo o i | none => true) && allIdx (pairY k o) ops 0))
structure DepsY (ops : List Oper) (n : Nat) : Prop where
 dst : ∀ (j : Nat) o d, ops[j]? = some o → o.dst = some d → d < n
 uniq : ∀ (i j : Nat) o o' d, ops[i]? = some o → ops[j]? = some o' → o.dst = some d → o'.dst = some d → i = j
 low : ∀ (j : Nat) o, ops[j]? = some o → ∀ e ∈ o.after, Region.binds .any e = true → e.on < j
 data : ∀ (i j : Nat) o o' d, ops[i]? = some o → ops[j]? = some o' → o.dst = some d → d ∈ opdTmps o' → (i < j ∧ edgeTo o' i = true) ∨ (j < i ∧ edgeTo o j = true)
 guard : ∀ (j : Nat) o i b, ops[j]? = some o → o.guard = some (i, b) → edgeTo o i = true
theorem DepsY.of {ops : List Oper} {n : Nat} (h : allIdx (depY n ops) ops 0 = true) : DepsY ops n := by
 have A : ∀ (j : Nat) o, ops[j]? = some o → depY n ops j o = true := fun j o hj => by have := allIdx_spec h j o hj; rwa [Nat.zero_add] at this
 have Pr : ∀ (i j : Nat) o o' d, ops[i]? = some o → ops[j]? = some o' → o.dst = some d → pairY j o' i o = true := fun i j o o' d hi hj hd => by
  have := A j o' hj
  unfold depY at this
  have := allIdx_spec (and_split (and_split (and_split this).2).2).2 i o hi
  rwa [Nat.zero_add] at this
 refine ⟨fun j o d hj hd => ?_, fun i j o o' d hi hj hd hd' => ?_, fun j o hj e he hb => ?_, fun i j o o' d hi hj hd hm => ?_, fun j o i b hj hg => ?_⟩
 ·have := A j o hj
  unfold depY at this
  have := (and_split (and_split this).2).1
  rw [hd] at this
  exact Nat.le_of_ble_eq_true this
 ·have key : ∀ (i j : Nat) o o', ops[i]? = some o → ops[j]? = some o' → o.dst = some d → o'.dst = some d → ¬ i < j := by
   intro i j o o' hi hj hd hd' hlt
   have := Pr i j o o' d hi hj hd
   unfold pairY at this
   rw [hd, hd'] at this
   simp only at this
   rw [show Nat.blt i j = true from Nat.ble_eq_true_of_le hlt] at this
   have := (and_split this).1
   rw [show Nat.beq d d = true from Nat.beq_refl d] at this
   cases this
  rcases Nat.lt_trichotomy i j with h1 | h1 | h1
  ·exact absurd h1 (key i j o o' hi hj hd hd')
  ·exact h1
  ·exact absurd h1 (key j i o' o hj hi hd' hd)
 ·have := A j o hj
  unfold depY at this
  have := List.all_eq_true.1 (and_split this).1 e (by simpa using he)
  rw [hb] at this
  exact Nat.le_of_ble_eq_true this
 ·have hp := Pr i j o o' d hi hj hd
  unfold pairY at hp
  rw [hd] at hp
  simp only at hp
  have hc : (opdTmps o').contains d = true := by simpa using hm
  rw [hc] at hp
  by_cases h1 : i < j
  ·rw [show Nat.blt i j = true from Nat.ble_eq_true_of_le h1] at hp
   have := (and_split hp).2
   exact .inl ⟨h1, by simpa using this⟩
  ·rw [show Nat.blt i j = false from by rw [Bool.eq_false_iff]; intro e; exact h1 (Nat.le_of_ble_eq_true e)] at hp
   simp only [cond_false, Bool.not_true, Bool.false_or] at hp
   obtain ⟨h2, h3⟩ := and_split hp
   exact .inr ⟨Nat.le_of_ble_eq_true h2, h3⟩
 ·have := A j o hj
  unfold depY at this
  have := (and_split (and_split (and_split this).2).2).1
  rw [hg] at this
  exact this
def predsY : List Oper → List Nat → List Nat
 | [], acc => acc
 | o :: r, acc => predsY r (acc ++ [o.after.toList.foldl (fun s e => bif Region.binds .any e then s ||| (2 ^ e.on ||| acc.getD e.on 0) else s) 0])
def indep (a b : Ent) : Bool := (a.y.w.all fun p => !(b.y.rs.contains p.1) && !((b.y.w.map (·.1)).contains p.1)) && (b.y.w.all fun p => !(a.y.rs.contains p.1))
theorem indep_spec {a b : Ent} (h : indep a b = true) : (∀ i, wr a i ≠ none → i ∉ b.y.rs ∧ wr b i = none) ∧ ∀ i, wr b i ≠ none → i ∉ a.y.rs ∧ wr a i = none := by
 unfold indep at h
 obtain ⟨h1, h2⟩ := and_split h
 rw [List.all_eq_true] at h1 h2
 have key : ∀ i, wr a i ≠ none → i ∉ b.y.rs ∧ wr b i = none := by
  intro i hi
  have hm := wrL_mem hi
  rw [List.mem_map] at hm
  obtain ⟨p, hp, rfl⟩ := hm
  have := h1 p hp
  simp only [Bool.and_eq_true, Bool.not_eq_true', List.contains_eq_mem, decide_eq_false_iff_not] at this
  refine ⟨this.1, ?_⟩
  cases hb : wr b p.1 with
  | none => rfl
  | some x => exact absurd (wrL_mem (by unfold wr at hb; rw [hb]; simp)) this.2
 refine ⟨key, fun i hi => ?_⟩
 have hm := wrL_mem hi
 rw [List.mem_map] at hm
 obtain ⟨p, hp, rfl⟩ := hm
 have := h2 p hp
 simp only [Bool.not_eq_true', List.contains_eq_mem, decide_eq_false_iff_not] at this
 refine ⟨this, ?_⟩
 cases ha : wr a p.1 with
 | none => rfl
 | some x => exact absurd (key p.1 (by rw [ha]; simp)).2 hi
def sameK (b : Blk) : Option Blk → Bool
 | some c => decide (c.t = b.t) && Nat.beq c.n b.n
 | none => false
def kindsOK (E : List Ent) : Bool := E.all fun b => b.y.ks.all fun k => match Mem.get b.mem k with
 | some b0 => E.all fun a => sameK b0 (Mem.get a.mem k) && (match wr a k with | none => true | some c => sameK b0 c)
 | none => false
theorem sameK_ty {b : Blk} {m m' : Mem} {k : Nat} (h : sameK b (Mem.get m k) = true) (h' : sameK b (Mem.get m' k) = true) (p : List Nat) : tyOf m k p = tyOf m' k p := by
 unfold tyOf
 cases hm : Mem.get m k with
 | none => rw [hm] at h; cases h
 | some c =>
  cases hm' : Mem.get m' k with
  | none => rw [hm'] at h'; cases h'
  | some c' =>
   rw [hm] at h; rw [hm'] at h'
   obtain ⟨h1, h2⟩ := and_split h
   obtain ⟨h3, h4⟩ := and_split h'
   simp only [of_decide_eq_true h1, of_decide_eq_true h3, Nat.eq_of_beq_eq_true h2, Nat.eq_of_beq_eq_true h4]
theorem curD_kind {b : Blk} {i : Nat} : ∀ {E : List Ent} {k : Nat} {D : Nat → Bool} {acc : Option Blk}, (∀ a ∈ E, (match wr a i with | none => true | some c => sameK b c) = true) → sameK b acc = true → sameK b (curD E k D i acc) = true
 | [], _, _, _, _, h => h
 | e :: r, k, D, acc, hE, h => by
  simp only [curD]
  refine curD_kind (fun a ha => hE a (by simp [ha])) ?_
  have h0 := hE e (by simp)
  cases hD : D k with
  | false => exact h
  | true =>
   cases hw : wr e i with
   | none => exact h
   | some c => rw [hw] at h0; exact h0
def confY (pr : List Nat) (E : List Ent) : Bool := kindsOK E && allIdx (fun k b => allIdx (fun i a => !(Nat.blt i k) || (indep a b || (pr.getD k 0).testBit i)) E 0) E 0
theorem foldl_bits {l : List Edge} {f : Edge → Nat} : ∀ {s i : Nat}, (l.foldl (fun s e => bif Region.binds .any e then s ||| f e else s) s).testBit i = true → s.testBit i = true ∨ ∃ e ∈ l, Region.binds .any e = true ∧ (f e).testBit i = true := by
 induction l with
 | nil => intro s i h; exact .inl h
 | cons e r ih =>
  intro s i h
  simp only [List.foldl_cons] at h
  rcases ih h with h | ⟨e', he', hb⟩
  ·cases hb : Region.binds .any e <;> rw [hb] at h
   ·exact .inl h
   ·simp only [cond_true, Nat.testBit_or, Bool.or_eq_true] at h
    rcases h with h | h
    ·exact .inl h
    ·exact .inr ⟨e, by simp, hb, h⟩
  ·exact .inr ⟨e', by simp [he'], hb⟩
theorem predsY_spec : ∀ {l : List Oper} {acc : List Nat} {D : Nat → Bool},
 (∀ (k : Nat) o, l[k]? = some o → ∀ e ∈ o.after, Region.binds .any e = true → e.on < acc.length + k) →
 (∀ k, k < acc.length → D k = true → ∀ i, (acc.getD k 0).testBit i = true → D i = true) →
 (∀ (k : Nat) o, l[k]? = some o → D (acc.length + k) = true → ∀ e ∈ o.after, Region.binds .any e = true → D e.on = true) →
 ∀ k, k < acc.length + l.length → (D k = true → ∀ i, ((predsY l acc).getD k 0).testBit i = true → D i = true)
 | [], acc, D, _, hacc, _, k, hk => by simpa [predsY] using hacc k (by simpa using hk)
 | o :: r, acc, D, hlow, hacc, hD, k, hk => by
  simp only [predsY]
  have hl : (acc ++ [o.after.toList.foldl (fun s e => bif Region.binds .any e then s ||| (2 ^ e.on ||| acc.getD e.on 0) else s) 0]).length = acc.length + 1 := by simp
  refine predsY_spec (D := D) (fun j o' hj e he hb => ?_) (fun j hj hDj i hbit => ?_) (fun j o' hj hDj => ?_) k (by rw [hl]; simp at hk; omega)
  ·rw [hl]; have := hlow (j + 1) o' (by simpa using hj) e he hb; omega
  ·rw [hl] at hj
   by_cases e : j = acc.length
   ·subst e
    have hg : (acc ++ [o.after.toList.foldl (fun s e => bif Region.binds .any e then s ||| (2 ^ e.on ||| acc.getD e.on 0) else s) 0]).getD acc.length 0 = o.after.toList.foldl (fun s e => bif Region.binds .any e then s ||| (2 ^ e.on ||| acc.getD e.on 0) else s) 0 := by
     simp [List.getD]
    rw [hg] at hbit
    rcases foldl_bits (f := fun e => 2 ^ e.on ||| acc.getD e.on 0) hbit with h | ⟨e, he, hb, h⟩
    ·simp at h
    ·have he' : e ∈ o.after := by simpa using he
     have hlt := hlow 0 o rfl e he' hb
     have hDe := hD 0 o rfl (by simpa using hDj) e he' hb
     simp only [Nat.testBit_or, Bool.or_eq_true, Nat.testBit_two_pow, decide_eq_true_eq] at h
     rcases h with h | h
     ·rw [← h]; exact hDe
     ·exact hacc e.on (by simpa using hlt) hDe i h
   ·have hlt : j < acc.length := by omega
    refine hacc j hlt hDj i ?_
    rwa [show ∀ l : List Nat, (acc ++ l).getD j 0 = acc.getD j 0 from fun l => by simp [List.getD, List.getElem?_append_left hlt]] at hbit
  ·rw [hl] at hDj
   exact hD (j + 1) o' (by simpa using hj) (by rwa [show acc.length + (j + 1) = acc.length + 1 + j from by omega])
end Go.GX

namespace Go.GX
set_option linter.unusedSimpArgs false
set_option linter.unusedVariables false
set_option linter.unusedSectionVars false
open Go.RowKit (Below)
variable [DefL]
structure DrawnY (base B nxt0 : Nat) (φ0 : Phi) (ops : Array Oper) (tm0 tmN : TM) (n : Nat) (mem0 : Mem) (E : List Ent) (w0 : World) (listed : Array Bool) (a : Act) (w : World) (φ : Phi) (memD : Mem) : Prop where
 size : listed.size = ops.size
 le : φ0.le φ
 tm : ∀ s v c, tmN.get s = some (v, c) → (∀ (j : Nat) o, ops[j]? = some o → o.dst = some s → listed.getD j false = true) → (c = true → VR φ v (a.tmps.getD s undef)) ∧ (c = false → a.tmps.getD s undef = undef)
 old : ∀ s v c, tm0.get s = some (v, c) → (∀ (j : Nat) o, ops[j]? = some o → o.dst = some s → listed.getD j false = false) → (c = true → VR φ v (a.tmps.getD s undef)) ∧ (c = false → a.tmps.getD s undef = undef)
 n : a.tmps.size = n
 defers : a.defers = DefL.ds
 mem : MemRel base φ memD B w
 get : ∀ i, Mem.get memD i = curD E 0 (fun k => listed.getD k false) i (Mem.get mem0 i)
 dom : ∀ i ph, φ i = some ph → i < nxt0 ∨ ∃ k, i = nxt0 + k ∧ listed.getD k false = true
 closed : ∀ (k : Nat) o, ops[k]? = some o → listed.getD k false = true → ∀ e ∈ o.after, Region.binds .any e = true → listed.getD e.on false = true
 below : Below base w0 w
theorem getD_set_eq {l : Array Bool} {i k : Nat} (hi : i < l.size) : (l.setIfInBounds i true).getD k false = (decide (k = i) || l.getD k false) := by
 by_cases e : k = i
 ·subst e; simp [hi]
 ·rw [getD_set_ne false (fun e' => e e'.symm)]; simp [e]
section
variable {P : Program} {Θ : Tab} {K : Kn} (hΘ : TabOK P Θ) (hK : KOK P K) {ops : Array Oper} {base B nxt0 : Nat} {φ0 : Phi} {tmN tm0 : TM} {n : Nat} {mem0 memN : Mem} {okN : Bool} {E : List Ent}
variable (hD : DepsY ops.toList n) (hC : confY (predsY ops.toList []) E = true) (hL : walkY Θ K ops.toList B nxt0 ops.toList 0 tm0 mem0 true = some (E, tmN, memN, okN)) (hok : okN = true) (hn : n ≤ 1000000) (hB : nxt0 + ops.size ≤ B)
include hΘ hK hD hC hL hok hn hB
theorem drawnY_any {Q : Exit → Act → World → Prop} {w0 : World}
 (hQ : ∀ φ a w, φ0.le φ → TmR φ tmN a.tmps → a.tmps.size = n → a.defers = DefL.ds → MemRel base φ memN B w → Below base w0 w → Q .normal a w) :
 ∀ (fuel : Nat) (listed : Array Bool) (a : Act) (w : World) (φ : Phi) (memD : Mem), DrawnY base B nxt0 φ0 ops tm0 tmN n mem0 E w0 listed a w φ memD → cntF listed.toList ≤ fuel → wpAny P .any ops Q fuel listed a w := by
 have hall := walkY_all hL hok (fun j o d hj hd => Nat.lt_of_lt_of_le (hD.dst j o d hj hd) hn)
 have hlen : ∀ (k : Nat) e, E[k]? = some e → k < ops.size := by
  intro k e hk
  have : E.length = ops.size := by
   have : ∀ (l : List Oper) (j : Nat) (tm : TM) (mem : Mem) (ok : Bool) E tm' mem' ok', walkY Θ K ops.toList B nxt0 l j tm mem ok = some (E, tm', mem', ok') → E.length = l.length := by
    intro l
    induction l with
    | nil =>
     intro j tm mem ok E tm' mem' ok' h
     simp only [walkY, Option.some.injEq, Prod.mk.injEq] at h
     obtain ⟨rfl, _⟩ := h
     rfl
    | cons o r ih =>
     intro j tm mem ok E tm' mem' ok' h
     simp only [walkY] at h
     split at h
     ·split at h
      ·split at h
       ·rename_i E' _ _ _ hw
        simp only [Option.some.injEq, Prod.mk.injEq] at h
        obtain ⟨rfl, _⟩ := h
        simp [ih _ _ _ _ _ _ _ _ hw]
       ·cases h
      ·cases h
     ·cases h
   simpa using this _ _ _ _ _ _ _ _ _ hL
  have := (List.getElem?_eq_some_iff.1 hk).1
  omega
 have hconf : ∀ (i k : Nat) a b, E[i]? = some a → E[k]? = some b → i < k → indep a b = true ∨ ((predsY ops.toList []).getD k 0).testBit i = true := by
  intro i k a b hi hk hlt
  have h1 := allIdx_spec (and_split hC).2 k b hk
  have h2 := allIdx_spec h1 i a hi
  simp only [Nat.zero_add] at h2
  rw [show Nat.blt i k = true from Nat.ble_eq_true_of_le hlt] at h2
  simpa using h2
 have hpred : ∀ (listed : Array Bool), (∀ (k : Nat) o, ops[k]? = some o → listed.getD k false = true → ∀ e ∈ o.after, Region.binds .any e = true → listed.getD e.on false = true) →
  ∀ k, k < ops.size → listed.getD k false = true → ∀ i, ((predsY ops.toList []).getD k 0).testBit i = true → listed.getD i false = true := by
  intro listed hc k hk
  exact predsY_spec (D := fun k => listed.getD k false) (fun j o hj e he hb => by have := hD.low j o hj e he hb; simpa using this) (fun j hj => by simp at hj) (fun j o hj hDj e he hb => hc j o (by simpa using hj) (by simpa using hDj) e he hb) k (by simpa using hk)
 have done : ∀ (listed : Array Bool) (a : Act) (w : World) (φ : Phi) (memD : Mem), DrawnY base B nxt0 φ0 ops tm0 tmN n mem0 E w0 listed a w φ memD → Region.ready .any ops listed = [] → Q .normal a w := by
  intro listed a w φ memD hI hr
  have hl : ∀ j, j < ops.size → listed.getD j false = true := by
   intro j
   induction j using Nat.strongRecOn with
   | _ j ih =>
    intro hj
    cases hb : listed.getD j true with
    | true =>
     have hjl : j < listed.size := by rw [hI.size]; exact hj
     simp [hjl] at hb ⊢
     exact hb
    | false =>
     exfalso
     have : j ∈ Region.ready .any ops listed := by
      rw [mem_ready]
      refine ⟨hb, _, Array.getElem?_eq_getElem hj, fun e he hbd => ?_⟩
      have hlt := hD.low j _ (by rw [Array.getElem?_toList]; exact Array.getElem?_eq_getElem hj) e he hbd
      exact ih e.on hlt (by omega)
     rw [hr] at this; cases this
  have hmN : MemRel base φ memN B w := hI.mem.forget (fun i b hi => by
   rw [hall.2.2.1 i] at hi
   rw [hI.get i]
   rw [← hi]
   refine curD_agree (fun j e hj _ => ?_)
   rw [Nat.zero_add]
   exact hl j (hlen j e hj))
  exact hQ φ a w hI.le (fun s v c hs => hI.tm s v c hs (fun j o hj _ => hl j (Array.getElem?_eq_some_iff.1 hj).1)) hI.n hI.defers hmN hI.below
 intro fuel
 induction fuel with
 | zero =>
  intro listed a w φ memD hI hc
  have hr : Region.ready .any ops listed = [] := by
   rw [List.eq_nil_iff_forall_not_mem]
   intro j hj
   rw [mem_ready] at hj
   obtain ⟨hb, o, ho, _⟩ := hj
   have hjl : j < listed.size := by rw [hI.size]; exact (Array.getElem?_eq_some_iff.1 ho).1
   have := cntF_zero (l := listed.toList) (by omega) j (listed[j]) (by simp [hjl])
   simp [hjl] at hb
   rw [this] at hb; cases hb
  exact ⟨hr, done listed a w φ memD hI hr⟩
 | succ fuel ih =>
  intro listed a w φ memD hI hc
  refine ⟨done listed a w φ memD hI, fun i hi => ?_⟩
  rw [mem_ready] at hi
  obtain ⟨hb, o, ho, hpre⟩ := hi
  have hol : ops.toList[i]? = some o := by simpa using ho
  obtain ⟨ent, hE, he, hyok, hlast, hsame, hmemj, hnone, hfirst⟩ := hall.2.2.2 i o hol
  rw [Nat.zero_add] at he
  have hiops : i < ops.size := (Array.getElem?_eq_some_iff.1 ho).1
  have hisz : i < listed.size := by rw [hI.size]; exact hiops
  have hni : listed.getD i false = false := by simp [hisz] at hb ⊢; exact hb
  let pend : Nat → Bool := fun s => (List.range ops.size).any fun j => (match ops[j]? with | some o => o.dst == some s | none => false) && !listed.getD j false
  let tms : TM := tm0.mix pend tmN 1 0
  have hpend : ∀ s, pend s = false ↔ ∀ (j : Nat) o, ops[j]? = some o → o.dst = some s → listed.getD j false = true := by
   intro s
   simp only [pend, List.any_eq_false, List.mem_range]
   constructor
   ·intro h j o' hj hd'
    have := h j (Array.getElem?_eq_some_iff.1 hj).1
    rw [hj] at this
    simp [hd'] at this
    simpa using this
   ·intro h j hj
    rw [Array.getElem?_eq_getElem hj]
    by_cases e : ops[j].dst = some s
    ·have := h j _ (Array.getElem?_eq_getElem hj) e
     rw [this]; simp
    ·simp [e]
  have hgs : ∀ s, tms.get s = bif pend s then tm0.get s else tmN.get s := fun s => by
   have := Tr.get_mix (p := pend) (t := tm0) (u := tmN) (a := 1) (b := 0) (n := s)
   simpa using this
  have hpend1 : ∀ s, pend s = true → ∀ (j : Nat) o, ops[j]? = some o → o.dst = some s → listed.getD j false = false := by
   intro s hs j oj hj hd
   simp only [pend, List.any_eq_true, List.mem_range] at hs
   obtain ⟨k, hk, hs⟩ := hs
   rw [Array.getElem?_eq_getElem hk] at hs
   simp only [Bool.and_eq_true, Bool.not_eq_true', beq_iff_eq] at hs
   have := hD.uniq j k oj ops[k] s (by simpa using hj) (by rw [Array.getElem?_toList]; exact Array.getElem?_eq_getElem hk) hd hs.1
   subst this
   exact hs.2
  have hT : TmR φ tms a.tmps := by
   intro s v' c' hs
   rw [hgs] at hs
   cases hp : pend s <;> rw [hp] at hs
   ·exact hI.tm s v' c' hs ((hpend s).1 hp)
   ·exact hI.old s v' c' hs (hpend1 s hp)
  have hslot : ∀ t, (∀ (k : Nat) o', ops.toList[k]? = some o' → o'.dst = some t → k < i ∧ edgeTo o k = true) → ent.tm.get t = tms.get t := by
   intro t ht
   have hp : pend t = false := (hpend t).2 (fun k o' hk hdk => by
    obtain ⟨hlt, hed⟩ := ht k o' (by simpa using hk) hdk
    obtain ⟨e, hem, heo, heb⟩ := edgeTo_mem hed
    have := hpre e hem heb
    rwa [heo] at this)
   rw [hgs, hp]
   simp only [cond_false]
   exact (hsame t (fun k o' hk hgk e => by have := (ht k o' hgk e).1; omega)).symm
  have hop : ∀ x ∈ o.op.operands, rd ent.tm x = rd tms x := fun x hx => rd_keep (fun t hxt => by
   have hmem : t ∈ opdTmps o := by
    simp only [opdTmps, List.mem_filterMap]
    exact ⟨x, by simpa using hx, by rw [hxt]⟩
   by_cases hlate : ∃ (k : Nat) (o' : Oper), ops.toList[k]? = some o' ∧ o'.dst = some t ∧ i < k
   ·obtain ⟨k, o', hk, hdk, hlt⟩ := hlate
    have hed : edgeTo o' i = true := by
     rcases hD.data k i o' o t hk hol hdk hmem with h | h
     ·omega
     ·exact h.2
    have hkn : listed.getD k false = false := by
     cases hl : listed.getD k false with
     | false => rfl
     | true =>
      obtain ⟨e, hem, heo, heb⟩ := edgeTo_mem hed
      have := hI.closed k o' (by simpa using hk) hl e hem heb
      rw [heo, hni] at this; cases this
    have hp : pend t = true := by
     cases hp : pend t with
     | true => rfl
     | false =>
      have := (hpend t).1 hp k o' (by simpa using hk) hdk
      rw [hkn] at this; cases this
    rw [hgs, hp]
    simp only [cond_true]
    exact hfirst t (fun j o2 hj hgj e2 => by
     have := hD.uniq j k o2 o' t hgj hk e2 hdk
     omega)
   ·exact hslot t (fun k o' hk hdk => by
     rcases hD.data k i o' o t hk hol hdk hmem with h | h
     ·exact h
     ·exact absurd ⟨k, o', hk, hdk, h.1⟩ hlate))
  have hgd : ∀ j want, o.guard = some (j, want) → guardV ent.tm ops.toList j want = guardV tms ops.toList j want := by
   intro j want hg
   have hed := hD.guard i o j want hol hg
   obtain ⟨e, hem, heo, heb⟩ := edgeTo_mem hed
   have hlow := hD.low i o hol e hem heb
   unfold guardV
   cases hoj : ops.toList[j]? with
   | none => rfl
   | some oj =>
    cases hdj : oj.dst with
    | none => simp only [hdj]
    | some dj =>
     simp only [hdj]
     rw [hslot dj (fun k o' hk hdk => by
      have := hD.uniq k j o' oj dj hk hoj hdk hdj
      subst this
      exact ⟨by omega, hed⟩)]
  have hcnt : cntF (listed.setIfInBounds i true).toList ≤ fuel := by
   have hf : listed.toList[i]? = some false := by
    have : listed[i]? = some false := by
     rw [Array.getElem?_eq_getElem hisz]
     simp [hisz] at hb
     rw [hb]
    simpa using this
   have := cntF_set hf
   rw [show (listed.setIfInBounds i true).toList = listed.toList.set i true from by simp]; omega
  have hprei : ∀ j, j ≠ i → ((predsY ops.toList []).getD i 0).testBit j = true → listed.getD j false = true := by
   intro j e1 hj
   have h1 : (listed.setIfInBounds i true).getD j false = true := by
    refine hpred (listed.setIfInBounds i true) (fun k o' hk hl e he' hb' => ?_) i hiops (by rw [getD_set_eq hisz]; simp) j hj
    rw [getD_set_eq hisz] at hl ⊢
    by_cases e1 : k = i
    ·subst e1
     rw [ho] at hk; cases hk
     rw [hpre e he' hb']; simp
    ·simp only [e1, decide_false, Bool.false_or] at hl
     rw [hI.closed k o' hk hl e he' hb']; simp
   rw [getD_set_eq hisz] at h1
   simpa [e1] using h1
  have hafter : ∀ (k : Nat) b, E[k]? = some b → i < k → listed.getD k false = true → indep ent b = true := by
   intro k b hk hlt hl
   rcases hconf i k ent b hE hk hlt with h | h
   ·exact h
   ·have := hpred listed hI.closed k (hlen k b hk) hl i h
    rw [hni] at this; cases this
  have hks : ∀ i' ∈ ent.y.ks, ∀ p, tyOf memD i' p = tyOf ent.mem i' p := by
   intro i' hi' p
   have h1 := (and_split hC).1
   unfold kindsOK at h1
   have h2 := List.all_eq_true.1 h1 ent (List.mem_of_getElem? hE)
   have h3 := List.all_eq_true.1 h2 i' hi'
   split at h3
   ·rename_i b0 hb0
    have hall2 := List.all_eq_true.1 h3
    have hE0 : ∃ e0, E[0]? = some e0 := ⟨_, List.getElem?_eq_getElem (Nat.lt_of_le_of_lt (Nat.zero_le i) (List.getElem?_eq_some_iff.1 hE).1)⟩
    obtain ⟨e0, he0⟩ := hE0
    have hm0 : Mem.get e0.mem i' = Mem.get mem0 i' := by
     have h0 : ∃ o0, ops.toList[0]? = some o0 := ⟨_, List.getElem?_eq_getElem (by have := hlen 0 e0 he0; simpa using this)⟩
     obtain ⟨o0, ho0⟩ := h0
     obtain ⟨e1, k1, _, _, _, _, k6, _, _⟩ := hall.2.2.2 0 o0 ho0
     rw [he0] at k1; cases k1
     rw [k6 i', curD_agree (D' := fun _ => false) (fun j e _ _ => by simp)]
     have : ∀ (E : List Ent) (k : Nat) (acc : Option Blk), curD E k (fun _ => false) i' acc = acc := by
      intro E
      induction E with
      | nil => intros; rfl
      | cons e r ih => intro k acc; simp only [curD]; cases wr e i' <;> exact ih _ _
     exact this _ _ _
    have hk0 : sameK b0 (Mem.get mem0 i') = true := by
     rw [← hm0]; exact (and_split (hall2 e0 (List.mem_of_getElem? he0))).1
    have hkD : sameK b0 (Mem.get memD i') = true := by
     rw [hI.get i']
     exact curD_kind (fun a ha => (and_split (hall2 a ha)).2) hk0
    exact sameK_ty hkD ((and_split (hall2 ent (List.mem_of_getElem? hE))).1) p
   ·cases h3
  have hag : ∀ id ∈ ent.y.rs, Mem.get memD id = Mem.get ent.mem id := by
   intro id hid
   rw [hI.get id, hmemj id]
   refine curD_agree (fun j e hj hw => ?_)
   simp only [Nat.zero_add]
   rcases Nat.lt_trichotomy j i with h1 | h1 | h1
   ·rw [decide_eq_true h1]
    rcases hconf j i e ent hj hE h1 with h | h
    ·exact absurd hid ((indep_spec h).1 id hw).1
    ·exact hprei j (by omega) h
   ·subst h1; rw [hni]; simp
   ·rw [decide_eq_false (by omega)]
    cases hl : listed.getD j false with
    | false => rfl
    | true =>
     exfalso
     have h := hafter j e hj h1 hl
     exact absurd hid ((indep_spec h).2 id hw).1
  have hfr : φ (nxt0 + i) = none := by
   cases hp : φ (nxt0 + i) with
   | none => rfl
   | some ph =>
    rcases hI.dom _ ph hp with h | ⟨k, hk, hl⟩
    ·omega
    ·have : k = i := by omega
     subst this
     rw [hni] at hl; cases hl
  have next : ∀ ψ w' x memD', φ.le ψ → (∀ i' ph, ψ i' = some ph → φ i' = some ph ∨ i' = nxt0 + i) → MemRel base ψ memD' B w' →
   (∀ i', Mem.get memD' i' = match wrL ent.y.w i' with | some b => b | none => Mem.get memD i') → Below base w w' →
   (ent.g = true → ∀ u, ent.y.v = some u → VR ψ u x) → (ent.g = false → x = undef) → wpAny P .any ops Q fuel (listed.setIfInBounds i true) (a.put o.dst x) w' := by
   intro ψ w' x memD' hle hdom hmem' hget' hbw hx1 hx2
   have htm : ∀ s v' c', tmN.get s = some (v', c') → (∀ (j : Nat) o, ops[j]? = some o → o.dst = some s → (listed.setIfInBounds i true).getD j false = true) → o.dst ≠ some s →
    (c' = true → VR ψ v' (a.tmps.getD s undef)) ∧ (c' = false → a.tmps.getD s undef = undef) := by
    intro s v' c' hs hl hne
    obtain ⟨k1, k2⟩ := hI.tm s v' c' hs (fun j oj hj hdj => by
     have := hl j oj hj hdj
     rw [getD_set_eq hisz] at this
     have hji : j ≠ i := by
      intro e'; subst e'
      rw [ho] at hj; cases hj
      exact hne hdj
     simpa [hji] using this)
    exact ⟨fun e => VR_mono hle (k1 e), k2⟩
   refine ih _ _ _ ψ memD' ⟨by simp [hI.size], Phi.le_trans hI.le hle, fun s v' c' hs hl => ?_, fun s v' c' hs hl => ?_, ?_, ?_, hmem', fun i' => ?_, fun i' ph hp => ?_, fun k o' hk hl e he' hb' => ?_, hI.below.trans hbw⟩ hcnt
   ·cases hd : o.dst with
    | none => simp only [Act.put]; exact htm s v' c' hs hl (by rw [hd]; simp)
    | some d =>
     by_cases e : s = d
     ·subst e
      have hl1 := hlast s hd (fun k o' hk hgk e => by have := hD.uniq i k o o' s hol hgk hd e; omega)
      rw [hl1] at hs
      have hdn : s < a.tmps.size := by rw [hI.n]; exact hD.dst i o s hol hd
      have hz : (a.put (some s) x).tmps.getD s undef = x := by
       simp only [Act.put, Array.getD_eq_getD_getElem?]
       rw [Array.getElem?_setIfInBounds, if_pos rfl, if_pos hdn]
       rfl
      rw [hz]
      unfold valY at hs
      split at hs
      ·rename_i v hg hv
       cases hs
       exact ⟨fun _ => hx1 hg _ hv, fun e => (by cases e)⟩
      ·cases hs
      ·rename_i hg
       cases hs
       exact ⟨fun e => (by cases e), fun _ => hx2 hg⟩
     ·have hz : (a.put (some d) x).tmps.getD s undef = a.tmps.getD s undef := by
       simp only [Act.put, Array.getD_eq_getD_getElem?]
       rw [Array.getElem?_setIfInBounds, if_neg (fun e' => e e'.symm)]
      rw [hz]
      exact htm s v' c' hs hl (by rw [hd]; simpa using fun e' => e e'.symm)
   ·have hne : o.dst ≠ some s := by
     intro e
     have := hl i o ho e
     rw [getD_set_eq hisz] at this
     simp at this
    obtain ⟨k1, k2⟩ := hI.old s v' c' hs (fun j oj hj hdj => by
     have := hl j oj hj hdj
     rw [getD_set_eq hisz] at this
     simpa using (Bool.or_eq_false_iff.1 this).2)
    have hz : (a.put o.dst x).tmps.getD s undef = a.tmps.getD s undef := by
     cases hd : o.dst with
     | none => rfl
     | some d =>
      simp only [Act.put, Array.getD_eq_getD_getElem?]
      rw [Array.getElem?_setIfInBounds, if_neg (fun e' => hne (by rw [hd, e']))]
    rw [hz]
    exact ⟨fun e => VR_mono hle (k1 e), k2⟩
   ·cases hd : o.dst <;> simp [Act.put, hI.n]
   ·cases hd : o.dst <;> simp [Act.put, hI.defers]
   ·rw [hget' i', hI.get i']
    have hother : wr ent i' = none → curD E 0 (fun k => listed.getD k false) i' (Mem.get mem0 i') = curD E 0 (fun k => (listed.setIfInBounds i true).getD k false) i' (Mem.get mem0 i') := by
     intro hw0
     refine curD_agree (fun j e hj hw => ?_)
     rw [Nat.zero_add, getD_set_eq hisz]
     have : j ≠ i := by
      intro e'; subst e'
      rw [hE] at hj; cases hj
      exact hw hw0
     simp [this]
    cases hyw : wrL ent.y.w i' with
    | none => exact hother hyw
    | some b =>
     simp only
     refine (curD_last hE hyw (by rw [Nat.zero_add, getD_set_eq hisz]; simp) (fun l e' hlt hl' hw' => ?_)).symm
     rw [Nat.zero_add, getD_set_eq hisz]
     have hli : l ≠ i := by omega
     simp only [hli, decide_false, Bool.false_or]
     cases hll : listed.getD l false with
     | false => rfl
     | true =>
      exfalso
      have h := hafter l e' hl' hlt hll
      exact hw' ((indep_spec h).1 i' (by unfold wr; rw [hyw]; simp)).2
   ·rcases hdom i' ph hp with h | h
    ·rcases hI.dom i' ph h with h | ⟨k, hk, hl⟩
     ·exact .inl h
     ·exact .inr ⟨k, hk, by rw [getD_set_eq hisz, hl]; simp⟩
    ·exact .inr ⟨i, h, by rw [getD_set_eq hisz]; simp⟩
   ·rw [getD_set_eq hisz] at hl ⊢
    by_cases e1 : k = i
    ·subst e1
     rw [ho] at hk; cases hk
     rw [hpre e he' hb']; simp
    ·simp only [e1, decide_false, Bool.false_or] at hl
     rw [hI.closed k o' hk hl e he' hb']; simp
  have run : stepY Θ K ent.tm ent.mem B (nxt0 + i) o = some ent.y → ent.g = true → o.wp P a w (wpAny P .any ops Q fuel (listed.setIfInBounds i true)) Q := fun hs hg =>
   stepY_ok hΘ hK hI.mem hT hop hfr (by omega) hs hyok hag hks _ _ (fun ψ w' x memD' h1 h2 h3 h4 h5 h6 => next ψ w' x memD' h1 h2 h3 h4 h5 (fun _ => h6) (fun e => by rw [hg] at e; cases e))
  unfold wpOp
  rw [ho]
  simp only
  unfold entryY at he
  cases hg : o.guard with
  | none =>
   rw [hg] at he
   simp only [Option.map_eq_some_iff, Prod.mk.injEq] at he
   obtain ⟨y, hs, hg1, rfl⟩ := he
   rw [if_pos (by simp [Region.wanted, hg])]
   exact .inl (run hs hg1.symm)
  | some p =>
   obtain ⟨j, want⟩ := p
   rw [hg] at he
   simp only at he
   rw [hgd j want hg] at he
   split at he
   ·cases he
   ·rename_i hgv
    have hw := guard_ok hT hg hgv
    rw [hw]
    simp only [Option.map_eq_some_iff, Prod.mk.injEq] at he
    obtain ⟨y, hs, hg1, rfl⟩ := he
    simp only [if_true]
    exact .inl (run hs hg1.symm)
   ·rename_i hgv
    have hw := guard_ok hT hg hgv
    rw [hw]
    simp only [Option.some.injEq, Prod.mk.injEq] at he
    obtain ⟨hg1, hy⟩ := he
    simp only [Bool.false_eq_true, if_false]
    refine next φ w undef memD (Phi.le_refl _) (fun _ _ h => .inl h) hI.mem (fun i' => by rw [← hy]; rfl) (Below.refl _ _) (fun e => by rw [← hg1] at e; cases e) (fun _ => rfl)
end
def drawY (Θ : Tab) (K : Kn) (ops : List Oper) (st : St) : Option St :=
 bif Nat.ble st.n 1000000 && allIdx (depY st.n ops) ops 0 then
  match walkY Θ K ops (st.nxt + ops.length) st.nxt ops 0 st.tm st.mem true with
  | some (E, tmN, memN, okN) => bif confY (predsY ops []) E then some ⟨tmN, st.n, memN, st.nxt + ops.length, okN && st.ok⟩ else none
  | none => none
 else none
theorem drawY_ok {P : Program} {Θ : Tab} {K : Kn} (hΘ : TabOK P Θ) (hK : KOK P K) (hmix : P.follows .mixedOrders = true) {ops : Array Oper} {base : Nat} {Q : Exit → Act → World → Prop} {st st' : St} {φ : Phi} {a : Act} {w : World} {id : Nat}
 (h : drawY Θ K ops.toList st = some st') (hok : st'.ok = true) (hr : Rel base φ st a w) (hQ : ∀ ψ a' w', φ.le ψ → Rel base ψ st' a' w' → Below base w w' → Q .normal a' w') : (Code.region id ops true).wp P Q a w := by
 unfold drawY at h
 cases hb : Nat.ble st.n 1000000 && allIdx (depY st.n ops.toList) ops.toList 0 <;> rw [hb] at h
 ·cases h
 ·obtain ⟨h1, h2⟩ := and_split hb
  simp only [cond_true] at h
  split at h
  ·rename_i E tmN memN okN hL
   cases hc : confY (predsY ops.toList []) E <;> rw [hc] at h
   ·cases h
   ·simp only [cond_true, Option.some.injEq] at h
    subst h
    obtain ⟨hok2, hok1⟩ := and_split hok
    have hD := DepsY.of h2
    have hall := walkY_all hL hok2 (fun j o d hj hd => Nat.lt_of_lt_of_le (hD.dst j o d hj hd) (Nat.le_of_ble_eq_true h1))
    refine wp_region_any hmix (drawnY_any hΘ hK hD hc hL hok2 (Nat.le_of_ble_eq_true h1) (by simp) (w0 := w) (φ0 := φ) (base := base)
     (fun ψ a' w' g0 g1 g2 g3 g4 g5 => hQ ψ a' w' g0 ⟨g1, g2, g4, g3⟩ g5) ops.size _ _ _ φ st.mem ⟨by simp, Phi.le_refl _, fun s v c hs hl => ?_, fun s v c hs _ => hr.tm s v c hs, hr.n, hr.defers, ?_, fun i => ?_, fun i ph hp => .inl (hr.mem.fresh i ph hp).1, fun k o hk hl => ?_, ?_⟩ ?_)
    ·have hn := hall.2.1 s (fun j o hj hd => by
      have := hl j o (by simpa using hj) hd
      have hlt : j < ops.size := by have := (List.getElem?_eq_some_iff.1 hj).1; simpa using this
      simp [hlt] at this)
     rw [hn] at hs
     exact hr.tm s v c hs
    ·exact hr.mem.same ⟨Nat.le_refl _, fun _ _ => rfl⟩ (Nat.le_add_right _ _)
    ·rw [curD_agree (D' := fun _ => false) (fun j e _ _ => by simp [Array.getD_eq_getD_getElem?, Array.getElem?_replicate]; split <;> simp)]
     have : ∀ (E : List Ent) (k : Nat) (acc : Option Blk), curD E k (fun _ => false) i acc = acc := by
      intro E
      induction E with
      | nil => intros; rfl
      | cons e r ih => intro k acc; simp only [curD]; cases wr e i <;> exact ih _ _
     exact (this _ _ _).symm
    ·exfalso
     have : ((Array.replicate ops.size false).getD k false) = false := by simp [Array.getD_eq_getD_getElem?, Array.getElem?_replicate]; split <;> simp
     rw [this] at hl; cases hl
    ·exact (Below.refl base w).drew
    ·have : ∀ n, cntF (List.replicate n false) = n := by
      intro n
      unfold cntF
      rw [List.filter_replicate]; simp
     simp [this]
  ·cases h
end Go.GX

namespace Go.GX
set_option linter.unusedSimpArgs false
set_option linter.unusedVariables false
set_option linter.unusedSectionVars false
open Go.RowKit (Below)
theorem opv_memFree {Θ : Tab} {tm : TM} {mem mem' : Mem} {o : Oper} (h : memFree o.op = true) : opv Θ tm mem o = opv Θ tm mem' o := by
 obtain ⟨dst, op, type, pos, after, guard⟩ := o
 unfold opv
 cases op <;> first | (cases h; done) | (simp only [opn, opm, opv0]; done)
theorem tameX_memFree {Θ : Tab} {K : Kn} {tm : TM} {mem mem' : Mem} {nxt nxt' : Nat} {o : Oper} (h : memFree o.op = true) : tameX Θ K tm mem nxt o = tameX Θ K tm mem' nxt' o := by
 unfold tameX
 rw [opv_memFree h (mem' := mem')]
 cases hv : opv Θ tm mem' o with
 | some r => rfl
 | none =>
  obtain ⟨dst, op, type, pos, after, guard⟩ := o
  cases op <;> first | (cases h; done) | rfl
theorem opx_congr {Θ : Tab} {K : Kn} {tm tm' : TM} {mem : Mem} {nxt : Nat} {o : Oper} (h : ∀ x ∈ o.op.operands, rd tm x = rd tm' x) : opx Θ K tm mem nxt o = opx Θ K tm' mem nxt o := by
 unfold opx
 obtain ⟨dst, op, type, pos, after, guard⟩ := o
 cases op
 case store t a x => simp only [opxI]; rw [h a (by simp [Op.operands]), h x (by simp [Op.operands])]
 case call c =>
  obtain ⟨callee, args, ts⟩ := c
  cases callee
  case value f =>
   simp only [opxI]
   rw [h f (by simp [Op.operands, Call.operands]), rds_congr (tm' := tm') (fun x hx => h x (by simp [Op.operands, Call.operands] at hx ⊢; exact .inr hx))]
  case builtin b =>
   cases b <;> try rfl
   case copy =>
    simp only [opxI]
    rw [copX_congr (tm' := tm') (fun x hx => h x (by simp [Op.operands, Call.operands] at hx ⊢; exact hx))]
   case clear =>
    simp only [opxI]
    rw [clrX_congr (tm' := tm') (fun x hx => h x (by simp [Op.operands, Call.operands] at hx ⊢; exact hx))]
   simp only [opxI]
   rw [appX_congr (tm' := tm') (fun x hx => h x (by simp [Op.operands, Call.operands] at hx ⊢; exact hx))]
  all_goals rfl
 all_goals exact opxI_congr (fun _ _ _ => by simp) rfl h
theorem putV_get {tm tm' : TM} {n : Nat} {dst : Option Tmp} {v : V} {g : Bool} (hn : n ≤ 1000000) (h : putV tm n dst (some v) g = some tm') :
 (∀ s, dst ≠ some s → tm'.get s = tm.get s) ∧ (∀ d, dst = some d → tm'.get d = some (v, g) ∧ d < n) := by
 unfold putV at h
 split at h
 ·cases h; exact ⟨fun _ _ => rfl, fun d e => by cases e⟩
 ·rename_i d
  cases hd : Nat.blt d n <;> rw [hd] at h
  ·cases h
  ·have hd : d < n := Nat.le_of_ble_eq_true hd
   simp only [cond_true] at h
   cases h
   have hp : ∀ m, (Tr.set tm d (v, g)).get m = if m = d then some (v, g) else tm.get m := fun m => Tr.get_put_eq 40 tm d (v, g) m (Nat.lt_of_lt_of_le (Nat.succ_lt_succ (Nat.lt_of_lt_of_le hd hn)) (by decide))
   exact ⟨fun s hs => by rw [hp, if_neg (fun e => hs (by rw [e]))], fun d' e => by cases e; exact ⟨by rw [hp, if_pos rfl], hd⟩⟩
def frE (Θ : Tab) (tm : TM) (o : Oper) : Bool := match opn Θ tm o with | some _ => true | none => memFree o.op
def opE (Θ : Tab) (K : Kn) (st : St) (o : Oper) : Option (St × (Bool × Bool)) :=
 match tameX Θ K st.tm st.mem st.nxt o with
 | some (v, c) => match putV st.tm st.n o.dst (some v) true with | some tm => some (⟨tm, st.n, st.mem, st.nxt, c && st.ok⟩, (false, frE Θ st.tm o)) | none => none
 | none => match opx Θ K st.tm st.mem st.nxt o with
  | some r => match putV st.tm st.n o.dst r.v true with | some tm => some (⟨tm, st.n, r.mem, r.nxt, r.ok && st.ok⟩, (true, false)) | none => none
  | none => none
def opN (st : St) (o : Oper) : Option (St × (Bool × Bool)) := match putV st.tm st.n o.dst (some dummy) false with | some tm => some (⟨tm, st.n, st.mem, st.nxt, st.ok⟩, (false, true)) | none => none
def opZ (Θ : Tab) (K : Kn) (ops : List Oper) (st : St) (o : Oper) : Option (St × (Bool × Bool)) :=
 match o.guard with
 | none => opE Θ K st o
 | some (j, want) => match guardV st.tm ops j want with
  | none => none
  | some true => opE Θ K st o
  | some false => opN st o
def runZ (Θ : Tab) (K : Kn) (ops : List Oper) : List Oper → St → Option (St × List (Bool × Bool))
 | [], st => some (st, [])
 | o :: r, st => match opZ Θ K ops st o with
  | some (st', b) => match runZ Θ K ops r st' with | some (s, l) => some (s, b :: l) | none => none
  | none => none
def strictZ (pr : List Nat) (ops : List Oper) (fl : List (Bool × Bool)) : Bool :=
 allIdx (fun k b => allIdx (fun i a => !(Nat.blt i k) || (((fl.getD i (true, false)).2 || ((fl.getD k (true, false)).2 || (!(fl.getD i (true, false)).1 && !(fl.getD k (true, false)).1))) || (pr.getD k 0).testBit i)) ops 0) ops 0
structure RunZ (Θ : Tab) (K : Kn) (st : St) (o : Oper) (st' : St) (v : Option V) (b : Bool × Bool) : Prop where
 n : st'.n = st.n
 oth : ∀ s, o.dst ≠ some s → st'.tm.get s = st.tm.get s
 own : ∀ d, o.dst = some d → ∃ u, v = some u ∧ st'.tm.get d = some (u, true) ∧ d < st.n
 quiet : b.1 = false → ∃ u, v = some u ∧ tameX Θ K st.tm st.mem st.nxt o = some (u, true) ∧ st'.mem = st.mem ∧ st'.nxt = st.nxt
 acts : b.1 = true → b.2 = false ∧ ∃ r, opx Θ K st.tm st.mem st.nxt o = some r ∧ r.ok = true ∧ v = r.v ∧ st'.mem = r.mem ∧ st'.nxt = r.nxt
 free : b.2 = true → ∃ u, v = some u ∧ ∀ tms mem nxt, (∀ x ∈ o.op.operands, rd st.tm x = rd tms x) → tameX Θ K tms mem nxt o = some (u, true)
 ok : st.ok = true
theorem free_tame {Θ : Tab} {K : Kn} {st : St} {o : Oper} {v : V} {c : Bool} (hv : tameX Θ K st.tm st.mem st.nxt o = some (v, c)) (hf : frE Θ st.tm o = true) {tms : TM} {mem : Mem} {nxt : Nat} (hop : ∀ x ∈ o.op.operands, rd st.tm x = rd tms x) :
 tameX Θ K tms mem nxt o = some (v, c) := by
 unfold frE at hf
 rw [← tameX_congr (tm := st.tm) hop]
 split at hf
 ·rename_i r hr
  have e : ∀ (mem : Mem) (nxt : Nat), tameX Θ K st.tm mem nxt o = some r := fun mem nxt => by unfold tameX opv; rw [hr]
  rw [e] at hv ⊢
  exact hv
 ·rw [tameX_memFree hf (mem' := st.mem) (nxt' := st.nxt)]; exact hv
theorem opE_runZ {Θ : Tab} {K : Kn} {st st' : St} {o : Oper} {b : Bool × Bool} (hn : st.n ≤ 1000000) (h : opE Θ K st o = some (st', b)) (hok : st'.ok = true) : ∃ v, RunZ Θ K st o st' v b := by
 unfold opE at h
 split at h
 ·rename_i v c hv
  split at h
  ·rename_i tm ht
   simp only [Option.some.injEq, Prod.mk.injEq] at h
   obtain ⟨rfl, rfl⟩ := h
   obtain ⟨rfl, hok2⟩ := and_split hok
   obtain ⟨h1, h2⟩ := putV_get hn ht
   exact ⟨some v, rfl, h1, fun d hd => ⟨v, rfl, (h2 d hd).1, (h2 d hd).2⟩, fun _ => ⟨v, rfl, hv, rfl, rfl⟩, fun e => (by cases e), fun hf => ⟨v, rfl, fun tms mem nxt hop => free_tame hv hf hop⟩, hok2⟩
  ·cases h
 ·rename_i hv
  split at h
  ·rename_i r hx
   split at h
   ·rename_i tm ht
    simp only [Option.some.injEq, Prod.mk.injEq] at h
    obtain ⟨rfl, rfl⟩ := h
    obtain ⟨hrok, hok2⟩ := and_split hok
    cases hrv : r.v with
    | some u =>
     rw [hrv] at ht
     obtain ⟨h1, h2⟩ := putV_get hn ht
     exact ⟨some u, rfl, h1, fun d hd => ⟨u, rfl, (h2 d hd).1, (h2 d hd).2⟩, fun e => (by cases e), fun _ => ⟨rfl, r, hx, hrok, hrv.symm, rfl, rfl⟩, fun e => (by cases e), hok2⟩
    | none =>
     rw [hrv] at ht
     unfold putV at ht
     cases hd : o.dst with
     | none =>
      rw [hd] at ht
      cases ht
      exact ⟨none, rfl, fun _ _ => rfl, fun d e => (by rw [hd] at e; cases e), fun e => (by cases e), fun _ => ⟨rfl, r, hx, hrok, hrv.symm, rfl, rfl⟩, fun e => (by cases e), hok2⟩
     | some d =>
      rw [hd] at ht
      simp only at ht
      cases hb : Nat.blt d st.n <;> rw [hb] at ht <;> cases ht
   ·cases h
  ·cases h
theorem opE_mono {Θ : Tab} {K : Kn} {st st' : St} {o : Oper} {b : Bool × Bool} (h : opE Θ K st o = some (st', b)) (hok : st'.ok = true) : st.ok = true := by
 unfold opE at h
 split at h
 ·split at h
  ·simp only [Option.some.injEq, Prod.mk.injEq] at h
   obtain ⟨rfl, _⟩ := h
   exact (and_split hok).2
  ·cases h
 ·split at h
  ·split at h
   ·simp only [Option.some.injEq, Prod.mk.injEq] at h
    obtain ⟨rfl, _⟩ := h
    exact (and_split hok).2
   ·cases h
  ·cases h
theorem opZ_mono {Θ : Tab} {K : Kn} {ops : List Oper} {st st' : St} {o : Oper} {b : Bool × Bool} (h : opZ Θ K ops st o = some (st', b)) (hok : st'.ok = true) : st.ok = true := by
 unfold opZ at h
 split at h
 ·exact opE_mono h hok
 ·split at h
  ·cases h
  ·exact opE_mono h hok
  ·unfold opN at h
   split at h
   ·simp only [Option.some.injEq, Prod.mk.injEq] at h
    obtain ⟨rfl, _⟩ := h
    exact hok
   ·cases h
theorem runZ_states {Θ : Tab} {K : Kn} {ops : List Oper} : ∀ {l : List Oper} {st stN : St} {fl : List (Bool × Bool)}, runZ Θ K ops l st = some (stN, fl) → ∃ F : Nat → St, F 0 = st ∧ F l.length = stN ∧ ∀ (k : Nat) o, l[k]? = some o → opZ Θ K ops (F k) o = some (F (k + 1), fl.getD k (true, false))
 | [], st, stN, fl, h => by
  simp only [runZ, Option.some.injEq, Prod.mk.injEq] at h
  obtain ⟨rfl, rfl⟩ := h
  exact ⟨fun _ => st, rfl, rfl, fun k o hk => by simp at hk⟩
 | o :: r, st, stN, fl, h => by
  simp only [runZ] at h
  split at h
  ·rename_i st' b hs
   split at h
   ·rename_i s l hr
    simp only [Option.some.injEq, Prod.mk.injEq] at h
    obtain ⟨rfl, rfl⟩ := h
    obtain ⟨F, h0, hN, hk⟩ := runZ_states hr
    refine ⟨fun k => match k with | 0 => st | k + 1 => F k, rfl, by simpa using hN, fun k o' hk' => ?_⟩
    cases k with
    | zero => simp at hk'; subst hk'; show opZ Θ K ops st o = some (F 0, b); rw [h0]; exact hs
    | succ k => exact hk k o' (by simpa using hk')
   ·cases h
  ·cases h
structure SkipZ (st : St) (o : Oper) (st' : St) : Prop where
 n : st'.n = st.n
 oth : ∀ s, o.dst ≠ some s → st'.tm.get s = st.tm.get s
 own : ∀ d, o.dst = some d → st'.tm.get d = some (dummy, false) ∧ d < st.n
 mem : st'.mem = st.mem ∧ st'.nxt = st.nxt
 ok : st.ok = true
theorem opZ_cases {Θ : Tab} {K : Kn} {ops : List Oper} {st st' : St} {o : Oper} {b : Bool × Bool} (hn : st.n ≤ 1000000) (h : opZ Θ K ops st o = some (st', b)) (hok : st'.ok = true) :
 (∃ v, RunZ Θ K st o st' v b ∧ ∀ j want, o.guard = some (j, want) → guardV st.tm ops j want = some true) ∨ (SkipZ st o st' ∧ b.1 = false ∧ ∃ j want, o.guard = some (j, want) ∧ guardV st.tm ops j want = some false) := by
 unfold opZ at h
 split at h
 ·rename_i hg
  obtain ⟨v, hv⟩ := opE_runZ hn h hok
  exact .inl ⟨v, hv, fun j want e => by rw [hg] at e; cases e⟩
 ·rename_i j want hg
  split at h
  ·cases h
  ·rename_i hgv
   obtain ⟨v, hv⟩ := opE_runZ hn h hok
   exact .inl ⟨v, hv, fun j' want' e => by rw [hg] at e; cases e; exact hgv⟩
  ·rename_i hgv
   unfold opN at h
   split at h
   ·rename_i tm ht
    simp only [Option.some.injEq, Prod.mk.injEq] at h
    obtain ⟨rfl, rfl⟩ := h
    obtain ⟨h1, h2⟩ := putV_get hn ht
    exact .inr ⟨⟨rfl, h1, h2, ⟨rfl, rfl⟩, hok⟩, rfl, j, want, hg, hgv⟩
   ·cases h
end Go.GX

namespace Go.GX
set_option linter.unusedSimpArgs false
set_option linter.unusedVariables false
set_option linter.unusedSectionVars false
open Go.RowKit (Below)
variable [DefL]
def pendZ (ops : Array Oper) (listed : Array Bool) (s : Nat) : Bool := (List.range ops.size).any fun j => (match ops[j]? with | some o => o.dst == some s | none => false) && !listed.getD j false
def mixZ (tm0 tmN : TM) (ops : Array Oper) (listed : Array Bool) : TM := tm0.mix (pendZ ops listed) tmN 1 0
theorem mixZ_get {tm0 tmN : TM} {ops : Array Oper} {listed : Array Bool} (s : Nat) : (mixZ tm0 tmN ops listed).get s = bif pendZ ops listed s then tm0.get s else tmN.get s := by
 have := Tr.get_mix (p := pendZ ops listed) (t := tm0) (u := tmN) (a := 1) (b := 0) (n := s)
 simpa [mixZ] using this
theorem pendZ_f {ops : Array Oper} {listed : Array Bool} {s : Nat} : pendZ ops listed s = false ↔ ∀ (j : Nat) o, ops[j]? = some o → o.dst = some s → listed.getD j false = true := by
 simp only [pendZ, List.any_eq_false, List.mem_range]
 constructor
 ·intro h j o' hj hd'
  have := h j (Array.getElem?_eq_some_iff.1 hj).1
  rw [hj] at this
  simp [hd'] at this
  simpa using this
 ·intro h j hj
  rw [Array.getElem?_eq_getElem hj]
  by_cases e : ops[j].dst = some s
  ·have := h j _ (Array.getElem?_eq_getElem hj) e
   rw [this]; simp
  ·simp [e]
def wpAnyJ (P : Program) (ops : Array Oper) (Q : Exit → Act → World → Prop) (J : Act → World → Prop) : Nat → Array Bool → Act → World → Prop
 | 0, listed, a, w => J a w ∧ (Region.ready .any ops listed = [] ∧ Q .normal a w)
 | fuel + 1, listed, a, w => J a w ∧ ((Region.ready .any ops listed = [] → Q .normal a w) ∧
  ∀ i ∈ Region.ready .any ops listed, match ops[i]? with
   | none => wpAnyJ P ops Q J fuel (listed.setIfInBounds i true) a w
   | some o => if Region.wanted o (yielded ops a.tmps) then o.wp P a w (wpAnyJ P ops Q J fuel (listed.setIfInBounds i true)) Q else wpAnyJ P ops Q J fuel (listed.setIfInBounds i true) (a.put o.dst undef) w)
structure Rep (P : Program) (ops rops : Array Oper) (Q : Exit → Act → World → Prop) (J : Act → World → Prop) : Prop where
 fwd : ∀ (i : Nat) o, ops[i]? = some o → ∃ o', rops[i]? = some o' ∧ o'.dst = o.dst ∧ o'.after = o.after ∧ o'.guard = o.guard ∧ ∀ a w, J a w → ∀ next, o.wp P a w next Q → o'.wp P a w next Q
 bwd : ∀ (i : Nat) o', rops[i]? = some o' → ∃ o, ops[i]? = some o
theorem Rep.refl {P : Program} {ops : Array Oper} {Q : Exit → Act → World → Prop} {J : Act → World → Prop} : Rep P ops ops Q J := ⟨fun i o h => ⟨o, h, rfl, rfl, rfl, fun _ _ _ _ h => h⟩, fun i o h => ⟨o, h⟩⟩
theorem Rep.ready {P : Program} {ops rops : Array Oper} {Q : Exit → Act → World → Prop} {J : Act → World → Prop} (h : Rep P ops rops Q J) {listed : Array Bool} {j : Nat} : j ∈ Region.ready .any rops listed ↔ j ∈ Region.ready .any ops listed := by
 rw [mem_ready, mem_ready]
 constructor
 ·rintro ⟨h1, o', h2, h3⟩
  obtain ⟨o, ho⟩ := h.bwd j o' h2
  obtain ⟨o2, k1, k2, k3, _⟩ := h.fwd j o ho
  rw [h2] at k1; cases k1
  exact ⟨h1, o, ho, by rw [← k3]; exact h3⟩
 ·rintro ⟨h1, o, h2, h3⟩
  obtain ⟨o', k1, k2, k3, _⟩ := h.fwd j o h2
  exact ⟨h1, o', k1, by rw [k3]; exact h3⟩
theorem Rep.yielded {P : Program} {ops rops : Array Oper} {Q : Exit → Act → World → Prop} {J : Act → World → Prop} (h : Rep P ops rops Q J) {t : Array Value} {j : Nat} : Go.yielded rops t j = Go.yielded ops t j := by
 unfold Go.yielded
 cases ho : ops[j]? with
 | some o =>
  obtain ⟨o', k1, k2, _⟩ := h.fwd j o ho
  rw [k1]
  simp only [Option.bind_some, k2]
 | none =>
  cases hr : rops[j]? with
  | none => rfl
  | some o' => obtain ⟨o, h1⟩ := h.bwd j o' hr; rw [ho] at h1; cases h1
theorem wpAnyJ_rep {P : Program} {ops rops : Array Oper} {Q : Exit → Act → World → Prop} {J : Act → World → Prop} (h : Rep P ops rops Q J) : ∀ {fuel : Nat} {listed : Array Bool} {a : Act} {w : World}, wpAnyJ P ops Q J fuel listed a w → wpAny P .any rops Q fuel listed a w
 | 0, listed, a, w, ⟨_, h1, h2⟩ => by
  refine ⟨?_, h2⟩
  rw [List.eq_nil_iff_forall_not_mem] at h1 ⊢
  exact fun j hj => h1 j (h.ready.1 hj)
 | fuel + 1, listed, a, w, ⟨hj, h1, h2⟩ => by
  refine ⟨fun hr => h1 ?_, fun i hi => ?_⟩
  ·rw [List.eq_nil_iff_forall_not_mem] at hr ⊢
   exact fun j hj => hr j (h.ready.2 hj)
  ·have := h2 i (h.ready.1 hi)
   unfold wpOp
   cases ho : ops[i]? with
   | none =>
    rw [ho] at this
    cases hr : rops[i]? with
    | none => exact wpAnyJ_rep h this
    | some o' => obtain ⟨o, h1⟩ := h.bwd i o' hr; rw [ho] at h1; cases h1
   | some o =>
    rw [ho] at this
    obtain ⟨o', k1, k2, k3, k4, k5⟩ := h.fwd i o ho
    rw [k1]
    simp only at this ⊢
    have hwant : Region.wanted o' (Go.yielded rops a.tmps) = Region.wanted o (Go.yielded ops a.tmps) := by
     unfold Region.wanted
     rw [k4]
     cases o.guard with
     | none => rfl
     | some p => simp only [h.yielded]
    rw [hwant]
    by_cases hw : Region.wanted o (Go.yielded ops a.tmps) = true
    ·rw [if_pos hw] at this ⊢
     exact .inl (k5 a w hj _ (Oper.wp_mono (fun a w h' => wpAnyJ_rep h h') this))
    ·rw [if_neg hw] at this ⊢
     rw [k2]
     exact wpAnyJ_rep h this
structure DrawnZ (base : Nat) (φ0 : Phi) (ops : Array Oper) (F : Nat → St) (A : Nat → Bool) (n : Nat) (w0 : World) (listed : Array Bool) (a : Act) (w : World) (φ : Phi) : Prop where
 size : listed.size = ops.size
 le : φ0.le φ
 tm : TmR φ (mixZ (F 0).tm (F ops.size).tm ops listed) a.tmps
 n : a.tmps.size = n
 defers : a.defers = DefL.ds
 mem : ∃ k, k ≤ ops.size ∧ (∀ j, j < ops.size → A j = true → (j < k ↔ listed.getD j false = true)) ∧ MemRel base φ (F k).mem (F k).nxt w
 closed : ∀ (k : Nat) o, ops[k]? = some o → listed.getD k false = true → ∀ e ∈ o.after, Region.binds .any e = true → listed.getD e.on false = true
 below : Below base w0 w
def JZ (φ0 : Phi) (ops : Array Oper) (F : Nat → St) (a : Act) (w : World) : Prop :=
 ∃ φ : Phi, φ0.le φ ∧ (∀ k o, φ.imm k = some o → w.heap[k]? = some o) ∧ ∀ s, (∀ (j : Nat) o, ops[j]? = some o → o.dst ≠ some s) → ∀ v, (F 0).tm.get s = some (v, true) → VR φ v (a.tmps.getD s undef)
section
variable {P : Program} {Θ : Tab} {K : Kn} (hΘ : TabOK P Θ) (hK : KOK P K) {ops : Array Oper} {base : Nat} {φ0 : Phi} {n : Nat} {F : Nat → St} {A B : Nat → Bool} {fl : List (Bool × Bool)}
variable (hD : DepsY ops.toList n) (hS : strictZ (predsY ops.toList []) ops.toList fl = true) (hA : ∀ k, fl.getD k (true, false) = (A k, B k)) (hF : ∀ (k : Nat) o, ops.toList[k]? = some o → opZ Θ K ops.toList (F k) o = some (F (k + 1), (A k, B k)))
variable (hok : (F ops.size).ok = true) (hn0 : (F 0).n = n) (hn : n ≤ 1000000)
include hF hok
theorem okZ : ∀ j, j ≤ ops.size → (F (ops.size - j)).ok = true
 | 0, _ => hok
 | j + 1, h => by
  have ih := okZ j (by omega)
  have hlt : ops.size - (j + 1) < ops.size := by omega
  have h1 := hF (ops.size - (j + 1)) _ (by rw [Array.getElem?_toList]; exact Array.getElem?_eq_getElem hlt)
  rw [show ops.size - (j + 1) + 1 = ops.size - j by omega] at h1
  exact opZ_mono h1 ih
theorem okZ' {k : Nat} (h : k ≤ ops.size) : (F k).ok = true := by
 have := okZ hF hok (ops.size - k) (by omega)
 rwa [show ops.size - (ops.size - k) = k by omega] at this
include hn0 hn
theorem nZ : ∀ k, k ≤ ops.size → (F k).n = n
 | 0, _ => hn0
 | k + 1, h => by
  have ih := nZ k (by omega)
  have hlt : k < ops.size := by omega
  rcases opZ_cases (by rw [ih]; exact hn) (hF k _ (by rw [Array.getElem?_toList]; exact Array.getElem?_eq_getElem hlt)) (okZ' hF hok (by omega)) with ⟨v, hv, _⟩ | ⟨hs, _⟩
  ·rw [hv.n, ih]
  ·rw [hs.n, ih]
theorem atZ {k : Nat} {o : Oper} (h : ops[k]? = some o) : (∃ v, RunZ Θ K (F k) o (F (k + 1)) v (A k, B k) ∧ ∀ j want, o.guard = some (j, want) → guardV (F k).tm ops.toList j want = some true) ∨
 (SkipZ (F k) o (F (k + 1)) ∧ A k = false ∧ ∃ j want, o.guard = some (j, want) ∧ guardV (F k).tm ops.toList j want = some false) := by
 have hlt := (Array.getElem?_eq_some_iff.1 h).1
 exact opZ_cases (by rw [nZ hF hok hn0 hn k (by omega)]; exact hn) (hF k o (by rw [Array.getElem?_toList]; exact h)) (okZ' hF hok (by omega))
theorem frameZ {i : Nat} : ∀ {k : Nat}, i ≤ k → k ≤ ops.size → ∀ s, (∀ j o, i ≤ j → j < k → ops[j]? = some o → o.dst ≠ some s) → (F k).tm.get s = (F i).tm.get s
 | 0, h, _, s, _ => by rw [show i = 0 by omega]
 | k + 1, h, hk, s, hs => by
  rcases Nat.lt_or_ge k i with h1 | h1
  ·rw [show i = k + 1 by omega]
  ·have hlt : k < ops.size := by omega
   have ho : ops[k]? = some ops[k] := Array.getElem?_eq_getElem hlt
   have hne := hs k _ h1 (by omega) ho
   have ih := frameZ h1 (by omega) s (fun j o h2 h3 => hs j o h2 (by omega))
   rcases atZ hF hok hn0 hn ho with ⟨v, hv, _⟩ | ⟨hs', _⟩
   ·rw [hv.oth s hne, ih]
   ·rw [hs'.oth s hne, ih]
theorem memZ {i : Nat} : ∀ {k : Nat}, i ≤ k → k ≤ ops.size → (∀ j, i ≤ j → j < k → A j = false) → (F k).mem = (F i).mem ∧ (F k).nxt = (F i).nxt
 | 0, h, _, _ => by rw [show i = 0 by omega]; exact ⟨rfl, rfl⟩
 | k + 1, h, hk, hs => by
  rcases Nat.lt_or_ge k i with h1 | h1
  ·rw [show i = k + 1 by omega]; exact ⟨rfl, rfl⟩
  ·have hlt : k < ops.size := by omega
   have ho : ops[k]? = some ops[k] := Array.getElem?_eq_getElem hlt
   have hq := hs k h1 (by omega)
   obtain ⟨ih1, ih2⟩ := memZ h1 (by omega) (fun j h2 h3 => hs j h2 (by omega))
   rcases atZ hF hok hn0 hn ho with ⟨v, hv, _⟩ | ⟨hs', _⟩
   ·obtain ⟨_, _, _, e1, e2⟩ := hv.quiet hq
    exact ⟨e1.trans ih1, e2.trans ih2⟩
   ·exact ⟨hs'.mem.1.trans ih1, hs'.mem.2.trans ih2⟩
theorem JZ_of {w0 : World} {listed : Array Bool} {a : Act} {w : World} {φ : Phi} (hI : DrawnZ base φ0 ops F A n w0 listed a w φ) : JZ φ0 ops F a w := by
 obtain ⟨k, _, _, hm⟩ := hI.mem
 refine ⟨φ, hI.le, hm.imm, fun s hs v hv => ?_⟩
 refine (hI.tm s v true ?_).1 rfl
 rw [mixZ_get]
 cases hp : pendZ ops listed s with
 | true => exact hv
 | false =>
  simp only [cond_false]
  rw [frameZ hF hok hn0 hn (Nat.zero_le _) (Nat.le_refl _) s (fun j o _ _ hj => hs j o (by simpa using hj))]
  exact hv
include hΘ hK hD hS hA
theorem drawnZ_any {Q : Exit → Act → World → Prop} {w0 : World}
 (hQ : ∀ φ a w, φ0.le φ → TmR φ (F ops.size).tm a.tmps → a.tmps.size = n → a.defers = DefL.ds → MemRel base φ (F ops.size).mem (F ops.size).nxt w → Below base w0 w → Q .normal a w) :
 ∀ (fuel : Nat) (listed : Array Bool) (a : Act) (w : World) (φ : Phi), DrawnZ base φ0 ops F A n w0 listed a w φ → cntF listed.toList ≤ fuel → wpAnyJ P ops Q (JZ φ0 ops F) fuel listed a w := by
 have hpred : ∀ (listed : Array Bool), (∀ (k : Nat) o, ops[k]? = some o → listed.getD k false = true → ∀ e ∈ o.after, Region.binds .any e = true → listed.getD e.on false = true) →
  ∀ k, k < ops.size → listed.getD k false = true → ∀ i, ((predsY ops.toList []).getD k 0).testBit i = true → listed.getD i false = true := by
  intro listed hc k hk
  exact predsY_spec (D := fun k => listed.getD k false) (fun j o hj e he hb => by have := hD.low j o hj e he hb; simpa using this) (fun j hj => by simp at hj) (fun j o hj hDj e he hb => hc j o (by simpa using hj) (by simpa using hDj) e he hb) k (by simpa using hk)
 have hstr : ∀ (i k : Nat) a b, ops[i]? = some a → ops[k]? = some b → i < k → (B i = true ∨ B k = true ∨ (A i = false ∧ A k = false)) ∨ ((predsY ops.toList []).getD k 0).testBit i = true := by
  intro i k a b hi hk hlt
  have h1 := allIdx_spec hS k b (by rw [Array.getElem?_toList]; exact hk)
  have h2 := allIdx_spec h1 i a (by rw [Array.getElem?_toList]; exact hi)
  simp only [Nat.zero_add] at h2
  rw [show Nat.blt i k = true from Nat.ble_eq_true_of_le hlt, hA, hA] at h2
  simpa using h2
 have done : ∀ (listed : Array Bool) (a : Act) (w : World) (φ : Phi), DrawnZ base φ0 ops F A n w0 listed a w φ → Region.ready .any ops listed = [] → Q .normal a w := by
  intro listed a w φ hI hr
  have hl : ∀ j, j < ops.size → listed.getD j false = true := by
   intro j
   induction j using Nat.strongRecOn with
   | _ j ih =>
    intro hj
    cases hb : listed.getD j true with
    | true =>
     have hjl : j < listed.size := by rw [hI.size]; exact hj
     simp [hjl] at hb ⊢
     exact hb
    | false =>
     exfalso
     have : j ∈ Region.ready .any ops listed := by
      rw [mem_ready]
      refine ⟨hb, _, Array.getElem?_eq_getElem hj, fun e he hbd => ?_⟩
      have hlt := hD.low j _ (by rw [Array.getElem?_toList]; exact Array.getElem?_eq_getElem hj) e he hbd
      exact ih e.on hlt (by omega)
     rw [hr] at this; cases this
  obtain ⟨k, hk, hact, hm⟩ := hI.mem
  have hmm := memZ hF hok hn0 hn hk (Nat.le_refl _) (fun j h1 h2 => by
   cases ha : A j with
   | false => rfl
   | true => have := (hact j h2 ha).2 (hl j h2); omega)
  rw [← hmm.1, ← hmm.2] at hm
  refine hQ φ a w hI.le (fun s v c hs => hI.tm s v c ?_) hI.n hI.defers hm hI.below
  rw [mixZ_get, pendZ_f.2 (fun j o hj _ => hl j (Array.getElem?_eq_some_iff.1 hj).1)]
  exact hs
 intro fuel
 induction fuel with
 | zero =>
  intro listed a w φ hI hc
  have hr : Region.ready .any ops listed = [] := by
   rw [List.eq_nil_iff_forall_not_mem]
   intro j hj
   rw [mem_ready] at hj
   obtain ⟨hb, o, ho, _⟩ := hj
   have hjl : j < listed.size := by rw [hI.size]; exact (Array.getElem?_eq_some_iff.1 ho).1
   have := cntF_zero (l := listed.toList) (by omega) j (listed[j]) (by simp [hjl])
   simp [hjl] at hb
   rw [this] at hb; cases hb
  exact ⟨JZ_of hF hok hn0 hn hI, hr, done listed a w φ hI hr⟩
 | succ fuel ih =>
  intro listed a w φ hI hc
  refine ⟨JZ_of hF hok hn0 hn hI, done listed a w φ hI, fun i hi => ?_⟩
  rw [mem_ready] at hi
  obtain ⟨hb, o, ho, hpre⟩ := hi
  have hol : ops.toList[i]? = some o := by simpa using ho
  have hiops : i < ops.size := (Array.getElem?_eq_some_iff.1 ho).1
  have hisz : i < listed.size := by rw [hI.size]; exact hiops
  have hni : listed.getD i false = false := by simp [hisz] at hb ⊢; exact hb
  have hT := hI.tm
  have hlist : ∀ j, (listed.setIfInBounds i true).getD j false = (decide (j = i) || listed.getD j false) := fun j => getD_set_eq hisz
  have hslot : ∀ t, (∀ (k : Nat) o', ops.toList[k]? = some o' → o'.dst = some t → k < i ∧ edgeTo o k = true) → (F i).tm.get t = (mixZ (F 0).tm (F ops.size).tm ops listed).get t := by
   intro t ht
   have hp : pendZ ops listed t = false := pendZ_f.2 (fun k o' hk hdk => by
    obtain ⟨hlt, hed⟩ := ht k o' (by simpa using hk) hdk
    obtain ⟨e, hem, heo, heb⟩ := edgeTo_mem hed
    have := hpre e hem heb
    rwa [heo] at this)
   rw [mixZ_get, hp]
   simp only [cond_false]
   exact (frameZ hF hok hn0 hn (Nat.le_of_lt hiops) (Nat.le_refl _) t (fun j o' h1 h2 hj e => by have := (ht j o' (by simpa using hj) e).1; omega)).symm
  have hop : ∀ x ∈ o.op.operands, rd (F i).tm x = rd (mixZ (F 0).tm (F ops.size).tm ops listed) x := fun x hx => rd_keep (fun t hxt => by
   have hmem : t ∈ opdTmps o := by
    simp only [opdTmps, List.mem_filterMap]
    exact ⟨x, by simpa using hx, by rw [hxt]⟩
   by_cases hlate : ∃ (k : Nat) (o' : Oper), ops.toList[k]? = some o' ∧ o'.dst = some t ∧ i < k
   ·obtain ⟨k, o', hk, hdk, hlt⟩ := hlate
    have hed : edgeTo o' i = true := by
     rcases hD.data k i o' o t hk hol hdk hmem with h | h
     ·omega
     ·exact h.2
    have hkn : listed.getD k false = false := by
     cases hl : listed.getD k false with
     | false => rfl
     | true =>
      obtain ⟨e, hem, heo, heb⟩ := edgeTo_mem hed
      have := hI.closed k o' (by simpa using hk) hl e hem heb
      rw [heo, hni] at this; cases this
    have hp : pendZ ops listed t = true := by
     cases hp : pendZ ops listed t with
     | true => rfl
     | false =>
      have := pendZ_f.1 hp k o' (by simpa using hk) hdk
      rw [hkn] at this; cases this
    rw [mixZ_get, hp]
    simp only [cond_true]
    exact frameZ hF hok hn0 hn (Nat.zero_le _) (Nat.le_of_lt hiops) t (fun j o2 h1 h2 hj e2 => by
     have := hD.uniq j k o2 o' t (by simpa using hj) hk e2 hdk
     omega)
   ·exact hslot t (fun k o' hk hdk => by
     rcases hD.data k i o' o t hk hol hdk hmem with h | h
     ·exact h
     ·exact absurd ⟨k, o', hk, hdk, h.1⟩ hlate))
  have hgd : ∀ j want, o.guard = some (j, want) → guardV (F i).tm ops.toList j want = guardV (mixZ (F 0).tm (F ops.size).tm ops listed) ops.toList j want := by
   intro j want hg
   have hed := hD.guard i o j want hol hg
   obtain ⟨e, hem, heo, heb⟩ := edgeTo_mem hed
   have hlow := hD.low i o hol e hem heb
   unfold guardV
   cases hoj : ops.toList[j]? with
   | none => rfl
   | some oj =>
    cases hdj : oj.dst with
    | none => simp only [hdj]
    | some dj =>
     simp only [hdj]
     rw [hslot dj (fun k o' hk hdk => by
      have := hD.uniq k j o' oj dj hk hoj hdk hdj
      subst this
      exact ⟨by omega, hed⟩)]
  have hcnt : cntF (listed.setIfInBounds i true).toList ≤ fuel := by
   have hf : listed.toList[i]? = some false := by
    have : listed[i]? = some false := by
     rw [Array.getElem?_eq_getElem hisz]
     simp [hisz] at hb
     rw [hb]
    simpa using this
   have := cntF_set hf
   rw [show (listed.setIfInBounds i true).toList = listed.toList.set i true from by simp]; omega
  have hclosed : ∀ (k : Nat) o, ops[k]? = some o → (listed.setIfInBounds i true).getD k false = true → ∀ e ∈ o.after, Region.binds .any e = true → (listed.setIfInBounds i true).getD e.on false = true := by
   intro k o' hk hl e he' hb'
   rw [hlist] at hl ⊢
   by_cases e1 : k = i
   ·subst e1
    rw [ho] at hk; cases hk
    rw [hpre e he' hb']; simp
   ·simp only [e1, decide_false, Bool.false_or] at hl
    rw [hI.closed k o' hk hl e he' hb']; simp
  have hprei : ∀ j, j ≠ i → ((predsY ops.toList []).getD i 0).testBit j = true → listed.getD j false = true := by
   intro j e1 hj
   have h1 := hpred _ hclosed i hiops (by rw [hlist]; simp) j hj
   rw [hlist] at h1
   simpa [e1] using h1
  have htm : ∀ (x : Option (V × Bool)) (tm' : TM) (ψ : Phi) (tmps : Array Value), φ.le ψ → (∀ s, o.dst ≠ some s → tm'.get s = (mixZ (F 0).tm (F ops.size).tm ops listed).get s) → (∀ d, o.dst = some d → tm'.get d = (F (i + 1)).tm.get d) → TmR ψ tm' tmps →
   TmR ψ (mixZ (F 0).tm (F ops.size).tm ops (listed.setIfInBounds i true)) tmps := by
   intro _ tm' ψ tmps hle ho1 ho2 hT' s v c hs
   rw [mixZ_get] at hs
   by_cases e : o.dst = some s
   ·have hp : pendZ ops (listed.setIfInBounds i true) s = false := pendZ_f.2 (fun j oj hj hdj => by
     have := hD.uniq j i oj o s (by simpa using hj) hol hdj e
     rw [hlist, this]; simp)
    rw [hp] at hs
    simp only [cond_false] at hs
    refine hT' s v c ?_
    rw [ho2 s e, ← hs]
    exact (frameZ hF hok hn0 hn hiops (Nat.le_refl _) s (fun j oj h1 h2 hj hdj => by
     have := hD.uniq j i oj o s (by simpa using hj) hol hdj e
     omega)).symm
   ·have hp : pendZ ops (listed.setIfInBounds i true) s = pendZ ops listed s := by
     rw [Bool.eq_iff_iff, ← Bool.not_eq_false, ← Bool.not_eq_false (pendZ ops listed s), pendZ_f, pendZ_f]
     have : (∀ (j : Nat) o', ops[j]? = some o' → o'.dst = some s → (listed.setIfInBounds i true).getD j false = true) ↔ (∀ (j : Nat) o', ops[j]? = some o' → o'.dst = some s → listed.getD j false = true) := by
      constructor
      ·intro h j oj hj hdj
       have := h j oj hj hdj
       rw [hlist] at this
       have hji : j ≠ i := by
        intro e'; subst e'
        rw [ho] at hj; cases hj
        exact e hdj
       simpa [hji] using this
      ·intro h j oj hj hdj
       rw [hlist, h j oj hj hdj]; simp
     rw [this]
    rw [hp] at hs
    refine hT' s v c ?_
    rw [ho1 s e, mixZ_get]
    exact hs
  obtain ⟨k, hk, hact, hm⟩ := hI.mem
  have hfreeA : ∀ j oj, ops[j]? = some oj → A j = true → B j = false := by
   intro j oj hj ha
   rcases atZ hF hok hn0 hn hj with ⟨v, hv, _⟩ | ⟨_, h, _⟩
   ·exact (hv.acts ha).1
   ·have h : A j = false := h
    rw [ha] at h; cases h
  have hsame : B i = true ∨ ((F k).mem = (F i).mem ∧ (F k).nxt = (F i).nxt ∧ (A i = true → ∀ j, j < ops.size → A j = true → j ≠ i → (j < i ↔ listed.getD j false = true))) := by
   cases hf : B i with
   | true => exact .inl rfl
   | false =>
    refine .inr ?_
    have key : ∀ j, j < ops.size → A j = true → j ≠ i → (j < i ↔ listed.getD j false = true) := by
     intro j hjs ha hne
     have hj : ops[j]? = some ops[j] := Array.getElem?_eq_getElem hjs
     have hfj := hfreeA j _ hj ha
     constructor
     ·intro hlt
      rcases hstr j i _ o hj ho hlt with h | h
      ·rw [hf, hfj, ha] at h; simp at h
      ·exact hprei j hne h
     ·intro hl
      rcases Nat.lt_or_ge j i with h | h
      ·exact h
      ·exfalso
       have hlt : i < j := by omega
       rcases hstr i j o _ ho hj hlt with h | h
       ·rw [hf, hfj, ha] at h; simp at h
       ·have := hpred listed hI.closed j hjs hl i h
        rw [hni] at this; cases this
    have hmid : ∀ j, j < ops.size → A j = true → ¬ (i ≤ j ∧ j < k) := by
     intro j hj ha ⟨h1, h2⟩
     have hl := (hact j hj ha).1 h2
     by_cases e : j = i
     ·subst e; rw [hni] at hl; cases hl
     ·have := (key j hj ha e).2 hl; omega
    have hmid2 : ∀ j, j < ops.size → A j = true → ¬ (k ≤ j ∧ j < i) := by
     intro j hj ha ⟨h1, h2⟩
     have hl := (key j hj ha (by omega)).1 h2
     have := (hact j hj ha).2 hl; omega
    rcases Nat.le_total i k with h | h
    ·obtain ⟨e1, e2⟩ := memZ hF hok hn0 hn h hk (fun j h1 h2 => by
      cases ha : A j with
      | false => rfl
      | true => exact absurd ⟨h1, h2⟩ (hmid j (by omega) ha))
     exact ⟨e1, e2, fun _ => key⟩
    ·obtain ⟨e1, e2⟩ := memZ hF hok hn0 hn h (Nat.le_of_lt hiops) (fun j h1 h2 => by
      cases ha : A j with
      | false => rfl
      | true => exact absurd ⟨h1, h2⟩ (hmid2 j (by omega) ha))
     exact ⟨e1.symm, e2.symm, fun _ => key⟩
  have hni' : (F i).n = n := nZ hF hok hn0 hn i (Nat.le_of_lt hiops)
  have keep : ∀ (ψ : Phi) (w' : World), A i = false → MemRel base ψ (F k).mem (F k).nxt w' →
   ∃ k, k ≤ ops.size ∧ (∀ j, j < ops.size → A j = true → (j < k ↔ (listed.setIfInBounds i true).getD j false = true)) ∧ MemRel base ψ (F k).mem (F k).nxt w' := by
   intro ψ w' hq hm'
   refine ⟨k, hk, fun j hj ha => ?_, hm'⟩
   have hji : j ≠ i := by
    intro e'; subst e'
    rw [hq] at ha; cases ha
   rw [hlist, hact j hj ha]
   simp [hji]
  have next : ∀ (ψ : Phi) (w' : World) (x : Value) (v : V) (g : Bool), φ.le ψ → Below base w w' → (g = true → VR ψ v x) → (g = false → x = undef) → (∀ d, o.dst = some d → d < n ∧ (F (i + 1)).tm.get d = some (v, g)) →
   (∃ k, k ≤ ops.size ∧ (∀ j, j < ops.size → A j = true → (j < k ↔ (listed.setIfInBounds i true).getD j false = true)) ∧ MemRel base ψ (F k).mem (F k).nxt w') →
   wpAnyJ P ops Q (JZ φ0 ops F) fuel (listed.setIfInBounds i true) (a.put o.dst x) w' := by
   intro ψ w' x v g hle hbw hx1 hx2 hd hm'
   have hput : ∃ tm', putV (mixZ (F 0).tm (F ops.size).tm ops listed) n o.dst (some v) g = some tm' := by
    unfold putV
    cases hd' : o.dst with
    | none => exact ⟨_, rfl⟩
    | some d =>
     simp only
     rw [show Nat.blt d n = true from Nat.ble_eq_true_of_le (hd d hd').1]
     exact ⟨_, rfl⟩
   obtain ⟨tm', hput⟩ := hput
   obtain ⟨h1, h2, h3⟩ := putV_ok (x := x) (TmR_mono hle hT) hI.n hput (fun u hu => by cases hu; exact ⟨hx1, hx2⟩)
   have hg := putV_get hn hput
   exact ih _ _ _ ψ ⟨by simp [hI.size], Phi.le_trans hI.le hle, htm none tm' ψ (a.put o.dst x).tmps hle hg.1 (fun d hd' => by rw [(hg.2 d hd').1, (hd d hd').2]) h1, h2, h3.trans hI.defers, hm', hclosed, hI.below.trans hbw⟩ hcnt
  have goes : ∀ v, RunZ Θ K (F i) o (F (i + 1)) v (A i, B i) → o.wp P a w (wpAnyJ P ops Q (JZ φ0 ops F) fuel (listed.setIfInBounds i true)) Q := by
   intro v hv
   cases ha : A i with
   | false =>
    obtain ⟨u, rfl, ht, e1, e2⟩ := hv.quiet ha
    have ht' : tameX Θ K (mixZ (F 0).tm (F ops.size).tm ops listed) (F k).mem (F k).nxt o = some (u, true) := by
     rcases hsame with h | ⟨h1, h2, _⟩
     ·obtain ⟨u', h3, h4⟩ := hv.free h
      cases h3
      exact h4 _ _ _ hop
     ·rw [← tameX_congr (tm := (F i).tm) hop, h1, h2]; exact ht
    refine tameX_ok hΘ hK hm hT ht' _ _ (fun w' x hbw hx => ?_)
    exact next φ w' x u true (Phi.le_refl _) (hbw.mono hm.base) (fun _ => hx) (fun e => (by cases e)) (fun d hd => by
     obtain ⟨u', h1, h2, h3⟩ := hv.own d hd
     cases h1
     exact ⟨by rw [← hni']; exact h3, h2⟩) (keep φ w' ha (hm.same (Below.same hbw (Nat.le_refl _)) (Nat.le_refl _)))
   | true =>
    obtain ⟨hb0, r, hx, hrok, rfl, e1, e2⟩ := hv.acts ha
    rcases hsame with h | ⟨h1, h2, key⟩
    ·have hb0 : B i = false := hb0
     rw [h] at hb0; cases hb0
    ·have key := key ha
     have hx' : opx Θ K (mixZ (F 0).tm (F ops.size).tm ops listed) (F k).mem (F k).nxt o = some r := by
      rw [← opx_congr (tm := (F i).tm) hop, h1, h2]; exact hx
     refine opx_ok hΘ hK hm hT hx' hrok _ _ (fun ψ w' x g1 g2 g3 g4 _ => ?_)
     have hmem : ∃ k, k ≤ ops.size ∧ (∀ j, j < ops.size → A j = true → (j < k ↔ (listed.setIfInBounds i true).getD j false = true)) ∧ MemRel base ψ (F k).mem (F k).nxt w' := by
      refine ⟨i + 1, hiops, fun j hj ha' => ?_, by rw [e1, e2]; exact g2⟩
      rw [hlist]
      by_cases e : j = i
      ·subst e; simp
      ·have := key j hj ha' e
       simp only [e, decide_false, Bool.false_or]
       rw [← this]; omega
     cases hrv : r.v with
     | some u =>
      exact next ψ w' x u true g1 g3 (fun _ => g4 u hrv) (fun e => (by cases e)) (fun d hd => by
       obtain ⟨u', h1, h2, h3⟩ := hv.own d hd
       rw [hrv] at h1; cases h1
       exact ⟨by rw [← hni']; exact h3, h2⟩) hmem
     | none =>
      have hnd : o.dst = none := by
       cases hd : o.dst with
       | none => rfl
       | some d => obtain ⟨u', h1, _⟩ := hv.own d hd; rw [hrv] at h1; cases h1
      rw [hnd]
      have := next ψ w' undef dummy false g1 g3 (fun e => (by cases e)) (fun _ => rfl) (fun d hd => by rw [hnd] at hd; cases hd) hmem
      rw [hnd] at this
      exact this
  rw [ho]
  simp only
  rcases atZ hF hok hn0 hn ho with ⟨v, hv, hg1⟩ | ⟨hs, hAi, j, want, hg, hgv⟩
  ·cases hg : o.guard with
   | none =>
    rw [if_pos (by simp [Region.wanted, hg])]
    exact goes v hv
   | some p =>
    obtain ⟨j, want⟩ := p
    have := hg1 j want hg
    rw [hgd j want hg] at this
    rw [guard_ok hT hg this]
    simp only [if_true]
    exact goes v hv
  ·rw [hgd j want hg] at hgv
   rw [guard_ok hT hg hgv]
   simp only [Bool.false_eq_true, if_false]
   exact next φ w undef dummy false (Phi.le_refl _) (Below.refl _ _) (fun e => (by cases e)) (fun _ => rfl) (fun d hd => ⟨by rw [← hni']; exact (hs.own d hd).2, (hs.own d hd).1⟩) (keep φ w hAi hm)
end
def drawZ (Θ : Tab) (K : Kn) (ops : List Oper) (st : St) : Option St :=
 bif Nat.ble st.n 1000000 && allIdx (depY st.n ops) ops 0 then
  match runZ Θ K ops ops st with | some (s, fl) => bif strictZ (predsY ops []) ops fl then some s else none | none => none
 else none
theorem drawZ_okR {P : Program} {Θ : Tab} {K : Kn} (hΘ : TabOK P Θ) (hK : KOK P K) (hmix : P.follows .mixedOrders = true) {ops : Array Oper} {base : Nat} {Q : Exit → Act → World → Prop} {st st' : St} {φ : Phi} {a : Act} {w : World} {id : Nat} {rops : Array Oper} (hrs : rops.size = ops.size) (hrep : ∀ F : Nat → St, F 0 = st → Rep P ops rops Q (JZ φ ops F))
 (h : drawZ Θ K ops.toList st = some st') (hok : st'.ok = true) (hr : Rel base φ st a w) (hQ : ∀ ψ a' w', φ.le ψ → Rel base ψ st' a' w' → Below base w w' → Q .normal a' w') : (Code.region id rops true).wp P Q a w := by
 unfold drawZ at h
 cases hb : Nat.ble st.n 1000000 && allIdx (depY st.n ops.toList) ops.toList 0 <;> rw [hb] at h
 ·cases h
 ·obtain ⟨h1, h2⟩ := and_split hb
  simp only [cond_true] at h
  split at h
  ·rename_i s fl hrun
   cases h3 : strictZ (predsY ops.toList []) ops.toList fl <;> rw [h3] at h
   ·cases h
   ·simp only [cond_true, Option.some.injEq] at h
    subst h
    obtain ⟨F, f0, fN, hF⟩ := runZ_states hrun
    have hD := DepsY.of h2
    have fN : F ops.size = s := by simpa using fN
    have hn1 := Nat.le_of_ble_eq_true h1
    have hok' : (F ops.size).ok = true := by rw [fN]; exact hok
    have hlf : ∀ k, (Array.replicate ops.size false).getD k false = false := fun k => by simp [Array.getD_eq_getD_getElem?, Array.getElem?_replicate]; split <;> simp
    refine wp_region_any hmix ?_
    rw [hrs]
    refine (wpAnyJ_rep (hrep F f0) (drawnZ_any hΘ hK (F := F) (A := fun k => (fl.getD k (true, false)).1) (B := fun k => (fl.getD k (true, false)).2) (fl := fl) (n := st.n) (base := base) (φ0 := φ) (w0 := w) hD h3 (fun _ => rfl) hF hok' (by rw [f0]) hn1
     (fun ψ a' w' g0 g1 g2 g3 g4 g5 => hQ ψ a' w' g0 ⟨by rw [← fN]; exact g1, by rw [g2, ← fN]; exact (nZ hF hok' (by rw [f0]) hn1 ops.size (Nat.le_refl _)).symm, by rw [← fN]; exact g4, g3⟩ g5)
     ops.size _ _ _ φ ⟨by simp, Phi.le_refl _, fun s v c hs => ?_, hr.n, hr.defers, ⟨0, Nat.zero_le _, fun j hj ha => ⟨fun e => by omega, fun e => (by rw [hlf] at e; cases e)⟩, ?_⟩, fun k o hk hl => (by rw [hlf] at hl; cases hl), ?_⟩ ?_))
    ·rw [mixZ_get] at hs
     have hs : st.tm.get s = some (v, c) := by
      cases hp : pendZ ops (Array.replicate ops.size false) s <;> rw [hp] at hs
      ·simp only [cond_false] at hs
       rw [frameZ hF hok' (by rw [f0]) hn1 (Nat.zero_le _) (Nat.le_refl _) s (fun j o _ _ hj hdj => by
        have := pendZ_f.1 hp j o hj hdj
        rw [hlf] at this; cases this), f0] at hs
       exact hs
      ·simp only [cond_true] at hs
       rw [f0] at hs; exact hs
     exact hr.tm s v c hs
    ·rw [f0]; exact hr.mem.same ⟨Nat.le_refl _, fun _ _ => rfl⟩ (Nat.le_refl _)
    ·exact (Below.refl base w).drew
    ·have : ∀ n, cntF (List.replicate n false) = n := by
      intro n
      unfold cntF
      rw [List.filter_replicate]; simp
     simp [this]
  ·cases h
theorem drawZ_ok {P : Program} {Θ : Tab} {K : Kn} (hΘ : TabOK P Θ) (hK : KOK P K) (hmix : P.follows .mixedOrders = true) {ops : Array Oper} {base : Nat} {Q : Exit → Act → World → Prop} {st st' : St} {φ : Phi} {a : Act} {w : World} {id : Nat}
 (h : drawZ Θ K ops.toList st = some st') (hok : st'.ok = true) (hr : Rel base φ st a w) (hQ : ∀ ψ a' w', φ.le ψ → Rel base ψ st' a' w' → Below base w w' → Q .normal a' w') : (Code.region id ops true).wp P Q a w :=
 drawZ_okR hΘ hK hmix rfl (fun _ _ => Rep.refl) h hok hr hQ
theorem drawZ_mono {Θ : Tab} {K : Kn} {ops : List Oper} {st s : St} (hs : drawZ Θ K ops st = some s) (hok : s.ok = true) : st.ok = true := by
 unfold drawZ at hs
 cases hb : Nat.ble st.n 1000000 && allIdx (depY st.n ops) ops 0 <;> rw [hb] at hs
 ·cases hs
 ·simp only [cond_true] at hs
  split at hs
  ·rename_i s' fl hrun
   cases h3 : strictZ (predsY ops []) ops fl <;> rw [h3] at hs
   ·cases hs
   ·simp only [cond_true, Option.some.injEq] at hs
    subst hs
    have : ∀ {l : List Oper} {st : St} {fl : List (Bool × Bool)}, runZ Θ K ops l st = some (s', fl) → st.ok = true := by
     intro l
     induction l with
     | nil => intro st fl h; simp only [runZ, Option.some.injEq, Prod.mk.injEq] at h; rw [h.1]; exact hok
     | cons o r ih =>
      intro st fl h
      simp only [runZ] at h
      split at h
      ·rename_i st1 b h1
       split at h
       ·rename_i s2 l2 h2
        simp only [Option.some.injEq, Prod.mk.injEq] at h
        obtain ⟨rfl, _⟩ := h
        exact opZ_mono h1 (ih h2)
       ·cases h
      ·cases h
    exact this hrun
  ·cases hs
end Go.GX

namespace Go.GX
set_option linter.unusedSimpArgs false
set_option linter.unusedVariables false
set_option linter.unusedSectionVars false
open Go.RowKit (Below)
variable [DefL]
def quietOps (sym : Bool) : List Oper → Bool
 | [] => true
 | o :: r => (match o.op with
  | .store _ _ _ | .alloc _ | .box _ _ | .buildSlice _ _ _ | .makeSlice _ _ _ => false
  | .call ⟨.value _, _, _⟩ => sym
  | .call ⟨.builtin .append, _, _⟩ => false
  | .mapUpdate _ _ _ _ | .insert _ _ _ _ => false
  | _ => true) && quietOps sym r
def quietD (sym : Bool) (n : Nat) (ops : List Oper) : Bool := quietOps sym ops && depsOK ops [] 0 n
def drawP0 (sym : Bool) (Θ : Tab) (K : Kn) (ops : List Oper) (st : St) : Option St := bif quietD sym st.n ops then drawX sym Θ K ops st else drawY Θ K ops st
theorem drawP0_ok {P : Program} {Θ : Tab} {K : Kn} (hΘ : TabOK P Θ) (hK : KOK P K) (hmix : P.follows .mixedOrders = true) {sym : Bool} {ops : Array Oper} {base : Nat} {Q : Exit → Act → World → Prop} {st st' : St} {φ : Phi} {a : Act} {w : World} {id : Nat}
 (h : drawP0 sym Θ K ops.toList st = some st') (hok : st'.ok = true) (hr : Rel base φ st a w) (hQ : ∀ ψ a' w', φ.le ψ → Rel base ψ st' a' w' → Below base w w' → Q .normal a' w') : (Code.region id ops true).wp P Q a w := by
 unfold drawP0 at h
 cases hq : quietD sym st.n ops.toList <;> rw [hq] at h
 ·exact drawY_ok hΘ hK hmix h hok hr hQ
 ·exact drawX_ok hΘ hK hmix h hok hr (fun a' w' h1 h2 => hQ φ a' w' (Phi.le_refl _) h1 h2)
theorem drawP0_mono {sym : Bool} {Θ : Tab} {K : Kn} {ops : List Oper} {st s : St} (hs : drawP0 sym Θ K ops st = some s) (hok : s.ok = true) : st.ok = true := by
 unfold drawP0 at hs
 cases hq : quietD sym st.n ops <;> rw [hq] at hs
 ·simp only [cond_false] at hs
  unfold drawY at hs
  cases hb : Nat.ble st.n 1000000 && allIdx (depY st.n ops) ops 0 <;> rw [hb] at hs
  ·cases hs
  ·simp only [cond_true] at hs
   split at hs
   ·rename_i E tmN memN okN hL
    cases hc : confY (predsY ops []) E <;> rw [hc] at hs
    ·cases hs
    ·simp only [cond_true, Option.some.injEq] at hs
     subst hs
     exact (and_split hok).2
   ·cases hs
 ·simp only [cond_true] at hs
  unfold drawX at hs
  cases hb : Nat.ble st.n 1000000 && depsOK ops [] 0 st.n <;> rw [hb] at hs
  ·cases hs
  ·simp only [cond_true, Option.map_eq_some_iff] at hs
   obtain ⟨r, _, rfl⟩ := hs
   exact (and_split hok).2
def hasCall : List Oper → Bool
 | [] => false
 | o :: r => match o.op with | .call ⟨.value _, _, _⟩ | .mapEntry _ _ _ | .entryStore _ _ _ _ => true | _ => hasCall r
def drawP (sym : Bool) (Θ : Tab) (K : Kn) (ops : List Oper) (st : St) : Option St :=
 bif hasCall ops then (match drawZ Θ K ops st with | some s => some s | none => drawP0 sym Θ K ops st) else drawP0 sym Θ K ops st
theorem drawP_ok {P : Program} {Θ : Tab} {K : Kn} (hΘ : TabOK P Θ) (hK : KOK P K) (hmix : P.follows .mixedOrders = true) {sym : Bool} {ops : Array Oper} {base : Nat} {Q : Exit → Act → World → Prop} {st st' : St} {φ : Phi} {a : Act} {w : World} {id : Nat}
 (h : drawP sym Θ K ops.toList st = some st') (hok : st'.ok = true) (hr : Rel base φ st a w) (hQ : ∀ ψ a' w', φ.le ψ → Rel base ψ st' a' w' → Below base w w' → Q .normal a' w') : (Code.region id ops true).wp P Q a w := by
 unfold drawP at h
 cases hc : hasCall ops.toList <;> rw [hc] at h
 ·exact drawP0_ok hΘ hK hmix h hok hr hQ
 ·simp only [cond_true] at h
  split at h
  ·rename_i s hs
   cases h
   exact drawZ_ok hΘ hK hmix hs hok hr hQ
  ·exact drawP0_ok hΘ hK hmix h hok hr hQ
theorem drawP_mono {sym : Bool} {Θ : Tab} {K : Kn} {ops : List Oper} {st s : St} (hs : drawP sym Θ K ops st = some s) (hok : s.ok = true) : st.ok = true := by
 unfold drawP at hs
 cases hc : hasCall ops <;> rw [hc] at hs
 ·exact drawP0_mono hs hok
 ·simp only [cond_true] at hs
  split at hs
  ·rename_i s' h1
   cases hs
   exact drawZ_mono h1 hok
  ·exact drawP0_mono hs hok
end Go.GX
