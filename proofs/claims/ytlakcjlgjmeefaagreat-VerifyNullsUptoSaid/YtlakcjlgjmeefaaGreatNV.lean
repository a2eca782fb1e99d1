import Derived.Test.YtlakcjlgjmeefaaGreatNU
namespace Go.Proofs.Nu
open Go.GX
set_option linter.unusedVariables false
set_option linter.unusedSimpArgs false
def nulS (s : KD6) (id : Int) (nl : Bool) : KD6 := bif nl then withR (mapS (nul id nl) s) (wo id s.2.2.2.1) else mapS (nul id nl) s
theorem nulS_len {s : KD6} {id : Int} {nl : Bool} (hl : s.2.2.2.1.length ≤ 1048576) : (nulS s id nl).2.2.2.1.length ≤ 1048576 := by
  cases nl with
  | false => exact hl
  | true =>
    have := List.length_filter_le (fun x => !decide (x = id)) s.2.2.2.1
    show (List.filter _ _).length ≤ _
    omega
theorem nulS_reg {s : KD6} {id : Int} {nl : Bool} {r : Nat} (hr : r < 11) : (nulS s id nl).1.getD r dR = nul id nl (s.1.getD r dR) := by
  have : (nulS s id nl).1 = mp (nul id nl) s.1 11 := by cases nl <;> rfl
  rw [this, mp_getD, if_pos hr]
theorem E103_eq {s : KD6} {id : Int} {nl : Bool} (hl : s.2.2.2.1.length ≤ 1048576) : E103 (s, id, nl, ()) = some (nulS s id nl) := by
  have hl2 : (mapS (nul id nl) s).2.2.2.1.length ≤ 1048576 := hl
  show S103 F139a G139a F142 G142 s id nl = _
  unfold S103 nulS
  simp only [Dk.reI_eq, Dk.reO_eq, flI_eq, fl0_eq, flO_eq, (F139a_e id nl hl).1, (F139a_e id nl hl).2, (F142_e hl2).1, (F142_e hl2).2]
  cases nl <;> rfl
theorem F103_e {s : KD6} {id : Int} {nl : Bool} (hl : s.2.2.2.1.length ≤ 1048576) : F103 (s, id, nl, ()) = nulS s id nl ∧ G103 (s, id, nl, ()) = true := ofE (E103_eq hl)
theorem E90_21 (s : KD6) (r : Int) : E90 ((s, ([], (prN 21 r, (0, ())))), ()) = some (1, (cns 0, (0, (0, (0, ()))))) := by kernel_rfl
theorem E90_85 (s : KD6) (r : Int) : E90 ((s, ([], (prN 85 r, (0, ())))), ()) = some (1, (cns 0, (0, (0, (0, ()))))) := by kernel_rfl
theorem F46_21 (r : Int) : F46 ((21, (r, (0, (1, (0, ()))))), ()) = 5 := by kernel_rfl
theorem F46_85 (r : Int) : F46 ((85, (r, (0, (1, (0, ()))))), ()) = 5 := by kernel_rfl
theorem F54_21 (r : Int) : F54 ((21, (r, (0, (1, (0, ()))))), ()) = false := by kernel_rfl
theorem F54_85 (r : Int) : F54 ((85, (r, (0, (1, (0, ()))))), ()) = false := by kernel_rfl
theorem F90_e (s : KD6) {op : Int} (h : op = 21 ∨ op = 85) (r : Int) : F90 ((s, ([], (prN op r, (0, ())))), ()) = (1, (cns 0, (0, (0, (0, ()))))) ∧ G90 ((s, ([], (prN op r, (0, ())))), ()) = true := by
  have hE : E90 ((s, ([], (prN op r, (0, ())))), ()) = some (1, (cns 0, (0, (0, (0, ()))))) := by
    rcases h with rfl | rfl
    · exact E90_21 s r
    · exact E90_85 s r
  exact ofE hE
def mayB (d : Rg) : Prop := d.1 = 8 ∨ d.1 = 10
def wN (s : KD6) (op : Int) (r : Nat) : List (KD6 × (Int × Unit)) := [(nulS s (s.1.getD r dR).2.2.2.1 (decide (op = 85)), (1, ())), (nulS s (s.1.getD r dR).2.2.2.1 (decide (op = 21)), (2, ()))]
theorem E63a_eq {s : KD6} {r : Nat} (hr : r < 10) (hm : mayB (s.1.getD r dR)) (hl : s.2.2.2.1.length ≤ 1048576) : E63_a (s, (r : Int), ()) = some (wN s 21 r, 0, ()) := by
  have h90 := F90_e s (op := 21) (.inl rfl) (r : Int)
  have h46 := F46_21 (r : Int)
  have g46 : G46 ((21, ((r : Int), (0, (1, (0, ()))))), ()) = true := rfl
  unfold prN xI at h90
  have hn : Int.toNat (r : Int) = r := by omega
  show S63_a (fun x => G46 x && decide (F46 x = 5)) F90 G90 F102 G102 F103 G103 F104 G104 s (r : Int) = _
  unfold S63_a wN
  simp only [hn, h90.1, h90.2, h46, g46, (F103_e hl).1, (F103_e hl).2]
  have o1 : decide (0 ≤ (r : Int)) = true := decide_eq_true (by omega)
  have o2 : decide ((r : Int) < 11) = true := decide_eq_true (by omega)
  have o3 : decide (r < 11) = true := decide_eq_true (by omega)
  rw [o1, o2, o3]
  rcases hm with h | h <;> rw [h] <;> rfl
theorem E63b_eq {s : KD6} {r : Nat} (hr : r < 10) (hm : mayB (s.1.getD r dR)) (hl : s.2.2.2.1.length ≤ 1048576) : E63_b (s, (r : Int), ()) = some (wN s 85 r, 0, ()) := by
  have h90 := F90_e s (op := 85) (.inr rfl) (r : Int)
  have h46 := F46_85 (r : Int)
  have g46 : G46 ((85, ((r : Int), (0, (1, (0, ()))))), ()) = true := rfl
  unfold prN xI at h90
  have hn : Int.toNat (r : Int) = r := by omega
  show S63_b (fun x => G46 x && decide (F46 x = 5)) F90 G90 F102 G102 F103 G103 F104 G104 s (r : Int) = _
  unfold S63_b wN
  simp only [hn, h90.1, h90.2, h46, g46, (F103_e hl).1, (F103_e hl).2]
  have o1 : decide (0 ≤ (r : Int)) = true := decide_eq_true (by omega)
  have o2 : decide ((r : Int) < 11) = true := decide_eq_true (by omega)
  have o3 : decide (r < 11) = true := decide_eq_true (by omega)
  rw [o1, o2, o3]
  rcases hm with h | h <;> rw [h] <;> rfl
abbrev lkN (s : KD6) (op r : Int) : KDn6 × KDn27 := (s, ([], (prN op r, (0, ()))))
theorem ne_b {s : KD6} {r : Int} : ((lkN s 85 r, ()) : (KDn6 × KDn27) × Unit) ≠ u63_a (y63_a (lkN s 85 r, ())) := by
  intro h
  have := congrArg (fun x : (KDn6 × KDn27) × Unit => (x.1.2.2.1.getD 0 (0, (0, (0, (0, (0, ())))))).1) h
  exact absurd this (by show (85 : Int) ≠ 21; omega)
theorem F63_e {s : KD6} {op : Int} (ho : op = 21 ∨ op = 85) {r : Nat} (hr : r < 10) (hm : mayB (s.1.getD r dR)) (hl : s.2.2.2.1.length ≤ 1048576) : F63 (lkN s op r, ()) = (wN s op r, 0, ()) ∧ G63 (lkN s op r, ()) = true := by
  have hE : E63 (lkN s op r, ()) = some (wN s op r, 0, ()) := by
    rcases ho with rfl | rfl
    · exact (patE_hit (full := u63_a) (ext := y63_a) (E1 := E63_a) (x := (lkN s 21 (r : Int), ())) (y := (s, (r : Int), ())) rfl rfl).trans (E63a_eq hr hm hl)
    · exact (patE_miss ne_b).trans ((patE_hit (full := u63_b) (ext := y63_b) (E1 := E63_b) (x := (lkN s 85 (r : Int), ())) (y := (s, (r : Int), ())) rfl rfl).trans (E63b_eq hr hm hl))
  exact ofE hE
theorem ne_b26 {s : KD6} {r : Int} : ((lkN s 85 r, ()) : (KDn6 × KDn27) × Unit) ≠ u26_a (y26_a (lkN s 85 r, ())) := by
  intro h
  have := congrArg (fun x : (KDn6 × KDn27) × Unit => (x.1.2.2.1.getD 0 (0, (0, (0, (0, (0, ())))))).1) h
  exact absurd this (by show (85 : Int) ≠ 21; omega)
theorem F26_e {s : KD6} {op : Int} (ho : op = 21 ∨ op = 85) {r : Nat} (hr : r < 10) (hm : mayB (s.1.getD r dR)) (hl : s.2.2.2.1.length ≤ 1048576) : F26 (lkN s op r, ()) = (wN s op r, 0, ()) ∧ G26 (lkN s op r, ()) = true := by
  have h63 := F63_e ho hr hm hl
  have hE : E26 (lkN s op r, ()) = some (wN s op r, 0, ()) := by
    rcases ho with rfl | rfl
    · refine (patE_hit (full := u26_a) (ext := y26_a) (E1 := E26_a) (x := (lkN s 21 (r : Int), ())) (y := (s, (r : Int), ())) rfl rfl).trans ?_
      show S26_a (fun x => G46 x && decide (F46 x = 5)) (fun x => G54 x && decide (F54 x = false)) F63 G63 s (r : Int) = _
      unfold lkN prN xI at h63
      unfold S26_a
      simp only [h63.1, h63.2, F46_21, F54_21]
      rfl
    · refine (patE_miss ne_b26).trans ((patE_hit (full := u26_b) (ext := y26_b) (E1 := E26_b) (x := (lkN s 85 (r : Int), ())) (y := (s, (r : Int), ())) rfl rfl).trans ?_)
      show S26_b (fun x => G46 x && decide (F46 x = 5)) (fun x => G54 x && decide (F54 x = false)) F63 G63 s (r : Int) = _
      unfold lkN prN xI at h63
      unfold S26_b
      simp only [h63.1, h63.2, F46_85, F54_85]
      rfl
  exact ofE hE
theorem F35_e {a : KD6} (hl : a.2.2.2.1.length ≤ 1048576) : F35 (a, ()) = a ∧ G35 (a, ()) = true := by
  have hE : E35 (a, ()) = some a := by
    have h2 : G69 (a.2.2.2.1, ()) = true := decide_eq_true (show a.2.2.2.1.length * 8 ≤ 140737488355328 by omega)
    show S35 F69 G69 a = _
    unfold S35
    rw [h2]
    rfl
  exact ofE hE
theorem V130 {a b : KD6} {w : List (KD6 × (Int × Unit))} (hw : w = [(a, (1, ())), (b, (2, ()))]) (ha : a.2.2.2.1.length ≤ 1048576) (hb : b.2.2.2.1.length ≤ 1048576) :
    V13_0 ([], [], w, 2, 0, ()) = some (.inl ([a], [1], w, 2, 1, ())) ∧ V13_0 ([a], [1], w, 2, 1, ()) = some (.inl ([a, b], [1, 2], w, 2, 2, ())) ∧ V13_0 ([a, b], [1, 2], w, 2, 2, ()) = some (.inr ([a, b], [1, 2], ())) := by
  subst hw
  have h1 := F35_e ha
  have h2 := F35_e hb
  refine ⟨?_, ?_, ?_⟩
  · show R13_0 _ _ _ _ _ _ F35 G35 _ _ [] [] _ 2 0 = _
    unfold R13_0
    have e : ∀ d, List.getD [(a, ((1 : Int), ())), (b, (2, ()))] (Int.toNat 0) d = (a, (1, ())) := fun _ => rfl
    simp only [e, h1.1, h1.2]
    rw [bif_t (decide_eq_true (by omega)), bif_t (by simp [tt_eq])]
    rfl
  · show R13_0 _ _ _ _ _ _ F35 G35 _ _ [a] [1] _ 2 1 = _
    unfold R13_0
    have e : ∀ d, List.getD [(a, ((1 : Int), ())), (b, (2, ()))] (Int.toNat 1) d = (b, (2, ())) := fun _ => rfl
    simp only [e, h2.1, h2.2]
    rw [bif_t (decide_eq_true (by omega)), bif_t (by simp [tt_eq])]
    rfl
  · show R13_0 _ _ _ _ _ _ F35 G35 _ _ [a, b] [1, 2] _ 2 2 = _
    kernel_rfl
theorem F13_e {s : KD6} {op : Int} (ho : op = 21 ∨ op = 85) {r : Nat} (hr : r < 10) (hm : mayB (s.1.getD r dR)) (hl : s.2.2.2.1.length ≤ 1048576) :
    F13 (s, [], prN op r, 0, ()) = ([nulS s (s.1.getD r dR).2.2.2.1 (decide (op = 85)), nulS s (s.1.getD r dR).2.2.2.1 (decide (op = 21))], [1, 2], 0, ()) ∧ G13 (s, [], prN op r, 0, ()) = true := by
  have h26 := F26_e ho hr hm hl
  unfold lkN at h26
  have hok : okP (prN op r) = true := by rcases ho with rfl | rfl; exact (okP_N hr).1; exact (okP_N hr).2
  have g16 : G16 (prN op r, ()) = true := hok
  have g34 : G34 (prN op r, ()) = true := hok
  have h16 : F16 (prN op r, ()) = (0, 0, ()) := rfl
  have h34 : F34 (prN op r, ()) = [true, true, true] := rfl
  obtain ⟨v1, v2, v3⟩ := V130 (w := wN s op r) rfl (nulS_len (id := (s.1.getD r dR).2.2.2.1) (nl := decide (op = 85)) hl) (nulS_len (id := (s.1.getD r dR).2.2.2.1) (nl := decide (op = 21)) hl)
  have hwh : wh V13_0 ([], [], wN s op r, 2, 0, ()) = some ([nulS s (s.1.getD r dR).2.2.2.1 (decide (op = 85)), nulS s (s.1.getD r dR).2.2.2.1 (decide (op = 21))], [1, 2], ()) := by
    rw [wh_next v1, wh_next v2, wh_stop v3]
  have hV : W13_0 ([], [], wN s op r, 2, 0, ()) = _ := whV_of hwh
  have hQ : Q13_0 ([], [], wN s op r, 2, 0, ()) = true := whK_of hwh
  have hE : E13 (s, [], prN op r, 0, ()) = some ([nulS s (s.1.getD r dR).2.2.2.1 (decide (op = 85)), nulS s (s.1.getD r dR).2.2.2.1 (decide (op = 21))], [1, 2], 0, ()) := by
    show S13 F16 G16 F26 G26 F34 G34 F35 G35 W13_0 Q13_0 s [] (prN op r) 0 = _
    unfold S13
    have e2 : (((wN s op r).length : Nat) : Int) = 2 := rfl
    simp only [h16, g16, h34, g34, h26.1, h26.2, e2, hV, hQ]
    rfl
  exact ofE hE
theorem rg_of {x : Int} (hx : (Lit.int .i64 x).wf = true) : ∃ r : Nat, r < 10 ∧ Int.tmod (IntKind.wrap .i64 ((Int.tmod x 10) + 10)) 10 = (r : Int) := by
  have h1 := Int.tmod_lt_of_pos x (show (0 : Int) < 10 by omega)
  have h2 : -10 < Int.tmod x 10 := by
    rcases Int.le_total 0 x with h | h
    · have := Int.tmod_nonneg 10 h; omega
    · have h5 : Int.tmod x 10 = - Int.tmod (-x) 10 := by rw [Int.neg_tmod]; omega
      have := Int.tmod_lt_of_pos (-x) (show (0 : Int) < 10 by omega)
      omega
  rw [wi64 (by omega)]
  have h3 : 0 ≤ Int.tmod (Int.tmod x 10 + 10) 10 := Int.tmod_nonneg _ (by omega)
  have h4 := Int.tmod_lt_of_pos (Int.tmod x 10 + 10) (show (0 : Int) < 10 by omega)
  exact ⟨(Int.tmod (Int.tmod x 10 + 10) 10).toNat, by omega, by omega⟩
theorem nul_t {d : Rg} (h : mayB d) : nul d.2.2.2.1 true d = (1, (cns 0, (0, (0, (0, ()))))) := by
  unfold nul
  rcases h with h | h <;> rw [h] <;> simp
theorem nul_f {d : Rg} (h : mayB d) : nul d.2.2.2.1 false d = (7, d.2) ∨ nul d.2.2.2.1 false d = (9, d.2) := by
  unfold nul
  rcases h with h | h <;> rw [h] <;> simp
end Go.Proofs.Nu
