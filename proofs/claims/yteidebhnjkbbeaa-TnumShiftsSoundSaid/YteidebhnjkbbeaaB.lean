import Derived.Test.YteidebhnjkbbeaaT
import Derived.Test.YteidebhnjkbbeaaGb
import Derived.Test.YteidebhnjkbbeaaPB
namespace Go.Proofs
open Go.GX
set_option linter.unusedVariables false
abbrev U64 : Ty := .int .u64
abbrev I64 : Ty := .int .i64
abbrev vI (n : Int) : V := ⟨.int .i64, n⟩
abbrev vU (n : Int) : V := ⟨.int .u64, n⟩
abbrev vB (b : Bool) : V := ⟨.bool, b⟩
noncomputable abbrev CxA (K : Kn) : Cx := ⟨true, Try.Θ, K, 100, fun _ => none⟩
abbrev Tn : Ty := .pair (.int .u64) (.pair (.int .u64) .unit)
abbrev TE : Ty := .tup Tn (.tup (.int .i64) .tnil)
abbrev TBo : Ty := .tup Tn (.tup .bool .tnil)
abbrev vT (x : Tn.den) : V := ⟨Tn, x⟩
def tt : Nat → Bool → Bool
  | 0, b => b
  | n + 1, b => tt n b && true
structure Sp5 where
  may : Tn.den → Tn.den
  one : Tn.den → Int → Int
  has : Tn.den → Int → Bool
  rhas : Tn.den → Int → Bool
  meet : Tn.den → Tn.den → TBo.den
  rmeet : Tn.den → Tn.den → TBo.den
  isin : Tn.den → Tn.den → Bool
  risin : Tn.den → Tn.den → Bool
  join : Tn.den → Tn.den → Tn.den
  rjoin : Tn.den → Tn.den → Tn.den
  off : Int → Int → Tn.den
  rof : Int → Int → Tn.den
  cast : Tn.den → Int → Tn.den
  rcast : Tn.den → Int → Tn.den
  len : Int → Int
  iu : Int → Bool
def G_T (f : Tn.den → Tn.den) : List V → Option V := fun args => match args with | [⟨.pair (.int .u64) (.pair (.int .u64) .unit), x⟩] => some ⟨Tn, f x⟩ | _ => none
def G_TU {T : Ty} (f : Tn.den → Int → T.den) : List V → Option V := fun args => match args with | [⟨.pair (.int .u64) (.pair (.int .u64) .unit), x⟩, ⟨.int .u64, n⟩] => some ⟨T, f x n⟩ | _ => none
def G_TI {T : Ty} (f : Tn.den → Int → T.den) : List V → Option V := fun args => match args with | [⟨.pair (.int .u64) (.pair (.int .u64) .unit), x⟩, ⟨.int .i64, n⟩] => some ⟨T, f x n⟩ | _ => none
def G_TT {T : Ty} (f : Tn.den → Tn.den → T.den) : List V → Option V := fun args => match args with
  | [⟨.pair (.int .u64) (.pair (.int .u64) .unit), x⟩, ⟨.pair (.int .u64) (.pair (.int .u64) .unit), y⟩] => some ⟨T, f x y⟩ | _ => none
def G_UU {T : Ty} (f : Int → Int → T.den) (iu : Int → Bool) : List V → Option (V × Bool) := fun args => match args with | [⟨.int .u64, x⟩, ⟨.int .u64, y⟩] => some (⟨T, f x y⟩, iu x && iu y) | _ => none
def G_U {T : Ty} (f : Int → T.den) (iu : Int → Bool) : List V → Option (V × Bool) := fun args => match args with | [⟨.int .u64, x⟩] => some (⟨T, f x⟩, iu x) | _ => none
def pSb (g : List V → Option (V × Bool)) : Sm := fun args mem nxt => match g args with | some (v, c) => some (v, mem, nxt, c) | none => none
def G_0 : List V → Option V := fun args => match args with | [] => some (vB true) | _ => none
def D5 (q : Sp5) : Kn := kOf [(12, pS G_0), (9, pS (G_T q.may)), (13, pS (G_TU (T := .int .u64) q.one)), (15, pS (G_TU (T := .bool) q.has)), (16, pS (G_TU (T := .bool) q.rhas)), (17, pS (G_TT (T := TBo) q.meet)), (18, pS (G_TT (T := TBo) q.rmeet)),
  (19, pS (G_TT (T := .bool) q.isin)), (20, pS (G_TT (T := .bool) q.risin)), (21, pS (G_TT (T := Tn) q.join)), (22, pS (G_TT (T := Tn) q.rjoin)), (23, pSb (G_UU (T := Tn) q.off q.iu)), (24, pSb (G_UU (T := Tn) q.rof q.iu)),
  (28, pS (G_TI (T := Tn) q.cast)), (29, pS (G_TI (T := Tn) q.rcast)), (42, pSb (G_U (T := .int .i64) q.len q.iu))]
def D5a (q : Sp5) : Kn := kOf [(15, pS (G_TU (T := .bool) q.has)), (42, pSb (G_U (T := .int .i64) q.len q.iu))]
noncomputable def K5a (q : Sp5) : Kn := KX Try.Θ Try.F (D5a q) 100 10
noncomputable def K0 : Kn := KX Try.Θ Try.F (fun _ => none) 100 10
noncomputable def K5 (q : Sp5) : Kn := KX Try.Θ Try.F (D5 q) 100 10
def tbl0 : List UInt8 := [0, 1, 2, 2, 3, 3, 3, 3, 4, 4, 4, 4, 4, 4, 4, 4, 5, 5, 5, 5, 5, 5, 5, 5, 5, 5, 5, 5, 5, 5, 5, 5, 6, 6, 6, 6, 6, 6, 6, 6, 6, 6, 6, 6, 6, 6, 6, 6, 6, 6, 6, 6, 6, 6, 6, 6, 6, 6, 6, 6, 6, 6, 6, 6, 7, 7, 7, 7, 7, 7, 7, 7, 7, 7, 7, 7, 7, 7, 7, 7, 7, 7, 7, 7, 7, 7, 7, 7, 7, 7, 7, 7, 7, 7, 7, 7, 7, 7, 7, 7, 7, 7, 7, 7, 7, 7, 7, 7, 7, 7, 7, 7, 7, 7, 7, 7, 7, 7, 7, 7, 7, 7, 7, 7, 7, 7, 7, 7, 8, 8, 8, 8, 8, 8, 8, 8, 8, 8, 8, 8, 8, 8, 8, 8, 8, 8, 8, 8, 8, 8, 8, 8, 8, 8, 8, 8, 8, 8, 8, 8, 8, 8, 8, 8, 8, 8, 8, 8, 8, 8, 8, 8, 8, 8, 8, 8, 8, 8, 8, 8, 8, 8, 8, 8, 8, 8, 8, 8, 8, 8, 8, 8, 8, 8, 8, 8, 8, 8, 8, 8, 8, 8, 8, 8, 8, 8, 8, 8, 8, 8, 8, 8, 8, 8, 8, 8, 8, 8, 8, 8, 8, 8, 8, 8, 8, 8, 8, 8, 8, 8, 8, 8, 8, 8, 8, 8, 8, 8, 8, 8, 8, 8, 8, 8, 8, 8, 8, 8, 8, 8, 8, 8, 8, 8, 8, 8]
def S9 (t : Tn.den) : Option Tn.den :=
  some ((iandn .u64 t.1 t.2.1), (t.2.1, ()))
theorem t9 (t : Tn.den) : fnT (CxA K0) Try.f9 Tn [vT t] = S9 t := by kernel_rfl
def S13 (t : Tn.den) (n : Int) : Option Int :=
  some (ior .u64 t.1 (iand .u64 n t.2.1))
theorem t13 (t : Tn.den) (n : Int) : fnT (CxA K0) Try.f13 U64 [vT t, vU n] = S13 t n := by kernel_rfl
def S15 (t : Tn.den) (n : Int) : Option Bool :=
  some (decide ((iandn .u64 n t.2.1) = (iandn .u64 t.1 t.2.1)))
theorem t15 (t : Tn.den) (n : Int) : fnT (CxA K0) Try.f15 .bool [vT t, vU n] = S15 t n := by kernel_rfl
def S16 (t : Tn.den) (n : Int) : Option Bool :=
  some (decide ((iandn .u64 (ixor .u64 n t.1) t.2.1) = 0))
theorem t16 (t : Tn.den) (n : Int) : fnT (CxA K0) Try.f16 .bool [vT t, vU n] = S16 t n := by kernel_rfl
def S17 (x y : Tn.den) : Option TBo.den :=
  (bif (!(decide ((iandn .u64 (ixor .u64 x.1 y.1) (ior .u64 x.2.1 y.2.1)) = 0))) then
    some ((0, (0, ())), false, ())
  else
    some (((iandn .u64 (ior .u64 x.1 y.1) (iand .u64 x.2.1 y.2.1)), ((iand .u64 x.2.1 y.2.1), ())), true, ()))
theorem t17 (x y : Tn.den) : fnT (CxA K0) Try.f17 TBo [vT x, vT y] = S17 x y := by kernel_rfl
def S18 (x y : Tn.den) : Option TBo.den :=
  (bif (!(decide ((iandn .u64 (iandn .u64 (ixor .u64 x.1 y.1) x.2.1) y.2.1) = 0))) then
    some ((0, (0, ())), false, ())
  else
    some (((iandn .u64 (ior .u64 x.1 y.1) (iand .u64 x.2.1 y.2.1)), ((iand .u64 x.2.1 y.2.1), ())), true, ()))
theorem t18 (x y : Tn.den) : fnT (CxA K0) Try.f18 TBo [vT x, vT y] = S18 x y := by kernel_rfl
def S20 (x y : Tn.den) : Option Bool :=
  (bif (decide ((iandn .u64 y.2.1 x.2.1) = 0)) then some (decide ((iandn .u64 (ixor .u64 x.1 y.1) x.2.1) = 0)) else some false)
theorem t20 (x y : Tn.den) : fnT (CxA K0) Try.f20 .bool [vT x, vT y] = S20 x y := by kernel_rfl
def S21 (x y : Tn.den) : Option Tn.den :=
  some ((iandn .u64 x.1 (ior .u64 (ior .u64 x.2.1 y.2.1) (ixor .u64 x.1 y.1))), ((ior .u64 (ior .u64 x.2.1 y.2.1) (ixor .u64 x.1 y.1)), ()))
theorem t21 (x y : Tn.den) : fnT (CxA K0) Try.f21 Tn [vT x, vT y] = S21 x y := by kernel_rfl
def S22 (x y : Tn.den) : Option Tn.den :=
  some ((iandn .u64 x.1 (ior .u64 (ior .u64 x.2.1 y.2.1) (ixor .u64 x.1 y.1))), ((ior .u64 (ior .u64 x.2.1 y.2.1) (ixor .u64 x.1 y.1)), ()))
theorem t22 (x y : Tn.den) : fnT (CxA K0) Try.f22 Tn [vT x, vT y] = S22 x y := by kernel_rfl
def S19 (q : Sp5) (x y : Tn.den) : Option Bool :=
  (bif (decide ((ior .u64 x.2.1 y.2.1) = x.2.1)) then some (q.has x y.1) else some false)
theorem t19 (q : Sp5) (x y : Tn.den) : fnT (CxA (K5a q)) Try.f19 .bool [vT x, vT y] = S19 q x y := by kernel_rfl
def S42 (x : Int) : Option Int :=
  (bif (decide (x ≥ 4294967296)) then
    (bif (decide ((ishr .u64 x 32) ≥ 65536)) then
      (bif (decide ((ishr .u64 (ishr .u64 x 32) 16) ≥ 256)) then
        (bif (tt 1 ((decide (0 ≤ (IntKind.wrap .u8 (ishr .u64 (ishr .u64 (ishr .u64 x 32) 16) 8)))) && (decide ((IntKind.wrap .u8 (ishr .u64 (ishr .u64 (ishr .u64 x 32) 16) 8)) < 256)))) then some (IntKind.wrap .i64 (56 + (IntKind.wrap .i64 ((tbl0.getD (Int.toNat (IntKind.wrap .u8 (ishr .u64 (ishr .u64 (ishr .u64 x 32) 16) 8))) 0).toNat : Int)))) else none)
      else
        (bif (tt 1 ((decide (0 ≤ (IntKind.wrap .u8 (ishr .u64 (ishr .u64 x 32) 16)))) && (decide ((IntKind.wrap .u8 (ishr .u64 (ishr .u64 x 32) 16)) < 256)))) then some (IntKind.wrap .i64 (48 + (IntKind.wrap .i64 ((tbl0.getD (Int.toNat (IntKind.wrap .u8 (ishr .u64 (ishr .u64 x 32) 16))) 0).toNat : Int)))) else none))
    else
      (bif (decide ((ishr .u64 x 32) ≥ 256)) then
        (bif (tt 1 ((decide (0 ≤ (IntKind.wrap .u8 (ishr .u64 (ishr .u64 x 32) 8)))) && (decide ((IntKind.wrap .u8 (ishr .u64 (ishr .u64 x 32) 8)) < 256)))) then some (IntKind.wrap .i64 (40 + (IntKind.wrap .i64 ((tbl0.getD (Int.toNat (IntKind.wrap .u8 (ishr .u64 (ishr .u64 x 32) 8))) 0).toNat : Int)))) else none)
      else
        (bif (tt 1 ((decide (0 ≤ (IntKind.wrap .u8 (ishr .u64 x 32)))) && (decide ((IntKind.wrap .u8 (ishr .u64 x 32)) < 256)))) then some (IntKind.wrap .i64 (32 + (IntKind.wrap .i64 ((tbl0.getD (Int.toNat (IntKind.wrap .u8 (ishr .u64 x 32))) 0).toNat : Int)))) else none)))
  else
    (bif (decide (x ≥ 65536)) then
      (bif (decide ((ishr .u64 x 16) ≥ 256)) then
        (bif (tt 1 ((decide (0 ≤ (IntKind.wrap .u8 (ishr .u64 (ishr .u64 x 16) 8)))) && (decide ((IntKind.wrap .u8 (ishr .u64 (ishr .u64 x 16) 8)) < 256)))) then some (IntKind.wrap .i64 (24 + (IntKind.wrap .i64 ((tbl0.getD (Int.toNat (IntKind.wrap .u8 (ishr .u64 (ishr .u64 x 16) 8))) 0).toNat : Int)))) else none)
      else
        (bif (tt 1 ((decide (0 ≤ (IntKind.wrap .u8 (ishr .u64 x 16)))) && (decide ((IntKind.wrap .u8 (ishr .u64 x 16)) < 256)))) then some (IntKind.wrap .i64 (16 + (IntKind.wrap .i64 ((tbl0.getD (Int.toNat (IntKind.wrap .u8 (ishr .u64 x 16))) 0).toNat : Int)))) else none))
    else
      (bif (decide (x ≥ 256)) then
        (bif (tt 1 ((decide (0 ≤ (IntKind.wrap .u8 (ishr .u64 x 8)))) && (decide ((IntKind.wrap .u8 (ishr .u64 x 8)) < 256)))) then some (IntKind.wrap .i64 (8 + (IntKind.wrap .i64 ((tbl0.getD (Int.toNat (IntKind.wrap .u8 (ishr .u64 x 8))) 0).toNat : Int)))) else none)
      else
        (bif (tt 1 ((decide (0 ≤ (IntKind.wrap .u8 x))) && (decide ((IntKind.wrap .u8 x) < 256)))) then some (IntKind.wrap .i64 (0 + (IntKind.wrap .i64 ((tbl0.getD (Int.toNat (IntKind.wrap .u8 x)) 0).toNat : Int)))) else none))))
theorem t42 (x : Int) : fnT (CxA K0) Try.f42 I64 [vU x] = S42 x := by kernel_rfl
def S23 (q : Sp5) (x y : Int) : Option Tn.den :=
  (bif ((decide (0 ≤ (q.len (ixor .u64 x y)))) && (tt 1 (q.iu (ixor .u64 x y)))) then some ((iandn .u64 x (IntKind.wrap .u64 ((ishl .u64 1 (q.len (ixor .u64 x y))) - 1))), ((IntKind.wrap .u64 ((ishl .u64 1 (q.len (ixor .u64 x y))) - 1)), ())) else none)
theorem t23 (q : Sp5) (x y : Int) : fnT (CxA (K5a q)) Try.f23 Tn [vU x, vU y] = S23 q x y := by kernel_rfl
def S28 (x : Tn.den) (n : Int) : Option Tn.den :=
  (bif (decide (n = 8)) then
    (bif (tt 1 (decide (0 ≤ (IntKind.wrap .i64 (64 - n))))) then some ((iand .u64 x.1 (ishr .u64 18446744073709551615 (IntKind.wrap .i64 (64 - n)))), ((iand .u64 x.2.1 (ishr .u64 18446744073709551615 (IntKind.wrap .i64 (64 - n)))), ())) else none)
  else
    (bif (decide (n = 16)) then
      (bif (tt 1 (decide (0 ≤ (IntKind.wrap .i64 (64 - n))))) then some ((iand .u64 x.1 (ishr .u64 18446744073709551615 (IntKind.wrap .i64 (64 - n)))), ((iand .u64 x.2.1 (ishr .u64 18446744073709551615 (IntKind.wrap .i64 (64 - n)))), ())) else none)
    else
      (bif (decide (n = 32)) then
        (bif (tt 1 (decide (0 ≤ (IntKind.wrap .i64 (64 - n))))) then some ((iand .u64 x.1 (ishr .u64 18446744073709551615 (IntKind.wrap .i64 (64 - n)))), ((iand .u64 x.2.1 (ishr .u64 18446744073709551615 (IntKind.wrap .i64 (64 - n)))), ())) else none)
      else
        some x)))
theorem t28 (x : Tn.den) (n : Int) : fnT (CxA K0) Try.f28 Tn [vT x, vI n] = S28 x n := by kernel_rfl
def S29 (x : Tn.den) (n : Int) : Option Tn.den :=
  (bif (!(decide (n = 8))) then
    (bif (!(decide (n = 16))) then
      (bif (!(decide (n = 32))) then
        some x
      else
        (bif (tt 1 (decide (0 ≤ (IntKind.wrap .u64 n)))) then some ((iand .u64 x.1 (IntKind.wrap .u64 ((ishl .u64 1 (IntKind.wrap .u64 n)) - 1))), ((iand .u64 x.2.1 (IntKind.wrap .u64 ((ishl .u64 1 (IntKind.wrap .u64 n)) - 1))), ())) else none))
    else
      (bif (tt 1 (decide (0 ≤ (IntKind.wrap .u64 n)))) then some ((iand .u64 x.1 (IntKind.wrap .u64 ((ishl .u64 1 (IntKind.wrap .u64 n)) - 1))), ((iand .u64 x.2.1 (IntKind.wrap .u64 ((ishl .u64 1 (IntKind.wrap .u64 n)) - 1))), ())) else none))
  else
    (bif (tt 1 (decide (0 ≤ (IntKind.wrap .u64 n)))) then some ((iand .u64 x.1 (IntKind.wrap .u64 ((ishl .u64 1 (IntKind.wrap .u64 n)) - 1))), ((iand .u64 x.2.1 (IntKind.wrap .u64 ((ishl .u64 1 (IntKind.wrap .u64 n)) - 1))), ())) else none))
theorem t29 (x : Tn.den) (n : Int) : fnT (CxA K0) Try.f29 Tn [vT x, vI n] = S29 x n := by kernel_rfl
def SL5 (q : Sp5) (x y : Tn.den) (n : List Int) : Option Bool :=
  (bif (!((q.has x (n.getD 0 0)) == (q.rhas x (n.getD 0 0)))) then
    some false
  else
    (bif ((q.has (q.may x) (n.getD 0 0)) == (q.rhas (q.may x) (n.getD 0 0))) then
      (bif ((q.isin (q.may x) (q.may y)) == (q.risin (q.may x) (q.may y))) then
        (bif ((decide ((q.meet (q.may x) (q.may y)).1.1 = (q.rmeet (q.may x) (q.may y)).1.1)) && (tt 1 (decide ((q.meet (q.may x) (q.may y)).1.2.1 = (q.rmeet (q.may x) (q.may y)).1.2.1)))) then
          (bif ((q.meet (q.may x) (q.may y)).2.1 == (q.rmeet (q.may x) (q.may y)).2.1) then
            (bif ((decide ((q.join (q.may x) (q.may y)).1 = (q.rjoin (q.may x) (q.may y)).1)) && (tt 1 (decide ((q.join (q.may x) (q.may y)).2.1 = (q.rjoin (q.may x) (q.may y)).2.1)))) then
              (bif ((decide ((q.off (if (n.getD 1 0) < (n.getD 0 0) then (n.getD 1 0) else (n.getD 0 0)) (if (n.getD 1 0) > (n.getD 0 0) then (n.getD 1 0) else (n.getD 0 0))).1 = (q.rof (if (n.getD 1 0) < (n.getD 0 0) then (n.getD 1 0) else (n.getD 0 0)) (if (n.getD 1 0) > (n.getD 0 0) then (n.getD 1 0) else (n.getD 0 0))).1)) && (tt 1 (decide ((q.off (if (n.getD 1 0) < (n.getD 0 0) then (n.getD 1 0) else (n.getD 0 0)) (if (n.getD 1 0) > (n.getD 0 0) then (n.getD 1 0) else (n.getD 0 0))).2.1 = (q.rof (if (n.getD 1 0) < (n.getD 0 0) then (n.getD 1 0) else (n.getD 0 0)) (if (n.getD 1 0) > (n.getD 0 0) then (n.getD 1 0) else (n.getD 0 0))).2.1)))) then
                (bif (tt 1 (((q.iu (if (n.getD 1 0) < (n.getD 0 0) then (n.getD 1 0) else (n.getD 0 0))) && (q.iu (if (n.getD 1 0) > (n.getD 0 0) then (n.getD 1 0) else (n.getD 0 0)))) && (tt 1 ((q.iu (if (n.getD 1 0) < (n.getD 0 0) then (n.getD 1 0) else (n.getD 0 0))) && (q.iu (if (n.getD 1 0) > (n.getD 0 0) then (n.getD 1 0) else (n.getD 0 0))))))) then some true else none)
              else
                (bif (tt 1 (((q.iu (if (n.getD 1 0) < (n.getD 0 0) then (n.getD 1 0) else (n.getD 0 0))) && (q.iu (if (n.getD 1 0) > (n.getD 0 0) then (n.getD 1 0) else (n.getD 0 0)))) && (tt 1 ((q.iu (if (n.getD 1 0) < (n.getD 0 0) then (n.getD 1 0) else (n.getD 0 0))) && (q.iu (if (n.getD 1 0) > (n.getD 0 0) then (n.getD 1 0) else (n.getD 0 0))))))) then some false else none))
            else
              some false)
          else
            some false)
        else
          some false)
      else
        some false)
    else
      some false))
theorem tL5 (q : Sp5) (x y : Tn.den) (n : List Int) : fnT (CxA (K5 q)) Try.f5 .bool [vT x, vT y, ⟨(.arr 2 (.int .u64)), n⟩] = SL5 q x y n := by kernel_rfl
end Go.Proofs
