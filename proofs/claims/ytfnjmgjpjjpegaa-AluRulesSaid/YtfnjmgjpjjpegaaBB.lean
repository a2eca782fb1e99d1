import Derived.Test.YtfnjmgjpjjpegaaMB
namespace Go.Proofs
open Go.GX
set_option linter.unusedVariables false
def S23 (a : Int) : Option Int :=
  some (ior .u64 (ishr .u64 (ior .u64 (iand .u64 (ishr .u64 (ior .u64 (iand .u64 (ishr .u64 a 8) 71777214294589695) (ishl .u64 (iand .u64 a 71777214294589695) 8)) 16) 281470681808895) (ishl .u64 (iand .u64 (ior .u64 (iand .u64 (ishr .u64 a 8) 71777214294589695) (ishl .u64 (iand .u64 a 71777214294589695) 8)) 281470681808895) 16)) 32) (ishl .u64 (ior .u64 (iand .u64 (ishr .u64 (ior .u64 (iand .u64 (ishr .u64 a 8) 71777214294589695) (ishl .u64 (iand .u64 a 71777214294589695) 8)) 16) 281470681808895) (ishl .u64 (iand .u64 (ior .u64 (iand .u64 (ishr .u64 a 8) 71777214294589695) (ishl .u64 (iand .u64 a 71777214294589695) 8)) 281470681808895) 16)) 32))
theorem t23 (a : Int) : fnT (CxA KN) Try.f23 U64 [vU a] = S23 a  := by kernel_rfl
def s23 (a : Int) : Int := (S23 a).getD 0
def g23 : List V → Option V := fun args => match args with | [⟨.int .u64, a⟩] => some ⟨.int .u64, s23 a⟩ | _ => none
def K16 : Kn := kOf [(23, pS g23)]
def S14t (a bits : Int) : Option (Int × Int × Unit) :=
  (bif (decide (bits = 8)) then
    some ((IntKind.wrap .u64 (IntKind.wrap .i64 (IntKind.wrap .i8 a))), 0, ())
  else
    (bif (decide (bits = 16)) then
      some ((IntKind.wrap .u64 (IntKind.wrap .i64 (IntKind.wrap .i16 a))), 0, ())
    else
      (bif (decide (bits = 32)) then some ((IntKind.wrap .u64 (IntKind.wrap .i64 (IntKind.wrap .i32 a))), 0, ()) else some (0, 1, ()))))
theorem t14t (a bits : Int) : fnT (CxA KN) Try.f14 UE [vU a, vI bits, vB true] = S14t a bits  := by kernel_rfl
def S15t (a bits : Int) : Option (Int × Int × Unit) :=
  (bif (!(decide (bits = 8))) then
    (bif (!(decide (bits = 16))) then
      (bif (decide (bits = 32)) then
        (bif ((decide (0 ≤ (IntKind.wrap .u64 (IntKind.wrap .i64 (64 - bits))))) && (tt 1 (decide (0 ≤ (IntKind.wrap .u64 (IntKind.wrap .i64 (64 - bits))))))) then some ((IntKind.wrap .u64 (ishr .i64 (IntKind.wrap .i64 (ishl .u64 a (IntKind.wrap .u64 (IntKind.wrap .i64 (64 - bits))))) (IntKind.wrap .u64 (IntKind.wrap .i64 (64 - bits))))), 0, ()) else none)
      else
        some (0, 1, ()))
    else
      (bif ((decide (0 ≤ (IntKind.wrap .u64 (IntKind.wrap .i64 (64 - bits))))) && (tt 1 (decide (0 ≤ (IntKind.wrap .u64 (IntKind.wrap .i64 (64 - bits))))))) then some ((IntKind.wrap .u64 (ishr .i64 (IntKind.wrap .i64 (ishl .u64 a (IntKind.wrap .u64 (IntKind.wrap .i64 (64 - bits))))) (IntKind.wrap .u64 (IntKind.wrap .i64 (64 - bits))))), 0, ()) else none))
  else
    (bif ((decide (0 ≤ (IntKind.wrap .u64 (IntKind.wrap .i64 (64 - bits))))) && (tt 1 (decide (0 ≤ (IntKind.wrap .u64 (IntKind.wrap .i64 (64 - bits))))))) then some ((IntKind.wrap .u64 (ishr .i64 (IntKind.wrap .i64 (ishl .u64 a (IntKind.wrap .u64 (IntKind.wrap .i64 (64 - bits))))) (IntKind.wrap .u64 (IntKind.wrap .i64 (64 - bits))))), 0, ()) else none))
theorem t15t (a bits : Int) : fnT (CxA KN) Try.f15 UE [vU a, vI bits, vB true] = S15t a bits  := by kernel_rfl
def S14f (a bits : Int) : Option (Int × Int × Unit) :=
  (bif (decide (bits = 8)) then
    some ((IntKind.wrap .u64 (IntKind.wrap .u32 (IntKind.wrap .i64 (IntKind.wrap .i8 a)))), 0, ())
  else
    (bif (decide (bits = 16)) then
      some ((IntKind.wrap .u64 (IntKind.wrap .u32 (IntKind.wrap .i64 (IntKind.wrap .i16 a)))), 0, ())
    else
      (bif (decide (bits = 32)) then some (0, 1, ()) else some (0, 1, ()))))
theorem t14f (a bits : Int) : fnT (CxA KN) Try.f14 UE [vU a, vI bits, vB false] = S14f a bits  := by kernel_rfl
def S15f (a bits : Int) : Option (Int × Int × Unit) :=
  (bif (!(decide (bits = 8))) then
    (bif (!(decide (bits = 16))) then
      (bif (decide (bits = 32)) then some (0, 1, ()) else some (0, 1, ()))
    else
      (bif ((decide (0 ≤ (IntKind.wrap .u64 (IntKind.wrap .i64 (64 - bits))))) && (tt 1 (decide (0 ≤ (IntKind.wrap .u64 (IntKind.wrap .i64 (64 - bits))))))) then some ((iand .u64 (IntKind.wrap .u64 (ishr .i64 (IntKind.wrap .i64 (ishl .u64 a (IntKind.wrap .u64 (IntKind.wrap .i64 (64 - bits))))) (IntKind.wrap .u64 (IntKind.wrap .i64 (64 - bits))))) 4294967295), 0, ()) else none))
  else
    (bif ((decide (0 ≤ (IntKind.wrap .u64 (IntKind.wrap .i64 (64 - bits))))) && (tt 1 (decide (0 ≤ (IntKind.wrap .u64 (IntKind.wrap .i64 (64 - bits))))))) then some ((iand .u64 (IntKind.wrap .u64 (ishr .i64 (IntKind.wrap .i64 (ishl .u64 a (IntKind.wrap .u64 (IntKind.wrap .i64 (64 - bits))))) (IntKind.wrap .u64 (IntKind.wrap .i64 (64 - bits))))) 4294967295), 0, ()) else none))
theorem t15f (a bits : Int) : fnT (CxA KN) Try.f15 UE [vU a, vI bits, vB false] = S15f a bits  := by kernel_rfl
def S16 (a w : Int) : Option (Int × Int × Unit) :=
  (bif (decide (w = 16)) then
    (bif (tt 1 (decide (0 ≤ (IntKind.wrap .i64 (64 - w))))) then some ((ishr .u64 (s23 a) (IntKind.wrap .i64 (64 - w))), 0, ()) else none)
  else
    (bif (decide (w = 32)) then
      (bif (tt 1 (decide (0 ≤ (IntKind.wrap .i64 (64 - w))))) then some ((ishr .u64 (s23 a) (IntKind.wrap .i64 (64 - w))), 0, ()) else none)
    else
      (bif (decide (w = 64)) then
        (bif (tt 1 (decide (0 ≤ (IntKind.wrap .i64 (64 - w))))) then some ((ishr .u64 (s23 a) (IntKind.wrap .i64 (64 - w))), 0, ()) else none)
      else
        some (0, 1, ()))))
theorem t16 (a w : Int) : fnT (CxA K16) Try.f16 UE [vU a, vI w] = S16 a w  := by kernel_rfl
def S18 (a w : Int) : Option (Int × Int × Unit) :=
  (bif (decide (w = 16)) then
    (bif ((decide (0 ≤ (IntKind.wrap .i64 (64 - w)))) && (tt 1 (decide (0 ≤ (IntKind.wrap .i64 (64 - w)))))) then some ((ishr .u64 (ishl .u64 a (IntKind.wrap .i64 (64 - w))) (IntKind.wrap .i64 (64 - w))), 0, ()) else none)
  else
    (bif (decide (w = 32)) then
      (bif ((decide (0 ≤ (IntKind.wrap .i64 (64 - w)))) && (tt 1 (decide (0 ≤ (IntKind.wrap .i64 (64 - w)))))) then some ((ishr .u64 (ishl .u64 a (IntKind.wrap .i64 (64 - w))) (IntKind.wrap .i64 (64 - w))), 0, ()) else none)
    else
      (bif (decide (w = 64)) then
        (bif ((decide (0 ≤ (IntKind.wrap .i64 (64 - w)))) && (tt 1 (decide (0 ≤ (IntKind.wrap .i64 (64 - w)))))) then some ((ishr .u64 (ishl .u64 a (IntKind.wrap .i64 (64 - w))) (IntKind.wrap .i64 (64 - w))), 0, ()) else none)
      else
        some (0, 1, ()))))
theorem t18 (a w : Int) : fnT (CxA KN) Try.f18 UE [vU a, vI w] = S18 a w  := by kernel_rfl
def S19 (a w : Int) : Option (Int × Int × Unit) :=
  (bif (decide (w = 16)) then
    some ((iand .u64 a 65535), 0, ())
  else
    (bif (decide (w = 32)) then some ((iand .u64 a 4294967295), 0, ()) else (bif (decide (w = 64)) then some (a, 0, ()) else some (0, 1, ()))))
theorem t19 (a w : Int) : fnT (CxA KN) Try.f19 UE [vU a, vI w] = S19 a w  := by kernel_rfl
def S17_16 (a : Int) : Option (Int × Int × Unit) :=
  some ((ior .u64 (ishl .u64 (ior .u64 0 (iand .u64 a 255)) 8) (iand .u64 (ishr .u64 a 8) 255)), 0, ())
theorem t17_16 (a : Int) : fnT (CxA KN) Try.f17 UE [vU a, vI 16] = S17_16 a  := by kernel_rfl
def S17_32 (a : Int) : Option (Int × Int × Unit) :=
  some ((ior .u64 (ishl .u64 (ior .u64 (ishl .u64 (ior .u64 (ishl .u64 (ior .u64 0 (iand .u64 a 255)) 8) (iand .u64 (ishr .u64 a 8) 255)) 8) (iand .u64 (ishr .u64 (ishr .u64 a 8) 8) 255)) 8) (iand .u64 (ishr .u64 (ishr .u64 (ishr .u64 a 8) 8) 8) 255)), 0, ())
theorem t17_32 (a : Int) : fnT (CxA KN) Try.f17 UE [vU a, vI 32] = S17_32 a  := by kernel_rfl
def S17_64 (a : Int) : Option (Int × Int × Unit) :=
  some ((ior .u64 (ishl .u64 (ior .u64 (ishl .u64 (ior .u64 (ishl .u64 (ior .u64 (ishl .u64 (ior .u64 (ishl .u64 (ior .u64 (ishl .u64 (ior .u64 (ishl .u64 (ior .u64 0 (iand .u64 a 255)) 8) (iand .u64 (ishr .u64 a 8) 255)) 8) (iand .u64 (ishr .u64 (ishr .u64 a 8) 8) 255)) 8) (iand .u64 (ishr .u64 (ishr .u64 (ishr .u64 a 8) 8) 8) 255)) 8) (iand .u64 (ishr .u64 (ishr .u64 (ishr .u64 (ishr .u64 a 8) 8) 8) 8) 255)) 8) (iand .u64 (ishr .u64 (ishr .u64 (ishr .u64 (ishr .u64 (ishr .u64 a 8) 8) 8) 8) 8) 255)) 8) (iand .u64 (ishr .u64 (ishr .u64 (ishr .u64 (ishr .u64 (ishr .u64 (ishr .u64 a 8) 8) 8) 8) 8) 8) 255)) 8) (iand .u64 (ishr .u64 (ishr .u64 (ishr .u64 (ishr .u64 (ishr .u64 (ishr .u64 (ishr .u64 a 8) 8) 8) 8) 8) 8) 8) 255)), 0, ())
theorem t17_64 (a : Int) : fnT (CxA KN) Try.f17 UE [vU a, vI 64] = S17_64 a  := by kernel_rfl
def S17e (a w : Int) : Option (Int × Int × Unit) :=
  (bif (!(decide (w = 16))) then (bif (!(decide (w = 32))) then (bif (!(decide (w = 64))) then some (0, 1, ()) else none) else none) else none)
theorem t17e (a w : Int) : fnT ⟨true, Try.Θ, KN, 0, fun _ => none⟩ Try.f17 UE [vU a, vI w] = S17e a w  := by kernel_rfl
def s14 (a bits : Int) (w : Bool) : Int × Int × Unit := (bif w then S14t a bits else S14f a bits).getD (0, 0, ())
def s15 (a bits : Int) (w : Bool) : Int × Int × Unit := (bif w then S15t a bits else S15f a bits).getD (0, 0, ())
def s16 (a w : Int) : Int × Int × Unit := (S16 a w).getD (0, 0, ())
def s17 (a w : Int) : Int × Int × Unit := (if w = 16 then S17_16 a else if w = 32 then S17_32 a else if w = 64 then S17_64 a else some (0, 1, ())).getD (0, 0, ())
def s18 (a w : Int) : Int × Int × Unit := (S18 a w).getD (0, 0, ())
def s19 (a w : Int) : Int × Int × Unit := (S19 a w).getD (0, 0, ())
abbrev F9 : Type := Int → Bool → Bool → Int → Int → Int × Int × Unit
abbrev F12 : Type := Int → Bool → Int → Int → Bool × Int × Unit
abbrev F14 : Type := Int → Int → Bool → Int × Int × Unit
abbrev F16 : Type := Int → Int → Int × Int × Unit
def G9 (f : F9) (iu : Int → Int → Bool) : List V → Option (V × Bool) := fun args => match args with | [⟨.int .i64, op⟩, ⟨.bool, w⟩, ⟨.bool, s⟩, ⟨.int .u64, a⟩, ⟨.int .u64, b⟩] => some (⟨UE, f op w s a b⟩, iu a b) | _ => none
def G12 (f : F12) : List V → Option V := fun args => match args with | [⟨.int .i64, op⟩, ⟨.bool, w⟩, ⟨.int .u64, a⟩, ⟨.int .u64, b⟩] => some ⟨BE, f op w a b⟩ | _ => none
def G14 (f : F14) : List V → Option V := fun args => match args with | [⟨.int .u64, a⟩, ⟨.int .i64, b⟩, ⟨.bool, w⟩] => some ⟨UE, f a b w⟩ | _ => none
def G16 (f : F16) : List V → Option V := fun args => match args with | [⟨.int .u64, a⟩, ⟨.int .i64, b⟩] => some ⟨UE, f a b⟩ | _ => none
structure Sp where
  s9 : F9
  s10 : F9
  s12 : F12
  s13 : F12
  s14 : F14
  s15 : F14
  s16 : F16
  s17 : F16
  s18 : F16
  s19 : F16
  iu : Int → Int → Bool
def K3 (q : Sp) : Kn := kOf [(11, pS g11), (9, pSb (G9 q.s9 q.iu)), (10, pSb (G9 q.s10 q.iu)), (12, pS (G12 q.s12)), (13, pS (G12 q.s13)), (14, pS (G14 q.s14)), (15, pS (G14 q.s15)), (16, pS (G16 q.s16)), (17, pS (G16 q.s17)), (18, pS (G16 q.s18)), (19, pS (G16 q.s19))]

def SL3 (q : Sp) (op : Int) (h : List Bool) (n : List Int) : Option Bool :=
  (bif (decide ((q.s9 op (h.getD 0 false) (h.getD 1 false) (n.getD 0 0) (n.getD 1 0)).1 = (q.s10 op (h.getD 0 false) (h.getD 1 false) (n.getD 0 0) (n.getD 1 0)).1)) then
    (bif (decide ((q.s9 op (h.getD 0 false) (h.getD 1 false) (n.getD 0 0) (n.getD 1 0)).2.1 = (q.s10 op (h.getD 0 false) (h.getD 1 false) (n.getD 0 0) (n.getD 1 0)).2.1)) then
      (bif ((q.iu (n.getD 0 0) (n.getD 1 0)) && (tt 1 (q.iu (n.getD 0 0) (n.getD 1 0)))) then some true else none)
    else
      (bif ((q.iu (n.getD 0 0) (n.getD 1 0)) && (tt 1 (q.iu (n.getD 0 0) (n.getD 1 0)))) then some false else none))
  else
    (bif ((q.iu (n.getD 0 0) (n.getD 1 0)) && (tt 1 (q.iu (n.getD 0 0) (n.getD 1 0)))) then some false else none))
theorem tL3 (q : Sp) (op : Int) (h : List Bool) (n : List Int) : fnT (CxA (K3 q)) Try.f3 .bool [vI op, ⟨(.arr 2 .bool), h⟩, ⟨(.arr 2 (.int .u64)), n⟩] = SL3 q  op  h  n  := by kernel_rfl
def SL5 (q : Sp) (op : Int) (s : Bool) (n : List Int) : Option Bool :=
  (bif (decide ((q.s9 op false s (n.getD 0 0) (n.getD 1 0)).1 = (q.s9 op false s (ior .u64 (iand .u64 (n.getD 0 0) 4294967295) (ishl .u64 (n.getD 2 0) 32)) (ior .u64 (iand .u64 (n.getD 1 0) 4294967295) (ishl .u64 (n.getD 3 0) 32))).1)) then
    (bif (decide ((q.s9 op false s (n.getD 0 0) (n.getD 1 0)).2.1 = (q.s9 op false s (ior .u64 (iand .u64 (n.getD 0 0) 4294967295) (ishl .u64 (n.getD 2 0) 32)) (ior .u64 (iand .u64 (n.getD 1 0) 4294967295) (ishl .u64 (n.getD 3 0) 32))).2.1)) then
      (bif (decide ((ishr .u64 (q.s9 op false s (n.getD 0 0) (n.getD 1 0)).1 32) = 0)) then
        (bif ((q.s12 op false (n.getD 0 0) (n.getD 1 0)).1 == (q.s12 op false (ior .u64 (iand .u64 (n.getD 0 0) 4294967295) (ishl .u64 (n.getD 2 0) 32)) (ior .u64 (iand .u64 (n.getD 1 0) 4294967295) (ishl .u64 (n.getD 3 0) 32))).1) then
          (bif (decide ((q.s12 op false (n.getD 0 0) (n.getD 1 0)).2.1 = (q.s12 op false (ior .u64 (iand .u64 (n.getD 0 0) 4294967295) (ishl .u64 (n.getD 2 0) 32)) (ior .u64 (iand .u64 (n.getD 1 0) 4294967295) (ishl .u64 (n.getD 3 0) 32))).2.1)) then
            (bif ((q.iu (ior .u64 (iand .u64 (n.getD 0 0) 4294967295) (ishl .u64 (n.getD 2 0) 32)) (ior .u64 (iand .u64 (n.getD 1 0) 4294967295) (ishl .u64 (n.getD 3 0) 32))) && (tt 1 (q.iu (n.getD 0 0) (n.getD 1 0)))) then some true else none)
          else
            (bif ((q.iu (ior .u64 (iand .u64 (n.getD 0 0) 4294967295) (ishl .u64 (n.getD 2 0) 32)) (ior .u64 (iand .u64 (n.getD 1 0) 4294967295) (ishl .u64 (n.getD 3 0) 32))) && (tt 1 (q.iu (n.getD 0 0) (n.getD 1 0)))) then some false else none))
        else
          (bif ((q.iu (ior .u64 (iand .u64 (n.getD 0 0) 4294967295) (ishl .u64 (n.getD 2 0) 32)) (ior .u64 (iand .u64 (n.getD 1 0) 4294967295) (ishl .u64 (n.getD 3 0) 32))) && (tt 1 (q.iu (n.getD 0 0) (n.getD 1 0)))) then some false else none))
      else
        (bif ((q.iu (ior .u64 (iand .u64 (n.getD 0 0) 4294967295) (ishl .u64 (n.getD 2 0) 32)) (ior .u64 (iand .u64 (n.getD 1 0) 4294967295) (ishl .u64 (n.getD 3 0) 32))) && (tt 1 (q.iu (n.getD 0 0) (n.getD 1 0)))) then some false else none))
    else
      (bif ((q.iu (ior .u64 (iand .u64 (n.getD 0 0) 4294967295) (ishl .u64 (n.getD 2 0) 32)) (ior .u64 (iand .u64 (n.getD 1 0) 4294967295) (ishl .u64 (n.getD 3 0) 32))) && (tt 1 (q.iu (n.getD 0 0) (n.getD 1 0)))) then some false else none))
  else
    (bif ((q.iu (ior .u64 (iand .u64 (n.getD 0 0) 4294967295) (ishl .u64 (n.getD 2 0) 32)) (ior .u64 (iand .u64 (n.getD 1 0) 4294967295) (ishl .u64 (n.getD 3 0) 32))) && (tt 1 (q.iu (n.getD 0 0) (n.getD 1 0)))) then some false else none))
theorem tL5 (q : Sp) (op : Int) (s : Bool) (n : List Int) : fnT (CxA (K3 q)) Try.f5 .bool [vI op, vB s, ⟨(.arr 4 (.int .u64)), n⟩] = SL5 q  op  s  n  := by kernel_rfl
def SL6t (q : Sp) (n d : Int) : Option Bool :=
  (bif (decide ((q.s9 96 true false n (IntKind.wrap .u64 (Int.tmod (IntKind.wrap .i64 ((Int.tmod d 64) + 64)) 64))).1 = (q.s9 32 true false n (ishl .u64 1 (IntKind.wrap .u64 (Int.tmod (IntKind.wrap .i64 ((Int.tmod d 64) + 64)) 64)))).1)) then
    (bif (decide ((q.s9 112 true false n (IntKind.wrap .u64 (Int.tmod (IntKind.wrap .i64 ((Int.tmod d 64) + 64)) 64))).1 = (q.s9 48 true false n (ishl .u64 1 (IntKind.wrap .u64 (Int.tmod (IntKind.wrap .i64 ((Int.tmod d 64) + 64)) 64)))).1)) then
      (bif (decide ((q.s9 96 true false n (IntKind.wrap .u64 (IntKind.wrap .i64 ((Int.tmod (IntKind.wrap .i64 ((Int.tmod d 64) + 64)) 64) + 64)))).1 = (q.s9 96 true false n (IntKind.wrap .u64 (Int.tmod (IntKind.wrap .i64 ((Int.tmod d 64) + 64)) 64))).1)) then
        (bif ((q.iu n (IntKind.wrap .u64 (IntKind.wrap .i64 ((Int.tmod (IntKind.wrap .i64 ((Int.tmod d 64) + 64)) 64) + 64)))) && ((q.iu n (ishl .u64 1 (IntKind.wrap .u64 (Int.tmod (IntKind.wrap .i64 ((Int.tmod d 64) + 64)) 64)))) && ((q.iu n (IntKind.wrap .u64 (Int.tmod (IntKind.wrap .i64 ((Int.tmod d 64) + 64)) 64))) && ((q.iu n (ishl .u64 1 (IntKind.wrap .u64 (Int.tmod (IntKind.wrap .i64 ((Int.tmod d 64) + 64)) 64)))) && ((q.iu n (IntKind.wrap .u64 (Int.tmod (IntKind.wrap .i64 ((Int.tmod d 64) + 64)) 64))) && (tt 1 (decide (0 ≤ (IntKind.wrap .u64 (Int.tmod (IntKind.wrap .i64 ((Int.tmod d 64) + 64)) 64)))))))))) then some true else none)
      else
        (bif ((q.iu n (IntKind.wrap .u64 (IntKind.wrap .i64 ((Int.tmod (IntKind.wrap .i64 ((Int.tmod d 64) + 64)) 64) + 64)))) && ((q.iu n (ishl .u64 1 (IntKind.wrap .u64 (Int.tmod (IntKind.wrap .i64 ((Int.tmod d 64) + 64)) 64)))) && ((q.iu n (IntKind.wrap .u64 (Int.tmod (IntKind.wrap .i64 ((Int.tmod d 64) + 64)) 64))) && ((q.iu n (ishl .u64 1 (IntKind.wrap .u64 (Int.tmod (IntKind.wrap .i64 ((Int.tmod d 64) + 64)) 64)))) && ((q.iu n (IntKind.wrap .u64 (Int.tmod (IntKind.wrap .i64 ((Int.tmod d 64) + 64)) 64))) && (tt 1 (decide (0 ≤ (IntKind.wrap .u64 (Int.tmod (IntKind.wrap .i64 ((Int.tmod d 64) + 64)) 64)))))))))) then some false else none))
    else
      (bif ((q.iu n (IntKind.wrap .u64 (IntKind.wrap .i64 ((Int.tmod (IntKind.wrap .i64 ((Int.tmod d 64) + 64)) 64) + 64)))) && ((q.iu n (ishl .u64 1 (IntKind.wrap .u64 (Int.tmod (IntKind.wrap .i64 ((Int.tmod d 64) + 64)) 64)))) && ((q.iu n (IntKind.wrap .u64 (Int.tmod (IntKind.wrap .i64 ((Int.tmod d 64) + 64)) 64))) && ((q.iu n (ishl .u64 1 (IntKind.wrap .u64 (Int.tmod (IntKind.wrap .i64 ((Int.tmod d 64) + 64)) 64)))) && ((q.iu n (IntKind.wrap .u64 (Int.tmod (IntKind.wrap .i64 ((Int.tmod d 64) + 64)) 64))) && (tt 1 (decide (0 ≤ (IntKind.wrap .u64 (Int.tmod (IntKind.wrap .i64 ((Int.tmod d 64) + 64)) 64)))))))))) then some false else none))
  else
    (bif ((q.iu n (IntKind.wrap .u64 (IntKind.wrap .i64 ((Int.tmod (IntKind.wrap .i64 ((Int.tmod d 64) + 64)) 64) + 64)))) && ((q.iu n (ishl .u64 1 (IntKind.wrap .u64 (Int.tmod (IntKind.wrap .i64 ((Int.tmod d 64) + 64)) 64)))) && ((q.iu n (IntKind.wrap .u64 (Int.tmod (IntKind.wrap .i64 ((Int.tmod d 64) + 64)) 64))) && ((q.iu n (ishl .u64 1 (IntKind.wrap .u64 (Int.tmod (IntKind.wrap .i64 ((Int.tmod d 64) + 64)) 64)))) && ((q.iu n (IntKind.wrap .u64 (Int.tmod (IntKind.wrap .i64 ((Int.tmod d 64) + 64)) 64))) && (tt 1 (decide (0 ≤ (IntKind.wrap .u64 (Int.tmod (IntKind.wrap .i64 ((Int.tmod d 64) + 64)) 64)))))))))) then some false else none))
theorem tL6t (q : Sp) (n d : Int) : fnT (CxA (K3 q)) Try.f6 .bool [vU n, vI d, vB true] = SL6t q  n d  := by kernel_rfl
def SL8t (q : Sp) (n : List Int) : Option Bool :=
  (bif ((q.s12 16 true (n.getD 0 0) (n.getD 1 0)).1 == (q.s12 80 true (n.getD 0 0) (n.getD 1 0)).1) then
    (bif ((q.iu (q.s9 32 true false (q.s9 48 true false (n.getD 0 0) (n.getD 1 0)).1 (n.getD 1 0)).1 (q.s9 144 true false (n.getD 0 0) (n.getD 1 0)).1) && ((q.iu (q.s9 48 true false (n.getD 0 0) (n.getD 1 0)).1 (n.getD 1 0)) && ((q.iu (n.getD 0 0) (n.getD 1 0)) && ((q.iu (n.getD 0 0) (n.getD 1 0)) && ((q.iu (q.s9 0 true false (n.getD 0 0) (n.getD 1 0)).1 (n.getD 1 0)) && (tt 1 (q.iu (n.getD 0 0) (n.getD 1 0)))))))) then some false else none)
  else
    (bif (!(decide ((q.s12 16 true (n.getD 0 0) (n.getD 1 0)).2.1 = 0))) then
      (bif ((q.iu (q.s9 32 true false (q.s9 48 true false (n.getD 0 0) (n.getD 1 0)).1 (n.getD 1 0)).1 (q.s9 144 true false (n.getD 0 0) (n.getD 1 0)).1) && ((q.iu (q.s9 48 true false (n.getD 0 0) (n.getD 1 0)).1 (n.getD 1 0)) && ((q.iu (n.getD 0 0) (n.getD 1 0)) && ((q.iu (n.getD 0 0) (n.getD 1 0)) && ((q.iu (q.s9 0 true false (n.getD 0 0) (n.getD 1 0)).1 (n.getD 1 0)) && (tt 1 (q.iu (n.getD 0 0) (n.getD 1 0)))))))) then some false else none)
    else
      (bif (!(decide ((q.s12 80 true (n.getD 0 0) (n.getD 1 0)).2.1 = 0))) then
        (bif ((q.iu (q.s9 32 true false (q.s9 48 true false (n.getD 0 0) (n.getD 1 0)).1 (n.getD 1 0)).1 (q.s9 144 true false (n.getD 0 0) (n.getD 1 0)).1) && ((q.iu (q.s9 48 true false (n.getD 0 0) (n.getD 1 0)).1 (n.getD 1 0)) && ((q.iu (n.getD 0 0) (n.getD 1 0)) && ((q.iu (n.getD 0 0) (n.getD 1 0)) && ((q.iu (q.s9 0 true false (n.getD 0 0) (n.getD 1 0)).1 (n.getD 1 0)) && (tt 1 (q.iu (n.getD 0 0) (n.getD 1 0)))))))) then some false else none)
      else
        (bif ((q.s12 32 true (n.getD 0 0) (n.getD 1 0)).1 == (q.s12 176 true (n.getD 0 0) (n.getD 1 0)).1) then
          (bif ((q.iu (q.s9 32 true false (q.s9 48 true false (n.getD 0 0) (n.getD 1 0)).1 (n.getD 1 0)).1 (q.s9 144 true false (n.getD 0 0) (n.getD 1 0)).1) && ((q.iu (q.s9 48 true false (n.getD 0 0) (n.getD 1 0)).1 (n.getD 1 0)) && ((q.iu (n.getD 0 0) (n.getD 1 0)) && ((q.iu (n.getD 0 0) (n.getD 1 0)) && ((q.iu (q.s9 0 true false (n.getD 0 0) (n.getD 1 0)).1 (n.getD 1 0)) && (tt 1 (q.iu (n.getD 0 0) (n.getD 1 0)))))))) then some false else none)
        else
          (bif (!(decide ((q.s12 32 true (n.getD 0 0) (n.getD 1 0)).2.1 = 0))) then
            (bif ((q.iu (q.s9 32 true false (q.s9 48 true false (n.getD 0 0) (n.getD 1 0)).1 (n.getD 1 0)).1 (q.s9 144 true false (n.getD 0 0) (n.getD 1 0)).1) && ((q.iu (q.s9 48 true false (n.getD 0 0) (n.getD 1 0)).1 (n.getD 1 0)) && ((q.iu (n.getD 0 0) (n.getD 1 0)) && ((q.iu (n.getD 0 0) (n.getD 1 0)) && ((q.iu (q.s9 0 true false (n.getD 0 0) (n.getD 1 0)).1 (n.getD 1 0)) && (tt 1 (q.iu (n.getD 0 0) (n.getD 1 0)))))))) then some false else none)
          else
            (bif (!(decide ((q.s12 176 true (n.getD 0 0) (n.getD 1 0)).2.1 = 0))) then
              (bif ((q.iu (q.s9 32 true false (q.s9 48 true false (n.getD 0 0) (n.getD 1 0)).1 (n.getD 1 0)).1 (q.s9 144 true false (n.getD 0 0) (n.getD 1 0)).1) && ((q.iu (q.s9 48 true false (n.getD 0 0) (n.getD 1 0)).1 (n.getD 1 0)) && ((q.iu (n.getD 0 0) (n.getD 1 0)) && ((q.iu (n.getD 0 0) (n.getD 1 0)) && ((q.iu (q.s9 0 true false (n.getD 0 0) (n.getD 1 0)).1 (n.getD 1 0)) && (tt 1 (q.iu (n.getD 0 0) (n.getD 1 0)))))))) then some false else none)
            else
              (bif ((q.s12 48 true (n.getD 0 0) (n.getD 1 0)).1 == (q.s12 160 true (n.getD 0 0) (n.getD 1 0)).1) then
                (bif ((q.iu (q.s9 32 true false (q.s9 48 true false (n.getD 0 0) (n.getD 1 0)).1 (n.getD 1 0)).1 (q.s9 144 true false (n.getD 0 0) (n.getD 1 0)).1) && ((q.iu (q.s9 48 true false (n.getD 0 0) (n.getD 1 0)).1 (n.getD 1 0)) && ((q.iu (n.getD 0 0) (n.getD 1 0)) && ((q.iu (n.getD 0 0) (n.getD 1 0)) && ((q.iu (q.s9 0 true false (n.getD 0 0) (n.getD 1 0)).1 (n.getD 1 0)) && (tt 1 (q.iu (n.getD 0 0) (n.getD 1 0)))))))) then some false else none)
              else
                (bif (!(decide ((q.s12 48 true (n.getD 0 0) (n.getD 1 0)).2.1 = 0))) then
                  (bif ((q.iu (q.s9 32 true false (q.s9 48 true false (n.getD 0 0) (n.getD 1 0)).1 (n.getD 1 0)).1 (q.s9 144 true false (n.getD 0 0) (n.getD 1 0)).1) && ((q.iu (q.s9 48 true false (n.getD 0 0) (n.getD 1 0)).1 (n.getD 1 0)) && ((q.iu (n.getD 0 0) (n.getD 1 0)) && ((q.iu (n.getD 0 0) (n.getD 1 0)) && ((q.iu (q.s9 0 true false (n.getD 0 0) (n.getD 1 0)).1 (n.getD 1 0)) && (tt 1 (q.iu (n.getD 0 0) (n.getD 1 0)))))))) then some false else none)
                else
                  (bif (!(decide ((q.s12 160 true (n.getD 0 0) (n.getD 1 0)).2.1 = 0))) then
                    (bif ((q.iu (q.s9 32 true false (q.s9 48 true false (n.getD 0 0) (n.getD 1 0)).1 (n.getD 1 0)).1 (q.s9 144 true false (n.getD 0 0) (n.getD 1 0)).1) && ((q.iu (q.s9 48 true false (n.getD 0 0) (n.getD 1 0)).1 (n.getD 1 0)) && ((q.iu (n.getD 0 0) (n.getD 1 0)) && ((q.iu (n.getD 0 0) (n.getD 1 0)) && ((q.iu (q.s9 0 true false (n.getD 0 0) (n.getD 1 0)).1 (n.getD 1 0)) && (tt 1 (q.iu (n.getD 0 0) (n.getD 1 0)))))))) then some false else none)
                  else
                    (bif ((q.s12 96 true (n.getD 0 0) (n.getD 1 0)).1 == (q.s12 208 true (n.getD 0 0) (n.getD 1 0)).1) then
                      (bif ((q.iu (q.s9 32 true false (q.s9 48 true false (n.getD 0 0) (n.getD 1 0)).1 (n.getD 1 0)).1 (q.s9 144 true false (n.getD 0 0) (n.getD 1 0)).1) && ((q.iu (q.s9 48 true false (n.getD 0 0) (n.getD 1 0)).1 (n.getD 1 0)) && ((q.iu (n.getD 0 0) (n.getD 1 0)) && ((q.iu (n.getD 0 0) (n.getD 1 0)) && ((q.iu (q.s9 0 true false (n.getD 0 0) (n.getD 1 0)).1 (n.getD 1 0)) && (tt 1 (q.iu (n.getD 0 0) (n.getD 1 0)))))))) then some false else none)
                    else
                      (bif (!(decide ((q.s12 96 true (n.getD 0 0) (n.getD 1 0)).2.1 = 0))) then
                        (bif ((q.iu (q.s9 32 true false (q.s9 48 true false (n.getD 0 0) (n.getD 1 0)).1 (n.getD 1 0)).1 (q.s9 144 true false (n.getD 0 0) (n.getD 1 0)).1) && ((q.iu (q.s9 48 true false (n.getD 0 0) (n.getD 1 0)).1 (n.getD 1 0)) && ((q.iu (n.getD 0 0) (n.getD 1 0)) && ((q.iu (n.getD 0 0) (n.getD 1 0)) && ((q.iu (q.s9 0 true false (n.getD 0 0) (n.getD 1 0)).1 (n.getD 1 0)) && (tt 1 (q.iu (n.getD 0 0) (n.getD 1 0)))))))) then some false else none)
                      else
                        (bif (!(decide ((q.s12 208 true (n.getD 0 0) (n.getD 1 0)).2.1 = 0))) then
                          (bif ((q.iu (q.s9 32 true false (q.s9 48 true false (n.getD 0 0) (n.getD 1 0)).1 (n.getD 1 0)).1 (q.s9 144 true false (n.getD 0 0) (n.getD 1 0)).1) && ((q.iu (q.s9 48 true false (n.getD 0 0) (n.getD 1 0)).1 (n.getD 1 0)) && ((q.iu (n.getD 0 0) (n.getD 1 0)) && ((q.iu (n.getD 0 0) (n.getD 1 0)) && ((q.iu (q.s9 0 true false (n.getD 0 0) (n.getD 1 0)).1 (n.getD 1 0)) && (tt 1 (q.iu (n.getD 0 0) (n.getD 1 0)))))))) then some false else none)
                        else
                          (bif ((q.s12 112 true (n.getD 0 0) (n.getD 1 0)).1 == (q.s12 192 true (n.getD 0 0) (n.getD 1 0)).1) then
                            (bif ((q.iu (q.s9 32 true false (q.s9 48 true false (n.getD 0 0) (n.getD 1 0)).1 (n.getD 1 0)).1 (q.s9 144 true false (n.getD 0 0) (n.getD 1 0)).1) && ((q.iu (q.s9 48 true false (n.getD 0 0) (n.getD 1 0)).1 (n.getD 1 0)) && ((q.iu (n.getD 0 0) (n.getD 1 0)) && ((q.iu (n.getD 0 0) (n.getD 1 0)) && ((q.iu (q.s9 0 true false (n.getD 0 0) (n.getD 1 0)).1 (n.getD 1 0)) && (tt 1 (q.iu (n.getD 0 0) (n.getD 1 0)))))))) then some false else none)
                          else
                            (bif (!(decide ((q.s12 112 true (n.getD 0 0) (n.getD 1 0)).2.1 = 0))) then
                              (bif ((q.iu (q.s9 32 true false (q.s9 48 true false (n.getD 0 0) (n.getD 1 0)).1 (n.getD 1 0)).1 (q.s9 144 true false (n.getD 0 0) (n.getD 1 0)).1) && ((q.iu (q.s9 48 true false (n.getD 0 0) (n.getD 1 0)).1 (n.getD 1 0)) && ((q.iu (n.getD 0 0) (n.getD 1 0)) && ((q.iu (n.getD 0 0) (n.getD 1 0)) && ((q.iu (q.s9 0 true false (n.getD 0 0) (n.getD 1 0)).1 (n.getD 1 0)) && (tt 1 (q.iu (n.getD 0 0) (n.getD 1 0)))))))) then some false else none)
                            else
                              (bif (!(decide ((q.s12 192 true (n.getD 0 0) (n.getD 1 0)).2.1 = 0))) then
                                (bif ((q.iu (q.s9 32 true false (q.s9 48 true false (n.getD 0 0) (n.getD 1 0)).1 (n.getD 1 0)).1 (q.s9 144 true false (n.getD 0 0) (n.getD 1 0)).1) && ((q.iu (q.s9 48 true false (n.getD 0 0) (n.getD 1 0)).1 (n.getD 1 0)) && ((q.iu (n.getD 0 0) (n.getD 1 0)) && ((q.iu (n.getD 0 0) (n.getD 1 0)) && ((q.iu (q.s9 0 true false (n.getD 0 0) (n.getD 1 0)).1 (n.getD 1 0)) && (tt 1 (q.iu (n.getD 0 0) (n.getD 1 0)))))))) then some false else none)
                              else
                                (bif (decide ((q.s9 16 true false (q.s9 0 true false (n.getD 0 0) (n.getD 1 0)).1 (n.getD 1 0)).1 = (q.s18 (n.getD 0 0) 64).1)) then
                                  (bif (decide ((q.s9 0 true false (q.s9 32 true false (q.s9 48 true false (n.getD 0 0) (n.getD 1 0)).1 (n.getD 1 0)).1 (q.s9 144 true false (n.getD 0 0) (n.getD 1 0)).1).1 = (q.s18 (n.getD 0 0) 64).1)) then
                                    (bif (decide ((q.s16 (q.s16 (n.getD 0 0) 64).1 64).1 = (n.getD 0 0))) then
                                      (bif ((q.iu (q.s9 32 true false (q.s9 48 true false (n.getD 0 0) (n.getD 1 0)).1 (n.getD 1 0)).1 (q.s9 144 true false (n.getD 0 0) (n.getD 1 0)).1) && ((q.iu (q.s9 48 true false (n.getD 0 0) (n.getD 1 0)).1 (n.getD 1 0)) && ((q.iu (n.getD 0 0) (n.getD 1 0)) && ((q.iu (n.getD 0 0) (n.getD 1 0)) && ((q.iu (q.s9 0 true false (n.getD 0 0) (n.getD 1 0)).1 (n.getD 1 0)) && (tt 1 (q.iu (n.getD 0 0) (n.getD 1 0)))))))) then some true else none)
                                    else
                                      (bif ((q.iu (q.s9 32 true false (q.s9 48 true false (n.getD 0 0) (n.getD 1 0)).1 (n.getD 1 0)).1 (q.s9 144 true false (n.getD 0 0) (n.getD 1 0)).1) && ((q.iu (q.s9 48 true false (n.getD 0 0) (n.getD 1 0)).1 (n.getD 1 0)) && ((q.iu (n.getD 0 0) (n.getD 1 0)) && ((q.iu (n.getD 0 0) (n.getD 1 0)) && ((q.iu (q.s9 0 true false (n.getD 0 0) (n.getD 1 0)).1 (n.getD 1 0)) && (tt 1 (q.iu (n.getD 0 0) (n.getD 1 0)))))))) then some false else none))
                                  else
                                    (bif ((q.iu (q.s9 32 true false (q.s9 48 true false (n.getD 0 0) (n.getD 1 0)).1 (n.getD 1 0)).1 (q.s9 144 true false (n.getD 0 0) (n.getD 1 0)).1) && ((q.iu (q.s9 48 true false (n.getD 0 0) (n.getD 1 0)).1 (n.getD 1 0)) && ((q.iu (n.getD 0 0) (n.getD 1 0)) && ((q.iu (n.getD 0 0) (n.getD 1 0)) && ((q.iu (q.s9 0 true false (n.getD 0 0) (n.getD 1 0)).1 (n.getD 1 0)) && (tt 1 (q.iu (n.getD 0 0) (n.getD 1 0)))))))) then some false else none))
                                else
                                  (bif ((q.iu (q.s9 32 true false (q.s9 48 true false (n.getD 0 0) (n.getD 1 0)).1 (n.getD 1 0)).1 (q.s9 144 true false (n.getD 0 0) (n.getD 1 0)).1) && ((q.iu (q.s9 48 true false (n.getD 0 0) (n.getD 1 0)).1 (n.getD 1 0)) && ((q.iu (n.getD 0 0) (n.getD 1 0)) && ((q.iu (n.getD 0 0) (n.getD 1 0)) && ((q.iu (q.s9 0 true false (n.getD 0 0) (n.getD 1 0)).1 (n.getD 1 0)) && (tt 1 (q.iu (n.getD 0 0) (n.getD 1 0)))))))) then some false else none)))))))))))))))))
theorem tL8t (q : Sp) (n : List Int) : fnT (CxA (K3 q)) Try.f8 .bool [⟨(.arr 2 (.int .u64)), n⟩, vB true] = SL8t q  n  := by kernel_rfl
def SL6f (q : Sp) (n d : Int) : Option Bool :=
  (bif (decide ((q.s9 96 false false n (IntKind.wrap .u64 (Int.tmod (IntKind.wrap .i64 ((Int.tmod d 32) + 32)) 32))).1 = (q.s9 32 false false n (ishl .u64 1 (IntKind.wrap .u64 (Int.tmod (IntKind.wrap .i64 ((Int.tmod d 32) + 32)) 32)))).1)) then
    (bif (decide ((q.s9 112 false false n (IntKind.wrap .u64 (Int.tmod (IntKind.wrap .i64 ((Int.tmod d 32) + 32)) 32))).1 = (q.s9 48 false false n (ishl .u64 1 (IntKind.wrap .u64 (Int.tmod (IntKind.wrap .i64 ((Int.tmod d 32) + 32)) 32)))).1)) then
      (bif (decide ((q.s9 96 false false n (IntKind.wrap .u64 (IntKind.wrap .i64 ((Int.tmod (IntKind.wrap .i64 ((Int.tmod d 32) + 32)) 32) + 32)))).1 = (q.s9 96 false false n (IntKind.wrap .u64 (Int.tmod (IntKind.wrap .i64 ((Int.tmod d 32) + 32)) 32))).1)) then
        (bif ((q.iu n (IntKind.wrap .u64 (IntKind.wrap .i64 ((Int.tmod (IntKind.wrap .i64 ((Int.tmod d 32) + 32)) 32) + 32)))) && ((q.iu n (ishl .u64 1 (IntKind.wrap .u64 (Int.tmod (IntKind.wrap .i64 ((Int.tmod d 32) + 32)) 32)))) && ((q.iu n (IntKind.wrap .u64 (Int.tmod (IntKind.wrap .i64 ((Int.tmod d 32) + 32)) 32))) && ((q.iu n (ishl .u64 1 (IntKind.wrap .u64 (Int.tmod (IntKind.wrap .i64 ((Int.tmod d 32) + 32)) 32)))) && ((q.iu n (IntKind.wrap .u64 (Int.tmod (IntKind.wrap .i64 ((Int.tmod d 32) + 32)) 32))) && (tt 1 (decide (0 ≤ (IntKind.wrap .u64 (Int.tmod (IntKind.wrap .i64 ((Int.tmod d 32) + 32)) 32)))))))))) then some true else none)
      else
        (bif ((q.iu n (IntKind.wrap .u64 (IntKind.wrap .i64 ((Int.tmod (IntKind.wrap .i64 ((Int.tmod d 32) + 32)) 32) + 32)))) && ((q.iu n (ishl .u64 1 (IntKind.wrap .u64 (Int.tmod (IntKind.wrap .i64 ((Int.tmod d 32) + 32)) 32)))) && ((q.iu n (IntKind.wrap .u64 (Int.tmod (IntKind.wrap .i64 ((Int.tmod d 32) + 32)) 32))) && ((q.iu n (ishl .u64 1 (IntKind.wrap .u64 (Int.tmod (IntKind.wrap .i64 ((Int.tmod d 32) + 32)) 32)))) && ((q.iu n (IntKind.wrap .u64 (Int.tmod (IntKind.wrap .i64 ((Int.tmod d 32) + 32)) 32))) && (tt 1 (decide (0 ≤ (IntKind.wrap .u64 (Int.tmod (IntKind.wrap .i64 ((Int.tmod d 32) + 32)) 32)))))))))) then some false else none))
    else
      (bif ((q.iu n (IntKind.wrap .u64 (IntKind.wrap .i64 ((Int.tmod (IntKind.wrap .i64 ((Int.tmod d 32) + 32)) 32) + 32)))) && ((q.iu n (ishl .u64 1 (IntKind.wrap .u64 (Int.tmod (IntKind.wrap .i64 ((Int.tmod d 32) + 32)) 32)))) && ((q.iu n (IntKind.wrap .u64 (Int.tmod (IntKind.wrap .i64 ((Int.tmod d 32) + 32)) 32))) && ((q.iu n (ishl .u64 1 (IntKind.wrap .u64 (Int.tmod (IntKind.wrap .i64 ((Int.tmod d 32) + 32)) 32)))) && ((q.iu n (IntKind.wrap .u64 (Int.tmod (IntKind.wrap .i64 ((Int.tmod d 32) + 32)) 32))) && (tt 1 (decide (0 ≤ (IntKind.wrap .u64 (Int.tmod (IntKind.wrap .i64 ((Int.tmod d 32) + 32)) 32)))))))))) then some false else none))
  else
    (bif ((q.iu n (IntKind.wrap .u64 (IntKind.wrap .i64 ((Int.tmod (IntKind.wrap .i64 ((Int.tmod d 32) + 32)) 32) + 32)))) && ((q.iu n (ishl .u64 1 (IntKind.wrap .u64 (Int.tmod (IntKind.wrap .i64 ((Int.tmod d 32) + 32)) 32)))) && ((q.iu n (IntKind.wrap .u64 (Int.tmod (IntKind.wrap .i64 ((Int.tmod d 32) + 32)) 32))) && ((q.iu n (ishl .u64 1 (IntKind.wrap .u64 (Int.tmod (IntKind.wrap .i64 ((Int.tmod d 32) + 32)) 32)))) && ((q.iu n (IntKind.wrap .u64 (Int.tmod (IntKind.wrap .i64 ((Int.tmod d 32) + 32)) 32))) && (tt 1 (decide (0 ≤ (IntKind.wrap .u64 (Int.tmod (IntKind.wrap .i64 ((Int.tmod d 32) + 32)) 32)))))))))) then some false else none))
theorem tL6f (q : Sp) (n d : Int) : fnT (CxA (K3 q)) Try.f6 .bool [vU n, vI d, vB false] = SL6f q  n d  := by kernel_rfl
def SL8f (q : Sp) (n : List Int) : Option Bool :=
  (bif ((q.s12 16 false (n.getD 0 0) (n.getD 1 0)).1 == (q.s12 80 false (n.getD 0 0) (n.getD 1 0)).1) then
    (bif ((q.iu (q.s9 32 false false (q.s9 48 false false (n.getD 0 0) (n.getD 1 0)).1 (n.getD 1 0)).1 (q.s9 144 false false (n.getD 0 0) (n.getD 1 0)).1) && ((q.iu (q.s9 48 false false (n.getD 0 0) (n.getD 1 0)).1 (n.getD 1 0)) && ((q.iu (n.getD 0 0) (n.getD 1 0)) && ((q.iu (n.getD 0 0) (n.getD 1 0)) && ((q.iu (q.s9 0 false false (n.getD 0 0) (n.getD 1 0)).1 (n.getD 1 0)) && (tt 1 (q.iu (n.getD 0 0) (n.getD 1 0)))))))) then some false else none)
  else
    (bif (!(decide ((q.s12 16 false (n.getD 0 0) (n.getD 1 0)).2.1 = 0))) then
      (bif ((q.iu (q.s9 32 false false (q.s9 48 false false (n.getD 0 0) (n.getD 1 0)).1 (n.getD 1 0)).1 (q.s9 144 false false (n.getD 0 0) (n.getD 1 0)).1) && ((q.iu (q.s9 48 false false (n.getD 0 0) (n.getD 1 0)).1 (n.getD 1 0)) && ((q.iu (n.getD 0 0) (n.getD 1 0)) && ((q.iu (n.getD 0 0) (n.getD 1 0)) && ((q.iu (q.s9 0 false false (n.getD 0 0) (n.getD 1 0)).1 (n.getD 1 0)) && (tt 1 (q.iu (n.getD 0 0) (n.getD 1 0)))))))) then some false else none)
    else
      (bif (!(decide ((q.s12 80 false (n.getD 0 0) (n.getD 1 0)).2.1 = 0))) then
        (bif ((q.iu (q.s9 32 false false (q.s9 48 false false (n.getD 0 0) (n.getD 1 0)).1 (n.getD 1 0)).1 (q.s9 144 false false (n.getD 0 0) (n.getD 1 0)).1) && ((q.iu (q.s9 48 false false (n.getD 0 0) (n.getD 1 0)).1 (n.getD 1 0)) && ((q.iu (n.getD 0 0) (n.getD 1 0)) && ((q.iu (n.getD 0 0) (n.getD 1 0)) && ((q.iu (q.s9 0 false false (n.getD 0 0) (n.getD 1 0)).1 (n.getD 1 0)) && (tt 1 (q.iu (n.getD 0 0) (n.getD 1 0)))))))) then some false else none)
      else
        (bif ((q.s12 32 false (n.getD 0 0) (n.getD 1 0)).1 == (q.s12 176 false (n.getD 0 0) (n.getD 1 0)).1) then
          (bif ((q.iu (q.s9 32 false false (q.s9 48 false false (n.getD 0 0) (n.getD 1 0)).1 (n.getD 1 0)).1 (q.s9 144 false false (n.getD 0 0) (n.getD 1 0)).1) && ((q.iu (q.s9 48 false false (n.getD 0 0) (n.getD 1 0)).1 (n.getD 1 0)) && ((q.iu (n.getD 0 0) (n.getD 1 0)) && ((q.iu (n.getD 0 0) (n.getD 1 0)) && ((q.iu (q.s9 0 false false (n.getD 0 0) (n.getD 1 0)).1 (n.getD 1 0)) && (tt 1 (q.iu (n.getD 0 0) (n.getD 1 0)))))))) then some false else none)
        else
          (bif (!(decide ((q.s12 32 false (n.getD 0 0) (n.getD 1 0)).2.1 = 0))) then
            (bif ((q.iu (q.s9 32 false false (q.s9 48 false false (n.getD 0 0) (n.getD 1 0)).1 (n.getD 1 0)).1 (q.s9 144 false false (n.getD 0 0) (n.getD 1 0)).1) && ((q.iu (q.s9 48 false false (n.getD 0 0) (n.getD 1 0)).1 (n.getD 1 0)) && ((q.iu (n.getD 0 0) (n.getD 1 0)) && ((q.iu (n.getD 0 0) (n.getD 1 0)) && ((q.iu (q.s9 0 false false (n.getD 0 0) (n.getD 1 0)).1 (n.getD 1 0)) && (tt 1 (q.iu (n.getD 0 0) (n.getD 1 0)))))))) then some false else none)
          else
            (bif (!(decide ((q.s12 176 false (n.getD 0 0) (n.getD 1 0)).2.1 = 0))) then
              (bif ((q.iu (q.s9 32 false false (q.s9 48 false false (n.getD 0 0) (n.getD 1 0)).1 (n.getD 1 0)).1 (q.s9 144 false false (n.getD 0 0) (n.getD 1 0)).1) && ((q.iu (q.s9 48 false false (n.getD 0 0) (n.getD 1 0)).1 (n.getD 1 0)) && ((q.iu (n.getD 0 0) (n.getD 1 0)) && ((q.iu (n.getD 0 0) (n.getD 1 0)) && ((q.iu (q.s9 0 false false (n.getD 0 0) (n.getD 1 0)).1 (n.getD 1 0)) && (tt 1 (q.iu (n.getD 0 0) (n.getD 1 0)))))))) then some false else none)
            else
              (bif ((q.s12 48 false (n.getD 0 0) (n.getD 1 0)).1 == (q.s12 160 false (n.getD 0 0) (n.getD 1 0)).1) then
                (bif ((q.iu (q.s9 32 false false (q.s9 48 false false (n.getD 0 0) (n.getD 1 0)).1 (n.getD 1 0)).1 (q.s9 144 false false (n.getD 0 0) (n.getD 1 0)).1) && ((q.iu (q.s9 48 false false (n.getD 0 0) (n.getD 1 0)).1 (n.getD 1 0)) && ((q.iu (n.getD 0 0) (n.getD 1 0)) && ((q.iu (n.getD 0 0) (n.getD 1 0)) && ((q.iu (q.s9 0 false false (n.getD 0 0) (n.getD 1 0)).1 (n.getD 1 0)) && (tt 1 (q.iu (n.getD 0 0) (n.getD 1 0)))))))) then some false else none)
              else
                (bif (!(decide ((q.s12 48 false (n.getD 0 0) (n.getD 1 0)).2.1 = 0))) then
                  (bif ((q.iu (q.s9 32 false false (q.s9 48 false false (n.getD 0 0) (n.getD 1 0)).1 (n.getD 1 0)).1 (q.s9 144 false false (n.getD 0 0) (n.getD 1 0)).1) && ((q.iu (q.s9 48 false false (n.getD 0 0) (n.getD 1 0)).1 (n.getD 1 0)) && ((q.iu (n.getD 0 0) (n.getD 1 0)) && ((q.iu (n.getD 0 0) (n.getD 1 0)) && ((q.iu (q.s9 0 false false (n.getD 0 0) (n.getD 1 0)).1 (n.getD 1 0)) && (tt 1 (q.iu (n.getD 0 0) (n.getD 1 0)))))))) then some false else none)
                else
                  (bif (!(decide ((q.s12 160 false (n.getD 0 0) (n.getD 1 0)).2.1 = 0))) then
                    (bif ((q.iu (q.s9 32 false false (q.s9 48 false false (n.getD 0 0) (n.getD 1 0)).1 (n.getD 1 0)).1 (q.s9 144 false false (n.getD 0 0) (n.getD 1 0)).1) && ((q.iu (q.s9 48 false false (n.getD 0 0) (n.getD 1 0)).1 (n.getD 1 0)) && ((q.iu (n.getD 0 0) (n.getD 1 0)) && ((q.iu (n.getD 0 0) (n.getD 1 0)) && ((q.iu (q.s9 0 false false (n.getD 0 0) (n.getD 1 0)).1 (n.getD 1 0)) && (tt 1 (q.iu (n.getD 0 0) (n.getD 1 0)))))))) then some false else none)
                  else
                    (bif ((q.s12 96 false (n.getD 0 0) (n.getD 1 0)).1 == (q.s12 208 false (n.getD 0 0) (n.getD 1 0)).1) then
                      (bif ((q.iu (q.s9 32 false false (q.s9 48 false false (n.getD 0 0) (n.getD 1 0)).1 (n.getD 1 0)).1 (q.s9 144 false false (n.getD 0 0) (n.getD 1 0)).1) && ((q.iu (q.s9 48 false false (n.getD 0 0) (n.getD 1 0)).1 (n.getD 1 0)) && ((q.iu (n.getD 0 0) (n.getD 1 0)) && ((q.iu (n.getD 0 0) (n.getD 1 0)) && ((q.iu (q.s9 0 false false (n.getD 0 0) (n.getD 1 0)).1 (n.getD 1 0)) && (tt 1 (q.iu (n.getD 0 0) (n.getD 1 0)))))))) then some false else none)
                    else
                      (bif (!(decide ((q.s12 96 false (n.getD 0 0) (n.getD 1 0)).2.1 = 0))) then
                        (bif ((q.iu (q.s9 32 false false (q.s9 48 false false (n.getD 0 0) (n.getD 1 0)).1 (n.getD 1 0)).1 (q.s9 144 false false (n.getD 0 0) (n.getD 1 0)).1) && ((q.iu (q.s9 48 false false (n.getD 0 0) (n.getD 1 0)).1 (n.getD 1 0)) && ((q.iu (n.getD 0 0) (n.getD 1 0)) && ((q.iu (n.getD 0 0) (n.getD 1 0)) && ((q.iu (q.s9 0 false false (n.getD 0 0) (n.getD 1 0)).1 (n.getD 1 0)) && (tt 1 (q.iu (n.getD 0 0) (n.getD 1 0)))))))) then some false else none)
                      else
                        (bif (!(decide ((q.s12 208 false (n.getD 0 0) (n.getD 1 0)).2.1 = 0))) then
                          (bif ((q.iu (q.s9 32 false false (q.s9 48 false false (n.getD 0 0) (n.getD 1 0)).1 (n.getD 1 0)).1 (q.s9 144 false false (n.getD 0 0) (n.getD 1 0)).1) && ((q.iu (q.s9 48 false false (n.getD 0 0) (n.getD 1 0)).1 (n.getD 1 0)) && ((q.iu (n.getD 0 0) (n.getD 1 0)) && ((q.iu (n.getD 0 0) (n.getD 1 0)) && ((q.iu (q.s9 0 false false (n.getD 0 0) (n.getD 1 0)).1 (n.getD 1 0)) && (tt 1 (q.iu (n.getD 0 0) (n.getD 1 0)))))))) then some false else none)
                        else
                          (bif ((q.s12 112 false (n.getD 0 0) (n.getD 1 0)).1 == (q.s12 192 false (n.getD 0 0) (n.getD 1 0)).1) then
                            (bif ((q.iu (q.s9 32 false false (q.s9 48 false false (n.getD 0 0) (n.getD 1 0)).1 (n.getD 1 0)).1 (q.s9 144 false false (n.getD 0 0) (n.getD 1 0)).1) && ((q.iu (q.s9 48 false false (n.getD 0 0) (n.getD 1 0)).1 (n.getD 1 0)) && ((q.iu (n.getD 0 0) (n.getD 1 0)) && ((q.iu (n.getD 0 0) (n.getD 1 0)) && ((q.iu (q.s9 0 false false (n.getD 0 0) (n.getD 1 0)).1 (n.getD 1 0)) && (tt 1 (q.iu (n.getD 0 0) (n.getD 1 0)))))))) then some false else none)
                          else
                            (bif (!(decide ((q.s12 112 false (n.getD 0 0) (n.getD 1 0)).2.1 = 0))) then
                              (bif ((q.iu (q.s9 32 false false (q.s9 48 false false (n.getD 0 0) (n.getD 1 0)).1 (n.getD 1 0)).1 (q.s9 144 false false (n.getD 0 0) (n.getD 1 0)).1) && ((q.iu (q.s9 48 false false (n.getD 0 0) (n.getD 1 0)).1 (n.getD 1 0)) && ((q.iu (n.getD 0 0) (n.getD 1 0)) && ((q.iu (n.getD 0 0) (n.getD 1 0)) && ((q.iu (q.s9 0 false false (n.getD 0 0) (n.getD 1 0)).1 (n.getD 1 0)) && (tt 1 (q.iu (n.getD 0 0) (n.getD 1 0)))))))) then some false else none)
                            else
                              (bif (!(decide ((q.s12 192 false (n.getD 0 0) (n.getD 1 0)).2.1 = 0))) then
                                (bif ((q.iu (q.s9 32 false false (q.s9 48 false false (n.getD 0 0) (n.getD 1 0)).1 (n.getD 1 0)).1 (q.s9 144 false false (n.getD 0 0) (n.getD 1 0)).1) && ((q.iu (q.s9 48 false false (n.getD 0 0) (n.getD 1 0)).1 (n.getD 1 0)) && ((q.iu (n.getD 0 0) (n.getD 1 0)) && ((q.iu (n.getD 0 0) (n.getD 1 0)) && ((q.iu (q.s9 0 false false (n.getD 0 0) (n.getD 1 0)).1 (n.getD 1 0)) && (tt 1 (q.iu (n.getD 0 0) (n.getD 1 0)))))))) then some false else none)
                              else
                                (bif (decide ((q.s9 16 false false (q.s9 0 false false (n.getD 0 0) (n.getD 1 0)).1 (n.getD 1 0)).1 = (q.s18 (n.getD 0 0) 32).1)) then
                                  (bif (decide ((q.s9 0 false false (q.s9 32 false false (q.s9 48 false false (n.getD 0 0) (n.getD 1 0)).1 (n.getD 1 0)).1 (q.s9 144 false false (n.getD 0 0) (n.getD 1 0)).1).1 = (q.s18 (n.getD 0 0) 32).1)) then
                                    (bif (decide ((q.s16 (q.s16 (n.getD 0 0) 64).1 64).1 = (n.getD 0 0))) then
                                      (bif ((q.iu (q.s9 32 false false (q.s9 48 false false (n.getD 0 0) (n.getD 1 0)).1 (n.getD 1 0)).1 (q.s9 144 false false (n.getD 0 0) (n.getD 1 0)).1) && ((q.iu (q.s9 48 false false (n.getD 0 0) (n.getD 1 0)).1 (n.getD 1 0)) && ((q.iu (n.getD 0 0) (n.getD 1 0)) && ((q.iu (n.getD 0 0) (n.getD 1 0)) && ((q.iu (q.s9 0 false false (n.getD 0 0) (n.getD 1 0)).1 (n.getD 1 0)) && (tt 1 (q.iu (n.getD 0 0) (n.getD 1 0)))))))) then some true else none)
                                    else
                                      (bif ((q.iu (q.s9 32 false false (q.s9 48 false false (n.getD 0 0) (n.getD 1 0)).1 (n.getD 1 0)).1 (q.s9 144 false false (n.getD 0 0) (n.getD 1 0)).1) && ((q.iu (q.s9 48 false false (n.getD 0 0) (n.getD 1 0)).1 (n.getD 1 0)) && ((q.iu (n.getD 0 0) (n.getD 1 0)) && ((q.iu (n.getD 0 0) (n.getD 1 0)) && ((q.iu (q.s9 0 false false (n.getD 0 0) (n.getD 1 0)).1 (n.getD 1 0)) && (tt 1 (q.iu (n.getD 0 0) (n.getD 1 0)))))))) then some false else none))
                                  else
                                    (bif ((q.iu (q.s9 32 false false (q.s9 48 false false (n.getD 0 0) (n.getD 1 0)).1 (n.getD 1 0)).1 (q.s9 144 false false (n.getD 0 0) (n.getD 1 0)).1) && ((q.iu (q.s9 48 false false (n.getD 0 0) (n.getD 1 0)).1 (n.getD 1 0)) && ((q.iu (n.getD 0 0) (n.getD 1 0)) && ((q.iu (n.getD 0 0) (n.getD 1 0)) && ((q.iu (q.s9 0 false false (n.getD 0 0) (n.getD 1 0)).1 (n.getD 1 0)) && (tt 1 (q.iu (n.getD 0 0) (n.getD 1 0)))))))) then some false else none))
                                else
                                  (bif ((q.iu (q.s9 32 false false (q.s9 48 false false (n.getD 0 0) (n.getD 1 0)).1 (n.getD 1 0)).1 (q.s9 144 false false (n.getD 0 0) (n.getD 1 0)).1) && ((q.iu (q.s9 48 false false (n.getD 0 0) (n.getD 1 0)).1 (n.getD 1 0)) && ((q.iu (n.getD 0 0) (n.getD 1 0)) && ((q.iu (n.getD 0 0) (n.getD 1 0)) && ((q.iu (q.s9 0 false false (n.getD 0 0) (n.getD 1 0)).1 (n.getD 1 0)) && (tt 1 (q.iu (n.getD 0 0) (n.getD 1 0)))))))) then some false else none)))))))))))))))))
theorem tL8f (q : Sp) (n : List Int) : fnT (CxA (K3 q)) Try.f8 .bool [⟨(.arr 2 (.int .u64)), n⟩, vB false] = SL8f q  n  := by kernel_rfl
def SL7 (q : Sp) (n bits : Int) (w : Bool) : Option Bool :=
  (bif (decide ((q.s14 n bits w).1 = (q.s15 n bits w).1)) then
    (bif (decide ((q.s14 n bits w).2.1 = (q.s15 n bits w).2.1)) then
      (bif (decide ((q.s16 n bits).1 = (q.s17 n bits).1)) then
        (bif (decide ((q.s16 n bits).2.1 = (q.s17 n bits).2.1)) then
          (bif (decide ((q.s18 n bits).1 = (q.s19 n bits).1)) then (bif (decide ((q.s18 n bits).2.1 = (q.s19 n bits).2.1)) then some true else some false) else some false)
        else
          some false)
      else
        some false)
    else
      some false)
  else
    some false)
theorem tL7 (q : Sp) (n bits : Int) (w : Bool) : fnT (CxA (K3 q)) Try.f7 .bool [vU n, vI bits, vB w] = SL7 q  n bits  w  := by kernel_rfl
end Go.Proofs
