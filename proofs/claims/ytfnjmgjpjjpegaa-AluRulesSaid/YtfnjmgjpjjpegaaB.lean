import Derived.Test.YtfnjmgjpjjpegaaM
namespace Go.Proofs
open Go.GX
set_option linter.unusedVariables false
def tt : Nat → Bool → Bool
  | 0, b => b
  | n + 1, b => tt n b && true
def S20tt (op a b : Int) : Option Int :=
  (bif (decide (b = 0)) then
    (bif (decide (48 = op)) then
      (bif (decide (48 = op)) then
        some 0
      else
        (bif (decide (144 = op)) then (bif (decide (144 = op)) then some a else some a) else (bif (decide (144 = op)) then some a else some a)))
    else
      (bif (decide (48 = op)) then
        some 0
      else
        (bif (decide (144 = op)) then (bif (decide (144 = op)) then some a else some a) else (bif (decide (144 = op)) then some a else some a))))
  else
    (bif (decide (op = 48)) then
      (bif (tt 1 (!(decide ((IntKind.wrap .i64 b) = 0)))) then some (IntKind.wrap .u64 (IntKind.wrap .i64 (Int.tdiv (IntKind.wrap .i64 a) (IntKind.wrap .i64 b)))) else none)
    else
      (bif (tt 1 (!(decide ((IntKind.wrap .i64 b) = 0)))) then some (IntKind.wrap .u64 (Int.tmod (IntKind.wrap .i64 a) (IntKind.wrap .i64 b))) else none)))
def S22ttt (a b : Int) : Option Int :=
  (bif (decide (b = 0)) then
    some a
  else
    (bif (decide ((IntKind.wrap .i64 b) = (-1))) then
      some 0
    else
      (bif (tt 1 (!(decide ((IntKind.wrap .i64 b) = 0)))) then some (IntKind.wrap .u64 (Int.tmod (IntKind.wrap .i64 a) (IntKind.wrap .i64 b))) else none)))
def S22ftt (a b : Int) : Option Int :=
  (bif (decide (b = 0)) then
    some 0
  else
    (bif (decide ((IntKind.wrap .i64 b) = (-1))) then
      some (IntKind.wrap .u64 (IntKind.wrap .i64 (0 - (IntKind.wrap .i64 a))))
    else
      (bif (tt 1 (!(decide ((IntKind.wrap .i64 b) = 0)))) then some (IntKind.wrap .u64 (IntKind.wrap .i64 (Int.tdiv (IntKind.wrap .i64 a) (IntKind.wrap .i64 b)))) else none)))
def S20tf (op a b : Int) : Option Int :=
  (bif (decide (b = 0)) then
    (bif (decide (48 = op)) then
      (bif (decide (48 = op)) then
        some 0
      else
        (bif (decide (144 = op)) then (bif (decide (144 = op)) then some a else some a) else (bif (decide (144 = op)) then some a else some a)))
    else
      (bif (decide (48 = op)) then
        some 0
      else
        (bif (decide (144 = op)) then (bif (decide (144 = op)) then some a else some a) else (bif (decide (144 = op)) then some a else some a))))
  else
    (bif (decide (op = 48)) then
      (bif (tt 1 (!(decide ((IntKind.wrap .i64 (IntKind.wrap .i32 b)) = 0)))) then some (IntKind.wrap .u64 (IntKind.wrap .i64 (Int.tdiv (IntKind.wrap .i64 (IntKind.wrap .i32 a)) (IntKind.wrap .i64 (IntKind.wrap .i32 b))))) else none)
    else
      (bif (tt 1 (!(decide ((IntKind.wrap .i64 (IntKind.wrap .i32 b)) = 0)))) then some (IntKind.wrap .u64 (Int.tmod (IntKind.wrap .i64 (IntKind.wrap .i32 a)) (IntKind.wrap .i64 (IntKind.wrap .i32 b)))) else none)))
def S22ttf (a b : Int) : Option Int :=
  (bif (decide (b = 0)) then
    some a
  else
    (bif (decide ((IntKind.wrap .i64 (IntKind.wrap .i32 b)) = (-1))) then
      some 0
    else
      (bif (tt 1 (!(decide ((IntKind.wrap .i64 (IntKind.wrap .i32 b)) = 0)))) then some (IntKind.wrap .u64 (Int.tmod (IntKind.wrap .i64 (IntKind.wrap .i32 a)) (IntKind.wrap .i64 (IntKind.wrap .i32 b)))) else none)))
def S22ftf (a b : Int) : Option Int :=
  (bif (decide (b = 0)) then
    some 0
  else
    (bif (decide ((IntKind.wrap .i64 (IntKind.wrap .i32 b)) = (-1))) then
      some (IntKind.wrap .u64 (IntKind.wrap .i64 (0 - (IntKind.wrap .i64 (IntKind.wrap .i32 a)))))
    else
      (bif (tt 1 (!(decide ((IntKind.wrap .i64 (IntKind.wrap .i32 b)) = 0)))) then some (IntKind.wrap .u64 (IntKind.wrap .i64 (Int.tdiv (IntKind.wrap .i64 (IntKind.wrap .i32 a)) (IntKind.wrap .i64 (IntKind.wrap .i32 b))))) else none)))
def S20ft (op a b : Int) : Option Int :=
  (bif (decide (b = 0)) then
    (bif (decide (48 = op)) then
      some 0
    else
      (bif (decide (48 = op)) then
        (bif (decide (144 = op)) then (bif (decide (144 = op)) then some a else some a) else (bif (decide (144 = op)) then some a else some a))
      else
        (bif (decide (144 = op)) then (bif (decide (144 = op)) then some a else some a) else (bif (decide (144 = op)) then some a else some a))))
  else
    (bif (decide (op = 48)) then
      (bif (tt 1 (!(decide (b = 0)))) then some (IntKind.wrap .u64 (Int.tdiv a b)) else none)
    else
      (bif (tt 1 (!(decide (b = 0)))) then some (Int.tmod a b) else none)))
def S22tft (a b : Int) : Option Int :=
  (bif (decide (b = 0)) then some a else (bif (tt 1 (!(decide (b = 0)))) then some (Int.tmod a b) else none))
def S22fft (a b : Int) : Option Int :=
  (bif (decide (b = 0)) then some 0 else (bif (tt 1 (!(decide (b = 0)))) then some (IntKind.wrap .u64 (Int.tdiv a b)) else none))
def S20ff (op a b : Int) : Option Int :=
  (bif (decide (b = 0)) then
    (bif (decide (48 = op)) then
      some 0
    else
      (bif (decide (48 = op)) then
        (bif (decide (144 = op)) then (bif (decide (144 = op)) then some a else some a) else (bif (decide (144 = op)) then some a else some a))
      else
        (bif (decide (144 = op)) then (bif (decide (144 = op)) then some a else some a) else (bif (decide (144 = op)) then some a else some a))))
  else
    (bif (decide (op = 48)) then
      (bif (tt 1 (!(decide (b = 0)))) then some (IntKind.wrap .u64 (Int.tdiv a b)) else none)
    else
      (bif (tt 1 (!(decide (b = 0)))) then some (Int.tmod a b) else none)))
def S22tff (a b : Int) : Option Int :=
  (bif (decide (b = 0)) then some a else (bif (tt 1 (!(decide (b = 0)))) then some (Int.tmod a b) else none))
def S22fff (a b : Int) : Option Int :=
  (bif (decide (b = 0)) then some 0 else (bif (tt 1 (!(decide (b = 0)))) then some (IntKind.wrap .u64 (Int.tdiv a b)) else none))
theorem t20tt (op a b : Int) : fnT (CxA KN) Try.f20 U64 [vI op, vB true, vB true, vU a, vU b] = S20tt op a b := by kernel_rfl
theorem t22ttt (a b : Int) : fnT (CxA KN) Try.f22 U64 [vB true, vB true, vB true, vU a, vU b] = S22ttt a b := by kernel_rfl
theorem t22ftt (a b : Int) : fnT (CxA KN) Try.f22 U64 [vB false, vB true, vB true, vU a, vU b] = S22ftt a b := by kernel_rfl
theorem t20tf (op a b : Int) : fnT (CxA KN) Try.f20 U64 [vI op, vB true, vB false, vU a, vU b] = S20tf op a b := by kernel_rfl
theorem t22ttf (a b : Int) : fnT (CxA KN) Try.f22 U64 [vB true, vB true, vB false, vU a, vU b] = S22ttf a b := by kernel_rfl
theorem t22ftf (a b : Int) : fnT (CxA KN) Try.f22 U64 [vB false, vB true, vB false, vU a, vU b] = S22ftf a b := by kernel_rfl
theorem t20ft (op a b : Int) : fnT (CxA KN) Try.f20 U64 [vI op, vB false, vB true, vU a, vU b] = S20ft op a b := by kernel_rfl
theorem t22tft (a b : Int) : fnT (CxA KN) Try.f22 U64 [vB true, vB false, vB true, vU a, vU b] = S22tft a b := by kernel_rfl
theorem t22fft (a b : Int) : fnT (CxA KN) Try.f22 U64 [vB false, vB false, vB true, vU a, vU b] = S22fft a b := by kernel_rfl
theorem t20ff (op a b : Int) : fnT (CxA KN) Try.f20 U64 [vI op, vB false, vB false, vU a, vU b] = S20ff op a b := by kernel_rfl
theorem t22tff (a b : Int) : fnT (CxA KN) Try.f22 U64 [vB true, vB false, vB false, vU a, vU b] = S22tff a b := by kernel_rfl
theorem t22fff (a b : Int) : fnT (CxA KN) Try.f22 U64 [vB false, vB false, vB false, vU a, vU b] = S22fff a b := by kernel_rfl
def s20 (op : Int) (s w : Bool) (a b : Int) : Int :=
  (bif s then (bif w then S20tt op a b else S20tf op a b) else (bif w then S20ft op a b else S20ff op a b)).getD 0
def s22 (r s w : Bool) (a b : Int) : Int :=
  (bif r then (bif s then (bif w then S22ttt a b else S22ttf a b) else (bif w then S22tft a b else S22tff a b))
   else (bif s then (bif w then S22ftt a b else S22ftf a b) else (bif w then S22fft a b else S22fff a b))).getD 0
def inU (b : Int) : Bool := decide (0 ≤ b) && decide (b < 18446744073709551616)
def inW (w : Bool) (b : Int) : Bool := bif w then inU b else decide (0 ≤ b) && decide (b < 4294967296)
def pSb (g : List V → Option (V × Bool)) : Sm := fun args mem nxt => match g args with | some (v, c) => some (v, mem, nxt, c) | none => none
def g20 (iu : Bool → Int → Bool) : List V → Option (V × Bool) := fun args => match args with | [⟨.int .i64, op⟩, ⟨.bool, s⟩, ⟨.bool, w⟩, ⟨.int .u64, a⟩, ⟨.int .u64, b⟩] => some (⟨.int .u64, s20 op s w a b⟩, iu w b) | _ => none
def g22 (iu : Bool → Int → Bool) : List V → Option (V × Bool) := fun args => match args with | [⟨.bool, r⟩, ⟨.bool, s⟩, ⟨.bool, w⟩, ⟨.int .u64, a⟩, ⟨.int .u64, b⟩] => some (⟨.int .u64, s22 r s w a b⟩, iu w b) | _ => none
def D9 (iu : Bool → Int → Bool) : Kn := kOf [(20, pSb (g20 iu)), (22, pSb (g22 iu))]
noncomputable def K9 (iu : Bool → Int → Bool) : Kn := KX Try.Θ Try.F (D9 iu) 100 10
def S9tt (iu : Bool → Int → Bool) (op a b : Int) : Option (Int × Int × Unit) :=
  (bif (decide (op = 48)) then
    (bif (tt 1 (iu true b)) then some ((s20 op true true a b), 0, ()) else none)
  else
    (bif (decide (op = 144)) then
      (bif (tt 1 (iu true b)) then some ((s20 op true true a b), 0, ()) else none)
    else
      (bif (decide (op = 0)) then
        some (0, 1, ())
      else
        (bif (decide (op = 16)) then
          some (0, 1, ())
        else
          (bif (decide (op = 32)) then
            some (0, 1, ())
          else
            (bif (decide (op = 64)) then
              some (0, 1, ())
            else
              (bif (decide (op = 80)) then
                some (0, 1, ())
              else
                (bif (decide (op = 96)) then
                  (bif (tt 1 (decide (0 ≤ (Int.tmod b 64)))) then some (0, 1, ()) else none)
                else
                  (bif (decide (op = 112)) then
                    (bif (tt 1 (decide (0 ≤ (Int.tmod b 64)))) then some (0, 1, ()) else none)
                  else
                    (bif (decide (op = 128)) then
                      some (0, 1, ())
                    else
                      (bif (decide (op = 160)) then
                        some (0, 1, ())
                      else
                        (bif (decide (op = 176)) then
                          some (0, 1, ())
                        else
                          (bif (decide (op = 192)) then (bif (tt 1 (decide (0 ≤ (Int.tmod b 64)))) then some (0, 1, ()) else none) else some (0, 1, ()))))))))))))))
def S10tt (iu : Bool → Int → Bool) (op a b : Int) : Option (Int × Int × Unit) :=
  (bif (!(decide (op = 48))) then
    (bif (!(decide (op = 144))) then
      some (0, 1, ())
    else
      (bif (decide (op = 0)) then
        some ((IntKind.wrap .u64 (a + b)), 0, ())
      else
        (bif (decide (op = 16)) then
          some ((IntKind.wrap .u64 (a - b)), 0, ())
        else
          (bif (decide (op = 32)) then
            some ((IntKind.wrap .u64 (a * b)), 0, ())
          else
            (bif (decide (op = 48)) then
              (bif (tt 1 (iu true b)) then some ((s22 false true true a b), 0, ()) else none)
            else
              (bif (decide (op = 64)) then
                some ((ior .u64 a b), 0, ())
              else
                (bif (decide (op = 80)) then
                  some ((iand .u64 a b), 0, ())
                else
                  (bif (decide (op = 96)) then
                    (bif (tt 1 (decide (0 ≤ (iand .u64 b 63)))) then some ((ishl .u64 a (iand .u64 b 63)), 0, ()) else none)
                  else
                    (bif (decide (op = 112)) then
                      (bif (tt 1 (decide (0 ≤ (iand .u64 b 63)))) then some ((ishr .u64 a (iand .u64 b 63)), 0, ()) else none)
                    else
                      (bif (decide (op = 128)) then
                        some ((IntKind.wrap .u64 (0 - a)), 0, ())
                      else
                        (bif (decide (op = 144)) then
                          (bif (tt 1 (iu true b)) then some ((s22 true true true a b), 0, ()) else none)
                        else
                          (bif (decide (op = 160)) then
                            some ((ixor .u64 a b), 0, ())
                          else
                            (bif (decide (op = 176)) then
                              some (b, 0, ())
                            else
                              (bif (decide (op = 192)) then
                                (bif (tt 1 (decide (0 ≤ (iand .u64 b 63)))) then some ((IntKind.wrap .u64 (ishr .i64 (IntKind.wrap .i64 a) (iand .u64 b 63))), 0, ()) else none)
                              else
                                some (0, 1, ())))))))))))))))
  else
    (bif (decide (op = 0)) then
      some ((IntKind.wrap .u64 (a + b)), 0, ())
    else
      (bif (decide (op = 16)) then
        some ((IntKind.wrap .u64 (a - b)), 0, ())
      else
        (bif (decide (op = 32)) then
          some ((IntKind.wrap .u64 (a * b)), 0, ())
        else
          (bif (decide (op = 48)) then
            (bif (tt 1 (iu true b)) then some ((s22 false true true a b), 0, ()) else none)
          else
            (bif (decide (op = 64)) then
              some ((ior .u64 a b), 0, ())
            else
              (bif (decide (op = 80)) then
                some ((iand .u64 a b), 0, ())
              else
                (bif (decide (op = 96)) then
                  (bif (tt 1 (decide (0 ≤ (iand .u64 b 63)))) then some ((ishl .u64 a (iand .u64 b 63)), 0, ()) else none)
                else
                  (bif (decide (op = 112)) then
                    (bif (tt 1 (decide (0 ≤ (iand .u64 b 63)))) then some ((ishr .u64 a (iand .u64 b 63)), 0, ()) else none)
                  else
                    (bif (decide (op = 128)) then
                      some ((IntKind.wrap .u64 (0 - a)), 0, ())
                    else
                      (bif (decide (op = 144)) then
                        (bif (tt 1 (iu true b)) then some ((s22 true true true a b), 0, ()) else none)
                      else
                        (bif (decide (op = 160)) then
                          some ((ixor .u64 a b), 0, ())
                        else
                          (bif (decide (op = 176)) then
                            some (b, 0, ())
                          else
                            (bif (decide (op = 192)) then
                              (bif (tt 1 (decide (0 ≤ (iand .u64 b 63)))) then some ((IntKind.wrap .u64 (ishr .i64 (IntKind.wrap .i64 a) (iand .u64 b 63))), 0, ()) else none)
                            else
                              some (0, 1, ())))))))))))))))
def S9ft (iu : Bool → Int → Bool) (op a b : Int) : Option (Int × Int × Unit) :=
  (bif (decide (op = 48)) then
    (bif (tt 1 (iu false (iand .u64 b 4294967295))) then some ((IntKind.wrap .u64 (IntKind.wrap .u32 (s20 op true false (iand .u64 a 4294967295) (iand .u64 b 4294967295)))), 0, ()) else none)
  else
    (bif (decide (op = 144)) then
      (bif (tt 1 (iu false (iand .u64 b 4294967295))) then some ((IntKind.wrap .u64 (IntKind.wrap .u32 (s20 op true false (iand .u64 a 4294967295) (iand .u64 b 4294967295)))), 0, ()) else none)
    else
      (bif (decide (op = 0)) then
        some (0, 1, ())
      else
        (bif (decide (op = 16)) then
          some (0, 1, ())
        else
          (bif (decide (op = 32)) then
            some (0, 1, ())
          else
            (bif (decide (op = 64)) then
              some (0, 1, ())
            else
              (bif (decide (op = 80)) then
                some (0, 1, ())
              else
                (bif (decide (op = 96)) then
                  (bif (tt 1 (decide (0 ≤ (Int.tmod (iand .u64 b 4294967295) 32)))) then some (0, 1, ()) else none)
                else
                  (bif (decide (op = 112)) then
                    (bif (tt 1 (decide (0 ≤ (Int.tmod (iand .u64 b 4294967295) 32)))) then some (0, 1, ()) else none)
                  else
                    (bif (decide (op = 128)) then
                      some (0, 1, ())
                    else
                      (bif (decide (op = 160)) then
                        some (0, 1, ())
                      else
                        (bif (decide (op = 176)) then
                          some (0, 1, ())
                        else
                          (bif (decide (op = 192)) then (bif (tt 1 (decide (0 ≤ (Int.tmod (iand .u64 b 4294967295) 32)))) then some (0, 1, ()) else none) else some (0, 1, ()))))))))))))))
def S10ft (iu : Bool → Int → Bool) (op a b : Int) : Option (Int × Int × Unit) :=
  (bif (!(decide (op = 48))) then
    (bif (!(decide (op = 144))) then
      some (0, 1, ())
    else
      (bif (decide (op = 0)) then
        some ((iand .u64 (IntKind.wrap .u64 ((iand .u64 a 4294967295) + (iand .u64 b 4294967295))) 4294967295), 0, ())
      else
        (bif (decide (op = 16)) then
          some ((iand .u64 (IntKind.wrap .u64 ((iand .u64 a 4294967295) - (iand .u64 b 4294967295))) 4294967295), 0, ())
        else
          (bif (decide (op = 32)) then
            some ((iand .u64 (IntKind.wrap .u64 ((iand .u64 a 4294967295) * (iand .u64 b 4294967295))) 4294967295), 0, ())
          else
            (bif (decide (op = 48)) then
              (bif (tt 1 (iu false (iand .u64 b 4294967295))) then some ((iand .u64 (s22 false true false (iand .u64 a 4294967295) (iand .u64 b 4294967295)) 4294967295), 0, ()) else none)
            else
              (bif (decide (op = 64)) then
                some ((iand .u64 (ior .u64 (iand .u64 a 4294967295) (iand .u64 b 4294967295)) 4294967295), 0, ())
              else
                (bif (decide (op = 80)) then
                  some ((iand .u64 (iand .u64 (iand .u64 a 4294967295) (iand .u64 b 4294967295)) 4294967295), 0, ())
                else
                  (bif (decide (op = 96)) then
                    (bif (tt 1 (decide (0 ≤ (iand .u64 (iand .u64 b 4294967295) 31)))) then some ((iand .u64 (ishl .u64 (iand .u64 a 4294967295) (iand .u64 (iand .u64 b 4294967295) 31)) 4294967295), 0, ()) else none)
                  else
                    (bif (decide (op = 112)) then
                      (bif (tt 1 (decide (0 ≤ (iand .u64 (iand .u64 b 4294967295) 31)))) then some ((iand .u64 (ishr .u64 (iand .u64 a 4294967295) (iand .u64 (iand .u64 b 4294967295) 31)) 4294967295), 0, ()) else none)
                    else
                      (bif (decide (op = 128)) then
                        some ((iand .u64 (IntKind.wrap .u64 (0 - (iand .u64 a 4294967295))) 4294967295), 0, ())
                      else
                        (bif (decide (op = 144)) then
                          (bif (tt 1 (iu false (iand .u64 b 4294967295))) then some ((iand .u64 (s22 true true false (iand .u64 a 4294967295) (iand .u64 b 4294967295)) 4294967295), 0, ()) else none)
                        else
                          (bif (decide (op = 160)) then
                            some ((iand .u64 (ixor .u64 (iand .u64 a 4294967295) (iand .u64 b 4294967295)) 4294967295), 0, ())
                          else
                            (bif (decide (op = 176)) then
                              some ((iand .u64 (iand .u64 b 4294967295) 4294967295), 0, ())
                            else
                              (bif (decide (op = 192)) then
                                (bif ((decide (0 ≤ (iand .u64 (iand .u64 b 4294967295) 31))) && (tt 1 (decide (0 ≤ (iand .u64 (iand .u64 b 4294967295) 31))))) then some ((iand .u64 (IntKind.wrap .u64 (ishr .i64 (IntKind.wrap .i64 (IntKind.wrap .i32 (iand .u64 a 4294967295))) (iand .u64 (iand .u64 b 4294967295) 31))) 4294967295), 0, ()) else none)
                              else
                                some (0, 1, ())))))))))))))))
  else
    (bif (decide (op = 0)) then
      some ((iand .u64 (IntKind.wrap .u64 ((iand .u64 a 4294967295) + (iand .u64 b 4294967295))) 4294967295), 0, ())
    else
      (bif (decide (op = 16)) then
        some ((iand .u64 (IntKind.wrap .u64 ((iand .u64 a 4294967295) - (iand .u64 b 4294967295))) 4294967295), 0, ())
      else
        (bif (decide (op = 32)) then
          some ((iand .u64 (IntKind.wrap .u64 ((iand .u64 a 4294967295) * (iand .u64 b 4294967295))) 4294967295), 0, ())
        else
          (bif (decide (op = 48)) then
            (bif (tt 1 (iu false (iand .u64 b 4294967295))) then some ((iand .u64 (s22 false true false (iand .u64 a 4294967295) (iand .u64 b 4294967295)) 4294967295), 0, ()) else none)
          else
            (bif (decide (op = 64)) then
              some ((iand .u64 (ior .u64 (iand .u64 a 4294967295) (iand .u64 b 4294967295)) 4294967295), 0, ())
            else
              (bif (decide (op = 80)) then
                some ((iand .u64 (iand .u64 (iand .u64 a 4294967295) (iand .u64 b 4294967295)) 4294967295), 0, ())
              else
                (bif (decide (op = 96)) then
                  (bif (tt 1 (decide (0 ≤ (iand .u64 (iand .u64 b 4294967295) 31)))) then some ((iand .u64 (ishl .u64 (iand .u64 a 4294967295) (iand .u64 (iand .u64 b 4294967295) 31)) 4294967295), 0, ()) else none)
                else
                  (bif (decide (op = 112)) then
                    (bif (tt 1 (decide (0 ≤ (iand .u64 (iand .u64 b 4294967295) 31)))) then some ((iand .u64 (ishr .u64 (iand .u64 a 4294967295) (iand .u64 (iand .u64 b 4294967295) 31)) 4294967295), 0, ()) else none)
                  else
                    (bif (decide (op = 128)) then
                      some ((iand .u64 (IntKind.wrap .u64 (0 - (iand .u64 a 4294967295))) 4294967295), 0, ())
                    else
                      (bif (decide (op = 144)) then
                        (bif (tt 1 (iu false (iand .u64 b 4294967295))) then some ((iand .u64 (s22 true true false (iand .u64 a 4294967295) (iand .u64 b 4294967295)) 4294967295), 0, ()) else none)
                      else
                        (bif (decide (op = 160)) then
                          some ((iand .u64 (ixor .u64 (iand .u64 a 4294967295) (iand .u64 b 4294967295)) 4294967295), 0, ())
                        else
                          (bif (decide (op = 176)) then
                            some ((iand .u64 (iand .u64 b 4294967295) 4294967295), 0, ())
                          else
                            (bif (decide (op = 192)) then
                              (bif ((decide (0 ≤ (iand .u64 (iand .u64 b 4294967295) 31))) && (tt 1 (decide (0 ≤ (iand .u64 (iand .u64 b 4294967295) 31))))) then some ((iand .u64 (IntKind.wrap .u64 (ishr .i64 (IntKind.wrap .i64 (IntKind.wrap .i32 (iand .u64 a 4294967295))) (iand .u64 (iand .u64 b 4294967295) 31))) 4294967295), 0, ()) else none)
                            else
                              some (0, 1, ())))))))))))))))
def S9tf (iu : Bool → Int → Bool) (op a b : Int) : Option (Int × Int × Unit) :=
  (bif (decide (op = 48)) then
    (bif (tt 1 (iu true b)) then some ((s20 op false true a b), 0, ()) else none)
  else
    (bif (decide (op = 144)) then
      (bif (tt 1 (iu true b)) then some ((s20 op false true a b), 0, ()) else none)
    else
      (bif (decide (op = 0)) then
        some ((IntKind.wrap .u64 (a + b)), 0, ())
      else
        (bif (decide (op = 16)) then
          some ((IntKind.wrap .u64 (a - b)), 0, ())
        else
          (bif (decide (op = 32)) then
            some ((IntKind.wrap .u64 (a * b)), 0, ())
          else
            (bif (decide (op = 64)) then
              some ((ior .u64 a b), 0, ())
            else
              (bif (decide (op = 80)) then
                some ((iand .u64 a b), 0, ())
              else
                (bif (decide (op = 96)) then
                  (bif (tt 1 (decide (0 ≤ (Int.tmod b 64)))) then some ((ishl .u64 a (Int.tmod b 64)), 0, ()) else none)
                else
                  (bif (decide (op = 112)) then
                    (bif (tt 1 (decide (0 ≤ (Int.tmod b 64)))) then some ((ishr .u64 a (Int.tmod b 64)), 0, ()) else none)
                  else
                    (bif (decide (op = 128)) then
                      some ((IntKind.wrap .u64 (0 - a)), 0, ())
                    else
                      (bif (decide (op = 160)) then
                        some ((ixor .u64 a b), 0, ())
                      else
                        (bif (decide (op = 176)) then
                          some (b, 0, ())
                        else
                          (bif (decide (op = 192)) then
                            (bif (tt 1 (decide (0 ≤ (Int.tmod b 64)))) then some ((IntKind.wrap .u64 (ishr .i64 (ishr .i64 (IntKind.wrap .i64 (ishl .u64 a 0)) 0) (Int.tmod b 64))), 0, ()) else none)
                          else
                            some (0, 1, ()))))))))))))))
def S10tf (iu : Bool → Int → Bool) (op a b : Int) : Option (Int × Int × Unit) :=
  (bif (decide (op = 0)) then
    some ((IntKind.wrap .u64 (a + b)), 0, ())
  else
    (bif (decide (op = 16)) then
      some ((IntKind.wrap .u64 (a - b)), 0, ())
    else
      (bif (decide (op = 32)) then
        some ((IntKind.wrap .u64 (a * b)), 0, ())
      else
        (bif (decide (op = 48)) then
          (bif (tt 1 (iu true b)) then some ((s22 false false true a b), 0, ()) else none)
        else
          (bif (decide (op = 64)) then
            some ((ior .u64 a b), 0, ())
          else
            (bif (decide (op = 80)) then
              some ((iand .u64 a b), 0, ())
            else
              (bif (decide (op = 96)) then
                (bif (tt 1 (decide (0 ≤ (iand .u64 b 63)))) then some ((ishl .u64 a (iand .u64 b 63)), 0, ()) else none)
              else
                (bif (decide (op = 112)) then
                  (bif (tt 1 (decide (0 ≤ (iand .u64 b 63)))) then some ((ishr .u64 a (iand .u64 b 63)), 0, ()) else none)
                else
                  (bif (decide (op = 128)) then
                    some ((IntKind.wrap .u64 (0 - a)), 0, ())
                  else
                    (bif (decide (op = 144)) then
                      (bif (tt 1 (iu true b)) then some ((s22 true false true a b), 0, ()) else none)
                    else
                      (bif (decide (op = 160)) then
                        some ((ixor .u64 a b), 0, ())
                      else
                        (bif (decide (op = 176)) then
                          some (b, 0, ())
                        else
                          (bif (decide (op = 192)) then
                            (bif (tt 1 (decide (0 ≤ (iand .u64 b 63)))) then some ((IntKind.wrap .u64 (ishr .i64 (IntKind.wrap .i64 a) (iand .u64 b 63))), 0, ()) else none)
                          else
                            some (0, 1, ()))))))))))))))
def S9ff (iu : Bool → Int → Bool) (op a b : Int) : Option (Int × Int × Unit) :=
  (bif (decide (op = 48)) then
    (bif (tt 1 (iu false (iand .u64 b 4294967295))) then some ((IntKind.wrap .u64 (IntKind.wrap .u32 (s20 op false false (iand .u64 a 4294967295) (iand .u64 b 4294967295)))), 0, ()) else none)
  else
    (bif (decide (op = 144)) then
      (bif (tt 1 (iu false (iand .u64 b 4294967295))) then some ((IntKind.wrap .u64 (IntKind.wrap .u32 (s20 op false false (iand .u64 a 4294967295) (iand .u64 b 4294967295)))), 0, ()) else none)
    else
      (bif (decide (op = 0)) then
        some ((IntKind.wrap .u64 (IntKind.wrap .u32 (IntKind.wrap .u64 ((iand .u64 a 4294967295) + (iand .u64 b 4294967295))))), 0, ())
      else
        (bif (decide (op = 16)) then
          some ((IntKind.wrap .u64 (IntKind.wrap .u32 (IntKind.wrap .u64 ((iand .u64 a 4294967295) - (iand .u64 b 4294967295))))), 0, ())
        else
          (bif (decide (op = 32)) then
            some ((IntKind.wrap .u64 (IntKind.wrap .u32 (IntKind.wrap .u64 ((iand .u64 a 4294967295) * (iand .u64 b 4294967295))))), 0, ())
          else
            (bif (decide (op = 64)) then
              some ((IntKind.wrap .u64 (IntKind.wrap .u32 (ior .u64 (iand .u64 a 4294967295) (iand .u64 b 4294967295)))), 0, ())
            else
              (bif (decide (op = 80)) then
                some ((IntKind.wrap .u64 (IntKind.wrap .u32 (iand .u64 (iand .u64 a 4294967295) (iand .u64 b 4294967295)))), 0, ())
              else
                (bif (decide (op = 96)) then
                  (bif (tt 1 (decide (0 ≤ (Int.tmod (iand .u64 b 4294967295) 32)))) then some ((IntKind.wrap .u64 (IntKind.wrap .u32 (ishl .u64 (iand .u64 a 4294967295) (Int.tmod (iand .u64 b 4294967295) 32)))), 0, ()) else none)
                else
                  (bif (decide (op = 112)) then
                    (bif (tt 1 (decide (0 ≤ (Int.tmod (iand .u64 b 4294967295) 32)))) then some ((IntKind.wrap .u64 (IntKind.wrap .u32 (ishr .u64 (iand .u64 a 4294967295) (Int.tmod (iand .u64 b 4294967295) 32)))), 0, ()) else none)
                  else
                    (bif (decide (op = 128)) then
                      some ((IntKind.wrap .u64 (IntKind.wrap .u32 (IntKind.wrap .u64 (0 - (iand .u64 a 4294967295))))), 0, ())
                    else
                      (bif (decide (op = 160)) then
                        some ((IntKind.wrap .u64 (IntKind.wrap .u32 (ixor .u64 (iand .u64 a 4294967295) (iand .u64 b 4294967295)))), 0, ())
                      else
                        (bif (decide (op = 176)) then
                          some ((IntKind.wrap .u64 (IntKind.wrap .u32 (iand .u64 b 4294967295))), 0, ())
                        else
                          (bif (decide (op = 192)) then
                            (bif (tt 1 (decide (0 ≤ (Int.tmod (iand .u64 b 4294967295) 32)))) then some ((IntKind.wrap .u64 (IntKind.wrap .u32 (IntKind.wrap .u64 (ishr .i64 (ishr .i64 (IntKind.wrap .i64 (ishl .u64 (iand .u64 a 4294967295) 32)) 32) (Int.tmod (iand .u64 b 4294967295) 32))))), 0, ()) else none)
                          else
                            some (0, 1, ()))))))))))))))
def S10ff (iu : Bool → Int → Bool) (op a b : Int) : Option (Int × Int × Unit) :=
  (bif (decide (op = 0)) then
    some ((iand .u64 (IntKind.wrap .u64 ((iand .u64 a 4294967295) + (iand .u64 b 4294967295))) 4294967295), 0, ())
  else
    (bif (decide (op = 16)) then
      some ((iand .u64 (IntKind.wrap .u64 ((iand .u64 a 4294967295) - (iand .u64 b 4294967295))) 4294967295), 0, ())
    else
      (bif (decide (op = 32)) then
        some ((iand .u64 (IntKind.wrap .u64 ((iand .u64 a 4294967295) * (iand .u64 b 4294967295))) 4294967295), 0, ())
      else
        (bif (decide (op = 48)) then
          (bif (tt 1 (iu false (iand .u64 b 4294967295))) then some ((iand .u64 (s22 false false false (iand .u64 a 4294967295) (iand .u64 b 4294967295)) 4294967295), 0, ()) else none)
        else
          (bif (decide (op = 64)) then
            some ((iand .u64 (ior .u64 (iand .u64 a 4294967295) (iand .u64 b 4294967295)) 4294967295), 0, ())
          else
            (bif (decide (op = 80)) then
              some ((iand .u64 (iand .u64 (iand .u64 a 4294967295) (iand .u64 b 4294967295)) 4294967295), 0, ())
            else
              (bif (decide (op = 96)) then
                (bif (tt 1 (decide (0 ≤ (iand .u64 (iand .u64 b 4294967295) 31)))) then some ((iand .u64 (ishl .u64 (iand .u64 a 4294967295) (iand .u64 (iand .u64 b 4294967295) 31)) 4294967295), 0, ()) else none)
              else
                (bif (decide (op = 112)) then
                  (bif (tt 1 (decide (0 ≤ (iand .u64 (iand .u64 b 4294967295) 31)))) then some ((iand .u64 (ishr .u64 (iand .u64 a 4294967295) (iand .u64 (iand .u64 b 4294967295) 31)) 4294967295), 0, ()) else none)
                else
                  (bif (decide (op = 128)) then
                    some ((iand .u64 (IntKind.wrap .u64 (0 - (iand .u64 a 4294967295))) 4294967295), 0, ())
                  else
                    (bif (decide (op = 144)) then
                      (bif (tt 1 (iu false (iand .u64 b 4294967295))) then some ((iand .u64 (s22 true false false (iand .u64 a 4294967295) (iand .u64 b 4294967295)) 4294967295), 0, ()) else none)
                    else
                      (bif (decide (op = 160)) then
                        some ((iand .u64 (ixor .u64 (iand .u64 a 4294967295) (iand .u64 b 4294967295)) 4294967295), 0, ())
                      else
                        (bif (decide (op = 176)) then
                          some ((iand .u64 (iand .u64 b 4294967295) 4294967295), 0, ())
                        else
                          (bif (decide (op = 192)) then
                            (bif ((decide (0 ≤ (iand .u64 (iand .u64 b 4294967295) 31))) && (tt 1 (decide (0 ≤ (iand .u64 (iand .u64 b 4294967295) 31))))) then some ((iand .u64 (IntKind.wrap .u64 (ishr .i64 (IntKind.wrap .i64 (IntKind.wrap .i32 (iand .u64 a 4294967295))) (iand .u64 (iand .u64 b 4294967295) 31))) 4294967295), 0, ()) else none)
                          else
                            some (0, 1, ()))))))))))))))
theorem t9tt (iu : Bool → Int → Bool) (op a b : Int) : fnT (CxA (K9 iu)) Try.f9 UE [vI op, vB true, vB true, vU a, vU b] = S9tt iu op a b := by kernel_rfl
theorem t10tt (iu : Bool → Int → Bool) (op a b : Int) : fnT (CxA (K9 iu)) Try.f10 UE [vI op, vB true, vB true, vU a, vU b] = S10tt iu op a b := by kernel_rfl
theorem t9ft (iu : Bool → Int → Bool) (op a b : Int) : fnT (CxA (K9 iu)) Try.f9 UE [vI op, vB false, vB true, vU a, vU b] = S9ft iu op a b := by kernel_rfl
theorem t10ft (iu : Bool → Int → Bool) (op a b : Int) : fnT (CxA (K9 iu)) Try.f10 UE [vI op, vB false, vB true, vU a, vU b] = S10ft iu op a b := by kernel_rfl
theorem t9tf (iu : Bool → Int → Bool) (op a b : Int) : fnT (CxA (K9 iu)) Try.f9 UE [vI op, vB true, vB false, vU a, vU b] = S9tf iu op a b := by kernel_rfl
theorem t10tf (iu : Bool → Int → Bool) (op a b : Int) : fnT (CxA (K9 iu)) Try.f10 UE [vI op, vB true, vB false, vU a, vU b] = S10tf iu op a b := by kernel_rfl
theorem t9ff (iu : Bool → Int → Bool) (op a b : Int) : fnT (CxA (K9 iu)) Try.f9 UE [vI op, vB false, vB false, vU a, vU b] = S9ff iu op a b := by kernel_rfl
theorem t10ff (iu : Bool → Int → Bool) (op a b : Int) : fnT (CxA (K9 iu)) Try.f10 UE [vI op, vB false, vB false, vU a, vU b] = S10ff iu op a b := by kernel_rfl
end Go.Proofs
