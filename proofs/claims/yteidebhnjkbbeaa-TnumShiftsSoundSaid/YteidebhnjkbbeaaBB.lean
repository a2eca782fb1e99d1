import Derived.Test.YteidebhnjkbbeaaO
namespace Go.Proofs
open Go.GX
set_option linter.unusedVariables false
structure Sp7 where
  may : Tn.den → Tn.den
  cast : Tn.den → Int → Tn.den
  rcast : Tn.den → Int → Tn.den
  sh : Int → Int → Int → Bool → Int
  shf : Int → Tn.den → Int → Bool → TE.den
  rshf : Int → Tn.den → Int → Bool → TE.den
  nn : Int → Bool
def G_46 (f : Int → Int → Int → Bool → Int) (nn : Int → Bool) : List V → Option (V × Bool) := fun args => match args with | [⟨.int .i64, op⟩, ⟨.int .u64, n⟩, ⟨.int .u64, d⟩, ⟨.bool, w⟩] => some (⟨.int .u64, f op n d w⟩, nn d) | _ => none
def G_sh (f : Int → Tn.den → Int → Bool → TE.den) : List V → Option V := fun args => match args with | [⟨.int .i64, op⟩, ⟨.pair (.int .u64) (.pair (.int .u64) .unit), x⟩, ⟨.int .i64, d⟩, ⟨.bool, w⟩] => some ⟨TE, f op x d w⟩ | _ => none
def D7a (q : Sp7) : Kn := kOf [(46, pSb (G_46 q.sh q.nn))]
noncomputable def K7a (q : Sp7) : Kn := KX Try.Θ Try.F (D7a q) 100 10
def D7 (q : Sp7) : Kn := kOf [(12, pS G_0), (9, pS (G_T q.may)), (26, pS (G_sh q.shf)), (27, pS (G_sh q.rshf)), (28, pS (G_TI (T := Tn) q.cast)), (29, pS (G_TI (T := Tn) q.rcast))]
noncomputable def K7 (q : Sp7) : Kn := KX Try.Θ Try.F (D7 q) 100 10
def S26t (op : Int) (x : Tn.den) (d : Int) : Option TE.den :=
  (bif (decide (d < 0)) then
    some ((0, (0, ())), 1, ())
  else
    (bif (decide (d ≥ 64)) then
      some ((0, (0, ())), 1, ())
    else
      (bif (decide (op = 96)) then
        (bif (tt 1 ((tt 1 (decide (0 ≤ d))) && (tt 2 (decide (0 ≤ d))))) then some (((iand .u64 (ishl .u64 x.1 d) 18446744073709551615), ((iand .u64 (ishl .u64 x.2.1 d) 18446744073709551615), ())), 0, ()) else none)
      else
        (bif (decide (op = 112)) then
          (bif (tt 1 ((tt 2 (decide (0 ≤ d))) && (tt 3 (decide (0 ≤ d))))) then some (((iand .u64 (ishr .u64 (ishr .u64 (ishl .u64 x.1 0) 0) d) 18446744073709551615), ((iand .u64 (ishr .u64 (ishr .u64 (ishl .u64 x.2.1 0) 0) d) 18446744073709551615), ())), 0, ()) else none)
        else
          (bif (decide (op = 192)) then
            (bif (tt 1 ((tt 2 (decide (0 ≤ d))) && (tt 3 (decide (0 ≤ d))))) then some (((iand .u64 (IntKind.wrap .u64 (ishr .i64 (ishr .i64 (IntKind.wrap .i64 (ishl .u64 x.1 0)) 0) d)) 18446744073709551615), ((iand .u64 (IntKind.wrap .u64 (ishr .i64 (ishr .i64 (IntKind.wrap .i64 (ishl .u64 x.2.1 0)) 0) d)) 18446744073709551615), ())), 0, ()) else none)
          else
            some ((0, (0, ())), 1, ()))))))
theorem t26t (op : Int) (x : Tn.den) (d : Int) : fnT (CxA K0) Try.f26 TE [vI op, vT x, vI d, vB true] = S26t op x d := by kernel_rfl
def S27t (q : Sp7) (op : Int) (x : Tn.den) (d : Int) : Option TE.den :=
  (bif (!(decide (op = 96))) then
    (bif (!(decide (op = 112))) then
      (bif (!(decide (op = 192))) then
        some ((0, (0, ())), 1, ())
      else
        (bif (decide (d < 0)) then
          some ((0, (0, ())), 1, ())
        else
          (bif (decide (d > 63)) then
            some ((0, (0, ())), 1, ())
          else
            (bif (tt 1 ((q.nn (IntKind.wrap .u64 d)) && (tt 1 (q.nn (IntKind.wrap .u64 d))))) then some (((q.sh op x.1 (IntKind.wrap .u64 d) true), ((q.sh op x.2.1 (IntKind.wrap .u64 d) true), ())), 0, ()) else none))))
    else
      (bif (decide (d < 0)) then
        some ((0, (0, ())), 1, ())
      else
        (bif (decide (d > 63)) then
          some ((0, (0, ())), 1, ())
        else
          (bif (tt 1 ((q.nn (IntKind.wrap .u64 d)) && (tt 1 (q.nn (IntKind.wrap .u64 d))))) then some (((q.sh op x.1 (IntKind.wrap .u64 d) true), ((q.sh op x.2.1 (IntKind.wrap .u64 d) true), ())), 0, ()) else none))))
  else
    (bif (decide (d < 0)) then
      some ((0, (0, ())), 1, ())
    else
      (bif (decide (d > 63)) then
        some ((0, (0, ())), 1, ())
      else
        (bif (tt 1 ((q.nn (IntKind.wrap .u64 d)) && (tt 1 (q.nn (IntKind.wrap .u64 d))))) then some (((q.sh op x.1 (IntKind.wrap .u64 d) true), ((q.sh op x.2.1 (IntKind.wrap .u64 d) true), ())), 0, ()) else none))))
theorem t27t (q : Sp7) (op : Int) (x : Tn.den) (d : Int) : fnT (CxA (K7a q)) Try.f27 TE [vI op, vT x, vI d, vB true] = S27t q op x d := by kernel_rfl
def S46t (op n d : Int) : Option Int :=
  (bif (decide (op = 96)) then
    (bif (tt 1 (decide (0 ≤ d))) then some (ishl .u64 n d) else none)
  else
    (bif (decide (op = 112)) then
      (bif (tt 1 (decide (0 ≤ d))) then some (ishr .u64 n d) else none)
    else
      (bif (tt 1 (decide (0 ≤ d))) then some (IntKind.wrap .u64 (ishr .i64 (IntKind.wrap .i64 n) d)) else none)))
theorem t46t (op n d : Int) : fnT (CxA K0) Try.f46 U64 [vI op, vU n, vU d, vB true] = S46t op n d := by kernel_rfl
def S26f (op : Int) (x : Tn.den) (d : Int) : Option TE.den :=
  (bif (decide (d < 0)) then
    some ((0, (0, ())), 1, ())
  else
    (bif (decide (d ≥ 32)) then
      some ((0, (0, ())), 1, ())
    else
      (bif (decide (op = 96)) then
        (bif (tt 1 ((tt 1 (decide (0 ≤ d))) && (tt 2 (decide (0 ≤ d))))) then some (((iand .u64 (ishl .u64 x.1 d) 4294967295), ((iand .u64 (ishl .u64 x.2.1 d) 4294967295), ())), 0, ()) else none)
      else
        (bif (decide (op = 112)) then
          (bif (tt 1 ((tt 2 (decide (0 ≤ d))) && (tt 3 (decide (0 ≤ d))))) then some (((iand .u64 (ishr .u64 (ishr .u64 (ishl .u64 x.1 32) 32) d) 4294967295), ((iand .u64 (ishr .u64 (ishr .u64 (ishl .u64 x.2.1 32) 32) d) 4294967295), ())), 0, ()) else none)
        else
          (bif (decide (op = 192)) then
            (bif (tt 1 ((tt 2 (decide (0 ≤ d))) && (tt 3 (decide (0 ≤ d))))) then some (((iand .u64 (IntKind.wrap .u64 (ishr .i64 (ishr .i64 (IntKind.wrap .i64 (ishl .u64 x.1 32)) 32) d)) 4294967295), ((iand .u64 (IntKind.wrap .u64 (ishr .i64 (ishr .i64 (IntKind.wrap .i64 (ishl .u64 x.2.1 32)) 32) d)) 4294967295), ())), 0, ()) else none)
          else
            some ((0, (0, ())), 1, ()))))))
theorem t26f (op : Int) (x : Tn.den) (d : Int) : fnT (CxA K0) Try.f26 TE [vI op, vT x, vI d, vB false] = S26f op x d := by kernel_rfl
def S27f (q : Sp7) (op : Int) (x : Tn.den) (d : Int) : Option TE.den :=
  (bif (!(decide (op = 96))) then
    (bif (!(decide (op = 112))) then
      (bif (!(decide (op = 192))) then
        some ((0, (0, ())), 1, ())
      else
        (bif (decide (d < 0)) then
          some ((0, (0, ())), 1, ())
        else
          (bif (decide (d > 31)) then
            some ((0, (0, ())), 1, ())
          else
            (bif (tt 1 ((q.nn (IntKind.wrap .u64 d)) && (tt 1 (q.nn (IntKind.wrap .u64 d))))) then some (((q.sh op x.1 (IntKind.wrap .u64 d) false), ((q.sh op x.2.1 (IntKind.wrap .u64 d) false), ())), 0, ()) else none))))
    else
      (bif (decide (d < 0)) then
        some ((0, (0, ())), 1, ())
      else
        (bif (decide (d > 31)) then
          some ((0, (0, ())), 1, ())
        else
          (bif (tt 1 ((q.nn (IntKind.wrap .u64 d)) && (tt 1 (q.nn (IntKind.wrap .u64 d))))) then some (((q.sh op x.1 (IntKind.wrap .u64 d) false), ((q.sh op x.2.1 (IntKind.wrap .u64 d) false), ())), 0, ()) else none))))
  else
    (bif (decide (d < 0)) then
      some ((0, (0, ())), 1, ())
    else
      (bif (decide (d > 31)) then
        some ((0, (0, ())), 1, ())
      else
        (bif (tt 1 ((q.nn (IntKind.wrap .u64 d)) && (tt 1 (q.nn (IntKind.wrap .u64 d))))) then some (((q.sh op x.1 (IntKind.wrap .u64 d) false), ((q.sh op x.2.1 (IntKind.wrap .u64 d) false), ())), 0, ()) else none))))
theorem t27f (q : Sp7) (op : Int) (x : Tn.den) (d : Int) : fnT (CxA (K7a q)) Try.f27 TE [vI op, vT x, vI d, vB false] = S27f q op x d := by kernel_rfl
def S46f (op n d : Int) : Option Int :=
  (bif (decide (op = 96)) then
    (bif (tt 1 (decide (0 ≤ d))) then some (iand .u64 (ishl .u64 (iand .u64 n 4294967295) d) 4294967295) else none)
  else
    (bif (decide (op = 112)) then
      (bif (tt 1 (decide (0 ≤ d))) then some (iand .u64 (ishr .u64 (iand .u64 n 4294967295) d) 4294967295) else none)
    else
      (bif (tt 1 (decide (0 ≤ d))) then some (iand .u64 (IntKind.wrap .u64 (ishr .i64 (IntKind.wrap .i64 (IntKind.wrap .i32 (iand .u64 n 4294967295))) d)) 4294967295) else none)))
theorem t46f (op n d : Int) : fnT (CxA K0) Try.f46 U64 [vI op, vU n, vU d, vB false] = S46f op n d := by kernel_rfl
def SL7 (q : Sp7) (op : Int) (x : Tn.den) (n : List Int) : Option Bool :=
  (bif ((decide ((q.shf op (q.may x) (n.getD 0 0) true).1.1 = (q.rshf op (q.may x) (n.getD 0 0) true).1.1)) && (tt 1 (decide ((q.shf op (q.may x) (n.getD 0 0) true).1.2.1 = (q.rshf op (q.may x) (n.getD 0 0) true).1.2.1)))) then
    (bif (decide ((q.shf op (q.may x) (n.getD 0 0) true).2.1 = (q.rshf op (q.may x) (n.getD 0 0) true).2.1)) then
      (bif ((decide ((q.shf op (q.may x) (n.getD 0 0) false).1.1 = (q.rshf op (q.may x) (n.getD 0 0) false).1.1)) && (tt 1 (decide ((q.shf op (q.may x) (n.getD 0 0) false).1.2.1 = (q.rshf op (q.may x) (n.getD 0 0) false).1.2.1)))) then
        (bif (decide ((q.shf op (q.may x) (n.getD 0 0) false).2.1 = (q.rshf op (q.may x) (n.getD 0 0) false).2.1)) then
          (bif ((decide ((q.cast (q.may x) (n.getD 1 0)).1 = (q.rcast (q.may x) (n.getD 1 0)).1)) && (tt 1 (decide ((q.cast (q.may x) (n.getD 1 0)).2.1 = (q.rcast (q.may x) (n.getD 1 0)).2.1)))) then some true else some false)
        else
          some false)
      else
        some false)
    else
      some false)
  else
    some false)
theorem tL7 (q : Sp7) (op : Int) (x : Tn.den) (n : List Int) : fnT (CxA (K7 q)) Try.f7 .bool [vI op, vT x, ⟨(.arr 2 (.int .i64)), n⟩] = SL7 q op x n := by kernel_rfl
end Go.Proofs
