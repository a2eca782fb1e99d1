import Derived.Test.YteidebhnjkbbeaaV
import Derived.Test.YteidebhnjkbbeaaW
namespace Go.Proofs
open Go.GX
set_option linter.unusedVariables false
abbrev UE : Ty := .tup (.int .u64) (.tup (.int .i64) .tnil)
structure Sp8 where
  may : Tn.den → Tn.den
  one : Tn.den → Int → Int
  has : Tn.den → Int → Bool
  cast : Tn.den → Int → Tn.den
  shf : Int → Tn.den → Int → Bool → TE.den
  abin : Int → Bool → Int → Int → UE.den
  ao : Int → Int → Int → Bool
def G_14 (f : Int → Bool → Int → Int → UE.den) (ao : Int → Int → Int → Bool) : List V → Option (V × Bool) := fun args => match args with
  | [⟨.int .i64, op⟩, ⟨.bool, w⟩, ⟨.bool, false⟩, ⟨.int .u64, a⟩, ⟨.int .u64, b⟩] => some (⟨UE, f op w a b⟩, ao op a b) | _ => none
def D8 (q : Sp8) : Kn := kOf [(12, pS G_0), (9, pS (G_T q.may)), (13, pS (G_TU (T := .int .u64) q.one)), (15, pS (G_TU (T := .bool) q.has)), (26, pS (G_sh q.shf)), (28, pS (G_TI (T := Tn) q.cast)), (14, pSb (G_14 q.abin q.ao))]
noncomputable def K8 (q : Sp8) : Kn := KX Try.Θ Try.F (D8 q) 100 10
def S14_96t (a b : Int) : Option UE.den :=
  (bif (tt 1 (decide (0 ≤ (iand .u64 b 63)))) then some ((ishl .u64 a (iand .u64 b 63)), 0, ()) else none)
theorem t14_96t (a b : Int) : fnT (CxA K0) Try.f14 UE [vI 96, vB true, vB false, vU a, vU b] = S14_96t a b := by kernel_rfl
def S14_96f (a b : Int) : Option UE.den :=
  (bif (tt 1 (decide (0 ≤ (iand .u64 (iand .u64 b 4294967295) 31)))) then some ((iand .u64 (ishl .u64 (iand .u64 a 4294967295) (iand .u64 (iand .u64 b 4294967295) 31)) 4294967295), 0, ()) else none)
theorem t14_96f (a b : Int) : fnT (CxA K0) Try.f14 UE [vI 96, vB false, vB false, vU a, vU b] = S14_96f a b := by kernel_rfl
def S14_112t (a b : Int) : Option UE.den :=
  (bif (tt 1 (decide (0 ≤ (iand .u64 b 63)))) then some ((ishr .u64 a (iand .u64 b 63)), 0, ()) else none)
theorem t14_112t (a b : Int) : fnT (CxA K0) Try.f14 UE [vI 112, vB true, vB false, vU a, vU b] = S14_112t a b := by kernel_rfl
def S14_112f (a b : Int) : Option UE.den :=
  (bif (tt 1 (decide (0 ≤ (iand .u64 (iand .u64 b 4294967295) 31)))) then some ((iand .u64 (ishr .u64 (iand .u64 a 4294967295) (iand .u64 (iand .u64 b 4294967295) 31)) 4294967295), 0, ()) else none)
theorem t14_112f (a b : Int) : fnT (CxA K0) Try.f14 UE [vI 112, vB false, vB false, vU a, vU b] = S14_112f a b := by kernel_rfl
def S14_192t (a b : Int) : Option UE.den :=
  (bif (tt 1 (decide (0 ≤ (iand .u64 b 63)))) then some ((IntKind.wrap .u64 (ishr .i64 (IntKind.wrap .i64 a) (iand .u64 b 63))), 0, ()) else none)
theorem t14_192t (a b : Int) : fnT (CxA K0) Try.f14 UE [vI 192, vB true, vB false, vU a, vU b] = S14_192t a b := by kernel_rfl
def S14_192f (a b : Int) : Option UE.den :=
  (bif ((decide (0 ≤ (iand .u64 (iand .u64 b 4294967295) 31))) && (tt 1 (decide (0 ≤ (iand .u64 (iand .u64 b 4294967295) 31))))) then some ((iand .u64 (IntKind.wrap .u64 (ishr .i64 (IntKind.wrap .i64 (IntKind.wrap .i32 (iand .u64 a 4294967295))) (iand .u64 (iand .u64 b 4294967295) 31))) 4294967295), 0, ()) else none)
theorem t14_192f (a b : Int) : fnT (CxA K0) Try.f14 UE [vI 192, vB false, vB false, vU a, vU b] = S14_192f a b := by kernel_rfl
def SL8 (q : Sp8) (op : Int) (x : Tn.den) (n : List Int) : Option Bool :=
  (bif (decide ((q.shf op (q.may x) (IntKind.wrap .i64 (Int.tmod (n.getD 0 0) 70)) true).2.1 = 0)) then
    (bif (!(decide ((q.abin op true (q.one (q.may x) (n.getD 1 0)) (IntKind.wrap .u64 (IntKind.wrap .i64 (Int.tmod (n.getD 0 0) 70)))).2.1 = 0))) then
      (bif (tt 1 (q.ao op (q.one (q.may x) (n.getD 1 0)) (IntKind.wrap .u64 (IntKind.wrap .i64 (Int.tmod (n.getD 0 0) 70))))) then some false else none)
    else
      (bif (!(q.has (q.shf op (q.may x) (IntKind.wrap .i64 (Int.tmod (n.getD 0 0) 70)) true).1 (q.abin op true (q.one (q.may x) (n.getD 1 0)) (IntKind.wrap .u64 (IntKind.wrap .i64 (Int.tmod (n.getD 0 0) 70)))).1)) then
        (bif (tt 1 (q.ao op (q.one (q.may x) (n.getD 1 0)) (IntKind.wrap .u64 (IntKind.wrap .i64 (Int.tmod (n.getD 0 0) 70))))) then some false else none)
      else
        (bif (decide ((q.shf op (q.may x) (IntKind.wrap .i64 (Int.tmod (n.getD 0 0) 70)) false).2.1 = 0)) then
          (bif (!(decide ((q.abin op false (q.one (q.may x) (n.getD 1 0)) (IntKind.wrap .u64 (IntKind.wrap .i64 (Int.tmod (n.getD 0 0) 70)))).2.1 = 0))) then
            (bif ((q.ao op (q.one (q.may x) (n.getD 1 0)) (IntKind.wrap .u64 (IntKind.wrap .i64 (Int.tmod (n.getD 0 0) 70)))) && (tt 1 (q.ao op (q.one (q.may x) (n.getD 1 0)) (IntKind.wrap .u64 (IntKind.wrap .i64 (Int.tmod (n.getD 0 0) 70)))))) then some false else none)
          else
            (bif (!(q.has (q.shf op (q.may x) (IntKind.wrap .i64 (Int.tmod (n.getD 0 0) 70)) false).1 (q.abin op false (q.one (q.may x) (n.getD 1 0)) (IntKind.wrap .u64 (IntKind.wrap .i64 (Int.tmod (n.getD 0 0) 70)))).1)) then
              (bif ((q.ao op (q.one (q.may x) (n.getD 1 0)) (IntKind.wrap .u64 (IntKind.wrap .i64 (Int.tmod (n.getD 0 0) 70)))) && (tt 1 (q.ao op (q.one (q.may x) (n.getD 1 0)) (IntKind.wrap .u64 (IntKind.wrap .i64 (Int.tmod (n.getD 0 0) 70)))))) then some false else none)
            else
              (bif (q.has (q.cast (q.may x) 8) (iand .u64 (q.one (q.may x) (n.getD 1 0)) 255)) then
                (bif (q.has (q.cast (q.may x) 32) (iand .u64 (q.one (q.may x) (n.getD 1 0)) 4294967295)) then
                  (bif ((q.ao op (q.one (q.may x) (n.getD 1 0)) (IntKind.wrap .u64 (IntKind.wrap .i64 (Int.tmod (n.getD 0 0) 70)))) && (tt 1 (q.ao op (q.one (q.may x) (n.getD 1 0)) (IntKind.wrap .u64 (IntKind.wrap .i64 (Int.tmod (n.getD 0 0) 70)))))) then some true else none)
                else
                  (bif ((q.ao op (q.one (q.may x) (n.getD 1 0)) (IntKind.wrap .u64 (IntKind.wrap .i64 (Int.tmod (n.getD 0 0) 70)))) && (tt 1 (q.ao op (q.one (q.may x) (n.getD 1 0)) (IntKind.wrap .u64 (IntKind.wrap .i64 (Int.tmod (n.getD 0 0) 70)))))) then some false else none))
              else
                (bif ((q.ao op (q.one (q.may x) (n.getD 1 0)) (IntKind.wrap .u64 (IntKind.wrap .i64 (Int.tmod (n.getD 0 0) 70)))) && (tt 1 (q.ao op (q.one (q.may x) (n.getD 1 0)) (IntKind.wrap .u64 (IntKind.wrap .i64 (Int.tmod (n.getD 0 0) 70)))))) then some false else none))))
        else
          (bif (q.has (q.cast (q.may x) 8) (iand .u64 (q.one (q.may x) (n.getD 1 0)) 255)) then
            (bif (q.has (q.cast (q.may x) 32) (iand .u64 (q.one (q.may x) (n.getD 1 0)) 4294967295)) then
              (bif (tt 1 (q.ao op (q.one (q.may x) (n.getD 1 0)) (IntKind.wrap .u64 (IntKind.wrap .i64 (Int.tmod (n.getD 0 0) 70))))) then some true else none)
            else
              (bif (tt 1 (q.ao op (q.one (q.may x) (n.getD 1 0)) (IntKind.wrap .u64 (IntKind.wrap .i64 (Int.tmod (n.getD 0 0) 70))))) then some false else none))
          else
            (bif (tt 1 (q.ao op (q.one (q.may x) (n.getD 1 0)) (IntKind.wrap .u64 (IntKind.wrap .i64 (Int.tmod (n.getD 0 0) 70))))) then some false else none)))))
  else
    (bif (decide ((q.shf op (q.may x) (IntKind.wrap .i64 (Int.tmod (n.getD 0 0) 70)) false).2.1 = 0)) then
      (bif (!(decide ((q.abin op false (q.one (q.may x) (n.getD 1 0)) (IntKind.wrap .u64 (IntKind.wrap .i64 (Int.tmod (n.getD 0 0) 70)))).2.1 = 0))) then
        (bif (tt 1 (q.ao op (q.one (q.may x) (n.getD 1 0)) (IntKind.wrap .u64 (IntKind.wrap .i64 (Int.tmod (n.getD 0 0) 70))))) then some false else none)
      else
        (bif (!(q.has (q.shf op (q.may x) (IntKind.wrap .i64 (Int.tmod (n.getD 0 0) 70)) false).1 (q.abin op false (q.one (q.may x) (n.getD 1 0)) (IntKind.wrap .u64 (IntKind.wrap .i64 (Int.tmod (n.getD 0 0) 70)))).1)) then
          (bif (tt 1 (q.ao op (q.one (q.may x) (n.getD 1 0)) (IntKind.wrap .u64 (IntKind.wrap .i64 (Int.tmod (n.getD 0 0) 70))))) then some false else none)
        else
          (bif (q.has (q.cast (q.may x) 8) (iand .u64 (q.one (q.may x) (n.getD 1 0)) 255)) then
            (bif (q.has (q.cast (q.may x) 32) (iand .u64 (q.one (q.may x) (n.getD 1 0)) 4294967295)) then
              (bif (tt 1 (q.ao op (q.one (q.may x) (n.getD 1 0)) (IntKind.wrap .u64 (IntKind.wrap .i64 (Int.tmod (n.getD 0 0) 70))))) then some true else none)
            else
              (bif (tt 1 (q.ao op (q.one (q.may x) (n.getD 1 0)) (IntKind.wrap .u64 (IntKind.wrap .i64 (Int.tmod (n.getD 0 0) 70))))) then some false else none))
          else
            (bif (tt 1 (q.ao op (q.one (q.may x) (n.getD 1 0)) (IntKind.wrap .u64 (IntKind.wrap .i64 (Int.tmod (n.getD 0 0) 70))))) then some false else none))))
    else
      (bif (q.has (q.cast (q.may x) 8) (iand .u64 (q.one (q.may x) (n.getD 1 0)) 255)) then
        (bif (q.has (q.cast (q.may x) 32) (iand .u64 (q.one (q.may x) (n.getD 1 0)) 4294967295)) then some true else some false)
      else
        some false)))
theorem tL8 (q : Sp8) (op : Int) (x : Tn.den) (n : List Int) : fnT (CxA (K8 q)) Try.f8 .bool [vI op, vT x, ⟨(.arr 2 (.int .u64)), n⟩] = SL8 q op x n := by kernel_rfl
end Go.Proofs
