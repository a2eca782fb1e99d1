import Derived.Test.YtaajacejgkcehaaMC
namespace Go.Proofs
open Go.GX
set_option linter.unusedVariables false
set_option linter.unusedSimpArgs false
def half (w : Bool) : Int := bif w then 9223372036854775808 else 2147483648
def skp (sg w : Bool) (a b : Sc) : Bool :=
  (!w && (decide (a.2.2.1 ≥ 4294967296) || decide (b.2.2.1 ≥ 4294967296))) || (sg && (decide (a.2.2.1 ≥ half w) || decide (b.2.2.1 ≥ half w)))
def rfO (sg w : Bool) (a b : Sc) (r : R3) : R3 := bif skp sg w a b then (a, b, true, ()) else r
theorem rfO_t (sg : Bool) (a b : Sc) (r : R3) : rfO sg true a b r = bif (sg && (decide (a.2.2.1 ≥ 9223372036854775808) || decide (b.2.2.1 ≥ 9223372036854775808))) then (a, b, true, ()) else r := rfl
theorem rfO_f (sg : Bool) (a b : Sc) (r : R3) : rfO sg false a b r = bif ((decide (a.2.2.1 ≥ 4294967296) || decide (b.2.2.1 ≥ 4294967296)) || (sg && (decide (a.2.2.1 ≥ 2147483648) || decide (b.2.2.1 ≥ 2147483648)))) then (a, b, true, ()) else r := rfl
theorem hor {x y : Int} (hx : InR x) (hy : InR y) : decide (ishr .u64 (ior .u64 x y) 32 = 0) = !(decide (x ≥ 4294967296) || decide (y ≥ 4294967296)) := by
  rw [shr32, ior_n]
  have h1 := u_of hx
  have h2 := u_of hy
  have l1 : u x ≤ u x ||| u y := Nat.left_le_or
  have l2 : u y ≤ u x ||| u y := Nat.right_le_or
  by_cases hlt : u x < 2 ^ 32 ∧ u y < 2 ^ 32
  · have := Nat.or_lt_two_pow hlt.1 hlt.2
    have e1 : decide (x ≥ 4294967296) = false := decide_eq_false (by omega)
    have e2 : decide (y ≥ 4294967296) = false := decide_eq_false (by omega)
    rw [e1, e2]
    exact decide_eq_true (by omega)
  · have : decide ((((u x ||| u y : Nat) : Int)) / 4294967296 = 0) = false := decide_eq_false (by omega)
    rw [this]
    by_cases hx2 : x ≥ 4294967296
    · rw [decide_eq_true hx2]; rfl
    · rw [decide_eq_true (show y ≥ 4294967296 by omega)]; simp
theorem swp_abv (a b : Sc) (s : Bool) : swp (abv b a s) = bif s then (bif decide (a.2.1 = 18446744073709551615) then zz else bif decide (b.2.2.1 = 0) then zz else knw (loB b a 1) (hiA b a 1) true)
    else knw (loB b a 0) (hiA b a 0) true := by
  unfold abv
  cases s
  · exact knw_swp (hiA b a 0) (loB b a 0) true
  · generalize decide (a.2.1 = 18446744073709551615) = p
    generalize decide (b.2.2.1 = 0) = q
    cases p <;> cases q <;> first | rfl | exact knw_swp (hiA b a 1) (loB b a 1) true
theorem F23_b (a b : Sc) : (F23 (a.1, b.1, ())).2.1 = metB a.1 b.1 := by rw [(F23_eq a.1 b.1).1]; unfold metR; split <;> simp_all
theorem F26_b (a b : Sc) : (F26 (a.1, b.1, ())).2.1 = metB a.1 b.1 := by rw [(F26_eq a.1 b.1).1]; unfold metR; split <;> simp_all
theorem mR1 {a b : Sc} (h : metB a.1 b.1 = true) : metR a.1 b.1 = (metF a.1 b.1, true, ()) := if_pos h
theorem mR0 {a b : Sc} (h : metB a.1 b.1 = false) : metR a.1 b.1 = ((0, 0, ()), false, ()) := if_neg (by simp [h])

theorem E8_16_eq (w : Bool) (a b : Sc) (ha : InR a.2.2.1) (hb : InR b.2.2.1) : E8_16 (w, a, b, ()) = some (rfO false w a b (mtt a b)) := by
  show S8_16 (fun x => G12 x && decide (F12 x = 80)) (fun x => G21 x && decide (F21 x = 16)) F22 G22 F23 G23 F24 G24 w a b = _
  unfold S8_16
  have h1 : (G12 (16, ()) && decide (F12 (16, ()) = 80)) = true := by rw [(F12_eq 16).1, (F12_eq 16).2]; rfl
  have h2 : (G21 (16, ()) && decide (F21 (16, ()) = 16)) = true := by rw [(F21_eq 16).1, (F21_eq 16).2]; rfl
  simp only [h1, h2, hor ha hb, (F22_eq _).1, (F22_eq _).2, (F23_eq _ _).1, (F23_eq _ _).2, (F24_eq _ _ _).1, (F24_eq _ _ _).2]
  unfold mtt
  cases hm : metB a.1 b.1
  all_goals (first | rw [mR1 hm] | rw [mR0 hm])
  all_goals (cases w <;> (first | rw [rfO_t] | rw [rfO_f]))
  all_goals (by_cases hp : a.2.2.1 ≥ 4294967296 <;> by_cases hq : b.2.2.1 ≥ 4294967296 <;> (first | rw [decide_eq_true hp] | rw [decide_eq_false hp]) <;> (first | rw [decide_eq_true hq] | rw [decide_eq_false hq]))
  all_goals rfl
theorem E8_32_eq (w : Bool) (a b : Sc) (ha : InR a.2.2.1) (hb : InR b.2.2.1) : E8_32 (w, a, b, ()) = some (rfO false w a b (abv a b true)) := by
  show S8_32 (fun x => G12 x && decide (F12 x = 176)) (fun x => G21 x && decide (F21 x = 32)) F22 G22 F24 G24 w a b = _
  unfold S8_32
  have h1 : (G12 (32, ()) && decide (F12 (32, ()) = 176)) = true := by rw [(F12_eq 32).1, (F12_eq 32).2]; rfl
  have h2 : (G21 (32, ()) && decide (F21 (32, ()) = 32)) = true := by rw [(F21_eq 32).1, (F21_eq 32).2]; rfl
  simp only [h1, h2, hor ha hb, (F22_eq _).1, (F22_eq _).2, (F24_eq _ _ _).1, (F24_eq _ _ _).2]
  unfold abv
  cases w <;> (first | rw [rfO_t] | rw [rfO_f])
  all_goals
    generalize decide (a.2.2.1 ≥ 4294967296) = p
    generalize decide (b.2.2.1 ≥ 4294967296) = q
    generalize decide (b.2.1 = 18446744073709551615) = r
    generalize decide (a.2.2.1 = 0) = s
    cases p <;> cases q <;> cases r <;> cases s <;> rfl
theorem E8_48_eq (w : Bool) (a b : Sc) (ha : InR a.2.2.1) (hb : InR b.2.2.1) : E8_48 (w, a, b, ()) = some (rfO false w a b (abv a b false)) := by
  show S8_48 (fun x => G12 x && decide (F12 x = 160)) (fun x => G21 x && decide (F21 x = 48)) F22 G22 F24 G24 w a b = _
  unfold S8_48
  have h1 : (G12 (48, ()) && decide (F12 (48, ()) = 160)) = true := by rw [(F12_eq 48).1, (F12_eq 48).2]; rfl
  have h2 : (G21 (48, ()) && decide (F21 (48, ()) = 48)) = true := by rw [(F21_eq 48).1, (F21_eq 48).2]; rfl
  simp only [h1, h2, hor ha hb, (F22_eq _).1, (F22_eq _).2, (F24_eq _ _ _).1, (F24_eq _ _ _).2]
  unfold abv
  cases w <;> (first | rw [rfO_t] | rw [rfO_f])
  all_goals
    generalize decide (a.2.2.1 ≥ 4294967296) = p
    generalize decide (b.2.2.1 ≥ 4294967296) = q
    cases p <;> cases q <;> rfl
theorem E8_64_eq (w : Bool) (a b : Sc) (ha : InR a.2.2.1) (hb : InR b.2.2.1) : E8_64 (w, a, b, ()) = some (rfO false w a b (shr a b)) := by
  show S8_64 (fun x => G12 x && decide (F12 x = 68)) (fun x => G21 x && decide (F21 x = 64)) F22 G22 F24 G24 w a b = _
  unfold S8_64
  have h1 : (G12 (64, ()) && decide (F12 (64, ()) = 68)) = true := by rw [(F12_eq 64).1, (F12_eq 64).2]; rfl
  have h2 : (G21 (64, ()) && decide (F21 (64, ()) = 64)) = true := by rw [(F21_eq 64).1, (F21_eq 64).2]; rfl
  simp only [h1, h2, hor ha hb, (F22_eq _).1, (F22_eq _).2, (F24_eq _ _ _).1, (F24_eq _ _ _).2]
  unfold shr pow2
  cases w <;> (first | rw [rfO_t] | rw [rfO_f])
  all_goals
    generalize decide (a.2.2.1 ≥ 4294967296) = p
    generalize decide (b.2.2.1 ≥ 4294967296) = q
    generalize decide (iand .u64 (ior .u64 a.1.1 a.1.2.1) (ior .u64 b.1.1 b.1.2.1) = 0) = r
    generalize decide ((onl b).1 = 0) = s
    generalize decide (iand .u64 (onl b).1 (IntKind.wrap .u64 ((onl b).1 - 1)) = 0) = t
    generalize (onl b).2.1 = u
    cases p <;> cases q <;> cases r <;> cases s <;> cases t <;> cases u <;> rfl
theorem E8_68_eq (w : Bool) (a b : Sc) (ha : InR a.2.2.1) (hb : InR b.2.2.1) : E8_68 (w, a, b, ()) = some (rfO false w a b (nsh a b)) := by
  show S8_68 (fun x => G12 x && decide (F12 x = 64)) (fun x => G21 x && decide (F21 x = 68)) F22 G22 F24 G24 w a b = _
  unfold S8_68
  have h1 : (G12 (68, ()) && decide (F12 (68, ()) = 64)) = true := by rw [(F12_eq 68).1, (F12_eq 68).2]; rfl
  have h2 : (G21 (68, ()) && decide (F21 (68, ()) = 68)) = true := by rw [(F21_eq 68).1, (F21_eq 68).2]; rfl
  simp only [h1, h2, hor ha hb, (F22_eq _).1, (F22_eq _).2, (F24_eq _ _ _).1, (F24_eq _ _ _).2]
  unfold nsh
  cases w <;> (first | rw [rfO_t] | rw [rfO_f])
  all_goals
    generalize decide (a.2.2.1 ≥ 4294967296) = p
    generalize decide (b.2.2.1 ≥ 4294967296) = q
    generalize decide (iand .u64 a.1.1 b.1.1 = 0) = r
    generalize (onl b).2.1 = s
    cases p <;> cases q <;> cases r <;> cases s <;> rfl
theorem E8_80_eq (w : Bool) (a b : Sc) (ha : InR a.2.2.1) (hb : InR b.2.2.1) : E8_80 (w, a, b, ()) = some (rfO false w a b (dif a b)) := by
  show S8_80 (fun x => G12 x && decide (F12 x = 16)) (fun x => G21 x && decide (F21 x = 80)) F22 G22 F25 G25 w a b = _
  unfold S8_80
  have h1 : (G12 (80, ()) && decide (F12 (80, ()) = 16)) = true := by rw [(F12_eq 80).1, (F12_eq 80).2]; rfl
  have h2 : (G21 (80, ()) && decide (F21 (80, ()) = 80)) = true := by rw [(F21_eq 80).1, (F21_eq 80).2]; rfl
  simp only [h1, h2, hor ha hb, (F22_eq _).1, (F22_eq _).2, (F25_eq _ _).1, (F25_eq _ _).2]
  cases w <;> (first | rw [rfO_t] | rw [rfO_f])
  all_goals
    generalize decide (a.2.2.1 ≥ 4294967296) = p
    generalize decide (b.2.2.1 ≥ 4294967296) = q
    cases p <;> cases q <;> rfl
theorem E8_96_eq (w : Bool) (a b : Sc) (ha : InR a.2.2.1) (hb : InR b.2.2.1) : E8_96 (w, a, b, ()) = some (rfO true w a b (abv a b true)) := by
  show S8_96 (fun x => G12 x && decide (F12 x = 208)) (fun x => G21 x && decide (F21 x = 32)) F22 G22 F24 G24 w a b = _
  unfold S8_96
  have h1 : (G12 (96, ()) && decide (F12 (96, ()) = 208)) = true := by rw [(F12_eq 96).1, (F12_eq 96).2]; rfl
  have h2 : (G21 (96, ()) && decide (F21 (96, ()) = 32)) = true := by rw [(F21_eq 96).1, (F21_eq 96).2]; rfl
  simp only [h1, h2, hor ha hb, (F22_eq _).1, (F22_eq _).2, (F24_eq _ _ _).1, (F24_eq _ _ _).2]
  unfold abv
  cases w
  · rw [rfO_f]
    generalize decide (a.2.2.1 ≥ 4294967296) = p
    generalize decide (b.2.2.1 ≥ 4294967296) = q
    generalize decide (a.2.2.1 ≥ 2147483648) = r
    generalize decide (b.2.2.1 ≥ 2147483648) = s
    generalize decide (a.2.2.1 ≥ 9223372036854775808) = t
    generalize decide (b.2.2.1 ≥ 9223372036854775808) = u
    generalize decide (b.2.1 = 18446744073709551615) = v
    generalize decide (a.2.2.1 = 0) = x
    cases p <;> cases q <;> cases r <;> cases s <;> cases t <;> cases u <;> cases v <;> cases x <;> rfl
  · rw [rfO_t]
    generalize decide (a.2.2.1 ≥ 4294967296) = p
    generalize decide (b.2.2.1 ≥ 4294967296) = q
    generalize decide (a.2.2.1 ≥ 2147483648) = r
    generalize decide (b.2.2.1 ≥ 2147483648) = s
    generalize decide (a.2.2.1 ≥ 9223372036854775808) = t
    generalize decide (b.2.2.1 ≥ 9223372036854775808) = u
    generalize decide (b.2.1 = 18446744073709551615) = v
    generalize decide (a.2.2.1 = 0) = x
    cases p <;> cases q <;> cases r <;> cases s <;> cases t <;> cases u <;> cases v <;> cases x <;> rfl
theorem E8_112_eq (w : Bool) (a b : Sc) (ha : InR a.2.2.1) (hb : InR b.2.2.1) : E8_112 (w, a, b, ()) = some (rfO true w a b (abv a b false)) := by
  show S8_112 (fun x => G12 x && decide (F12 x = 192)) (fun x => G21 x && decide (F21 x = 48)) F22 G22 F24 G24 w a b = _
  unfold S8_112
  have h1 : (G12 (112, ()) && decide (F12 (112, ()) = 192)) = true := by rw [(F12_eq 112).1, (F12_eq 112).2]; rfl
  have h2 : (G21 (112, ()) && decide (F21 (112, ()) = 48)) = true := by rw [(F21_eq 112).1, (F21_eq 112).2]; rfl
  simp only [h1, h2, hor ha hb, (F22_eq _).1, (F22_eq _).2, (F24_eq _ _ _).1, (F24_eq _ _ _).2]
  unfold abv
  cases w
  · rw [rfO_f]
    generalize decide (a.2.2.1 ≥ 4294967296) = p
    generalize decide (b.2.2.1 ≥ 4294967296) = q
    generalize decide (a.2.2.1 ≥ 2147483648) = r
    generalize decide (b.2.2.1 ≥ 2147483648) = s
    generalize decide (a.2.2.1 ≥ 9223372036854775808) = t
    generalize decide (b.2.2.1 ≥ 9223372036854775808) = u
    cases p <;> cases q <;> cases r <;> cases s <;> cases t <;> cases u <;> rfl
  · rw [rfO_t]
    generalize decide (a.2.2.1 ≥ 4294967296) = p
    generalize decide (b.2.2.1 ≥ 4294967296) = q
    generalize decide (a.2.2.1 ≥ 2147483648) = r
    generalize decide (b.2.2.1 ≥ 2147483648) = s
    generalize decide (a.2.2.1 ≥ 9223372036854775808) = t
    generalize decide (b.2.2.1 ≥ 9223372036854775808) = u
    cases p <;> cases q <;> cases r <;> cases s <;> cases t <;> cases u <;> rfl
theorem E8_160_eq (w : Bool) (a b : Sc) (ha : InR a.2.2.1) (hb : InR b.2.2.1) : E8_160 (w, a, b, ()) = some (rfO false w a b (swp (abv b a true))) := by
  show S8_160 (fun x => G12 x && decide (F12 x = 48)) (fun x => G21 x && decide (F21 x = 160)) F22 G22 F24 G24 w a b = _
  unfold S8_160
  have h1 : (G12 (160, ()) && decide (F12 (160, ()) = 48)) = true := by rw [(F12_eq 160).1, (F12_eq 160).2]; rfl
  have h2 : (G21 (160, ()) && decide (F21 (160, ()) = 160)) = true := by rw [(F21_eq 160).1, (F21_eq 160).2]; rfl
  simp only [h1, h2, hor ha hb, (F22_eq _).1, (F22_eq _).2, (F24_eq _ _ _).1, (F24_eq _ _ _).2]
  rw [swp_abv]
  cases w <;> (first | rw [rfO_t] | rw [rfO_f])
  all_goals
    generalize decide (a.2.2.1 ≥ 4294967296) = p
    generalize decide (b.2.2.1 ≥ 4294967296) = q
    generalize decide (a.2.1 = 18446744073709551615) = r
    generalize decide (b.2.2.1 = 0) = s
    cases p <;> cases q <;> cases r <;> cases s <;> rfl
theorem E8_176_eq (w : Bool) (a b : Sc) (ha : InR a.2.2.1) (hb : InR b.2.2.1) : E8_176 (w, a, b, ()) = some (rfO false w a b (swp (abv b a false))) := by
  show S8_176 (fun x => G12 x && decide (F12 x = 32)) (fun x => G21 x && decide (F21 x = 176)) F22 G22 F24 G24 w a b = _
  unfold S8_176
  have h1 : (G12 (176, ()) && decide (F12 (176, ()) = 32)) = true := by rw [(F12_eq 176).1, (F12_eq 176).2]; rfl
  have h2 : (G21 (176, ()) && decide (F21 (176, ()) = 176)) = true := by rw [(F21_eq 176).1, (F21_eq 176).2]; rfl
  simp only [h1, h2, hor ha hb, (F22_eq _).1, (F22_eq _).2, (F24_eq _ _ _).1, (F24_eq _ _ _).2]
  rw [swp_abv]
  cases w <;> (first | rw [rfO_t] | rw [rfO_f])
  all_goals
    generalize decide (a.2.2.1 ≥ 4294967296) = p
    generalize decide (b.2.2.1 ≥ 4294967296) = q
    cases p <;> cases q <;> rfl
theorem E8_192_eq (w : Bool) (a b : Sc) (ha : InR a.2.2.1) (hb : InR b.2.2.1) : E8_192 (w, a, b, ()) = some (rfO true w a b (swp (abv b a true))) := by
  show S8_192 (fun x => G12 x && decide (F12 x = 112)) (fun x => G21 x && decide (F21 x = 160)) F22 G22 F24 G24 w a b = _
  unfold S8_192
  have h1 : (G12 (192, ()) && decide (F12 (192, ()) = 112)) = true := by rw [(F12_eq 192).1, (F12_eq 192).2]; rfl
  have h2 : (G21 (192, ()) && decide (F21 (192, ()) = 160)) = true := by rw [(F21_eq 192).1, (F21_eq 192).2]; rfl
  simp only [h1, h2, hor ha hb, (F22_eq _).1, (F22_eq _).2, (F24_eq _ _ _).1, (F24_eq _ _ _).2]
  rw [swp_abv]
  cases w
  · rw [rfO_f]
    generalize decide (a.2.2.1 ≥ 4294967296) = p
    generalize decide (b.2.2.1 ≥ 4294967296) = q
    generalize decide (a.2.2.1 ≥ 2147483648) = r
    generalize decide (b.2.2.1 ≥ 2147483648) = s
    generalize decide (a.2.2.1 ≥ 9223372036854775808) = t
    generalize decide (b.2.2.1 ≥ 9223372036854775808) = u
    generalize decide (a.2.1 = 18446744073709551615) = v
    generalize decide (b.2.2.1 = 0) = x
    cases p <;> cases q <;> cases r <;> cases s <;> cases t <;> cases u <;> cases v <;> cases x <;> rfl
  · rw [rfO_t]
    generalize decide (a.2.2.1 ≥ 4294967296) = p
    generalize decide (b.2.2.1 ≥ 4294967296) = q
    generalize decide (a.2.2.1 ≥ 2147483648) = r
    generalize decide (b.2.2.1 ≥ 2147483648) = s
    generalize decide (a.2.2.1 ≥ 9223372036854775808) = t
    generalize decide (b.2.2.1 ≥ 9223372036854775808) = u
    generalize decide (a.2.1 = 18446744073709551615) = v
    generalize decide (b.2.2.1 = 0) = x
    cases p <;> cases q <;> cases r <;> cases s <;> cases t <;> cases u <;> cases v <;> cases x <;> rfl
theorem E8_208_eq (w : Bool) (a b : Sc) (ha : InR a.2.2.1) (hb : InR b.2.2.1) : E8_208 (w, a, b, ()) = some (rfO true w a b (swp (abv b a false))) := by
  show S8_208 (fun x => G12 x && decide (F12 x = 96)) (fun x => G21 x && decide (F21 x = 176)) F22 G22 F24 G24 w a b = _
  unfold S8_208
  have h1 : (G12 (208, ()) && decide (F12 (208, ()) = 96)) = true := by rw [(F12_eq 208).1, (F12_eq 208).2]; rfl
  have h2 : (G21 (208, ()) && decide (F21 (208, ()) = 176)) = true := by rw [(F21_eq 208).1, (F21_eq 208).2]; rfl
  simp only [h1, h2, hor ha hb, (F22_eq _).1, (F22_eq _).2, (F24_eq _ _ _).1, (F24_eq _ _ _).2]
  rw [swp_abv]
  cases w
  · rw [rfO_f]
    generalize decide (a.2.2.1 ≥ 4294967296) = p
    generalize decide (b.2.2.1 ≥ 4294967296) = q
    generalize decide (a.2.2.1 ≥ 2147483648) = r
    generalize decide (b.2.2.1 ≥ 2147483648) = s
    generalize decide (a.2.2.1 ≥ 9223372036854775808) = t
    generalize decide (b.2.2.1 ≥ 9223372036854775808) = u
    cases p <;> cases q <;> cases r <;> cases s <;> cases t <;> cases u <;> rfl
  · rw [rfO_t]
    generalize decide (a.2.2.1 ≥ 4294967296) = p
    generalize decide (b.2.2.1 ≥ 4294967296) = q
    generalize decide (a.2.2.1 ≥ 2147483648) = r
    generalize decide (b.2.2.1 ≥ 2147483648) = s
    generalize decide (a.2.2.1 ≥ 9223372036854775808) = t
    generalize decide (b.2.2.1 ≥ 9223372036854775808) = u
    cases p <;> cases q <;> cases r <;> cases s <;> cases t <;> cases u <;> rfl
theorem E9_16_eq (w : Bool) (a b : Sc) : E9_16 (w, a, b, ()) = some (rfO false w a b (mtt a b)) := by
  show S9_16 (fun x => G13 x && decide (F13 x = 80)) F26 G26 F27 G27 w a b = _
  unfold S9_16
  have h1 : (G13 (16, ()) && decide (F13 (16, ()) = 80)) = true := by rw [(F13_eq 16).1, (F13_eq 16).2]; rfl
  simp only [h1, (F26_eq _ _).1, (F26_eq _ _).2, (F27_eq _ _).1, (F27_eq _ _).2]
  unfold mtt
  cases hm : metB a.1 b.1
  all_goals (first | rw [mR1 hm] | rw [mR0 hm])
  all_goals (cases w <;> (first | rw [rfO_t] | rw [rfO_f]))
  all_goals (by_cases hp : a.2.2.1 ≥ 4294967296 <;> by_cases hq : b.2.2.1 ≥ 4294967296 <;> (first | rw [decide_eq_true hp] | rw [decide_eq_false hp]) <;> (first | rw [decide_eq_true hq] | rw [decide_eq_false hq]))
  all_goals rfl
theorem E9_32_eq (w : Bool) (a b : Sc) : E9_32 (w, a, b, ()) = some (rfO false w a b (abv a b true)) := by
  show S9_32 (fun x => G13 x && decide (F13 x = 176)) F29 G29 w a b = _
  unfold S9_32
  have h1 : (G13 (32, ()) && decide (F13 (32, ()) = 176)) = true := by rw [(F13_eq 32).1, (F13_eq 32).2]; rfl
  simp only [h1, (F29_eq _ _ _).1, (F29_eq _ _ _).2]
  unfold abv
  cases w <;> (first | rw [rfO_t] | rw [rfO_f])
  all_goals
    generalize decide (a.2.2.1 ≥ 4294967296) = p
    generalize decide (b.2.2.1 ≥ 4294967296) = q
    cases p <;> cases q <;> rfl
theorem E9_48_eq (w : Bool) (a b : Sc) : E9_48 (w, a, b, ()) = some (rfO false w a b (abv a b false)) := by
  show S9_48 (fun x => G13 x && decide (F13 x = 160)) F29 G29 w a b = _
  unfold S9_48
  have h1 : (G13 (48, ()) && decide (F13 (48, ()) = 160)) = true := by rw [(F13_eq 48).1, (F13_eq 48).2]; rfl
  simp only [h1, (F29_eq _ _ _).1, (F29_eq _ _ _).2]
  unfold abv
  cases w <;> (first | rw [rfO_t] | rw [rfO_f])
  all_goals
    generalize decide (a.2.2.1 ≥ 4294967296) = p
    generalize decide (b.2.2.1 ≥ 4294967296) = q
    cases p <;> cases q <;> rfl
theorem E9_64_eq (w : Bool) (a b : Sc) : E9_64 (w, a, b, ()) = some (rfO false w a b (shr a b)) := by
  show S9_64 (fun x => G13 x && decide (F13 x = 68)) F31 G31 w a b = _
  unfold S9_64
  have h1 : (G13 (64, ()) && decide (F13 (64, ()) = 68)) = true := by rw [(F13_eq 64).1, (F13_eq 64).2]; rfl
  simp only [h1, (F31_eq _ _ _).1, (F31_eq _ _ _).2]
  cases w <;> (first | rw [rfO_t] | rw [rfO_f])
  all_goals
    generalize decide (a.2.2.1 ≥ 4294967296) = p
    generalize decide (b.2.2.1 ≥ 4294967296) = q
    cases p <;> cases q <;> rfl
theorem E9_68_eq (w : Bool) (a b : Sc) : E9_68 (w, a, b, ()) = some (rfO false w a b (nsh a b)) := by
  show S9_68 (fun x => G13 x && decide (F13 x = 64)) F31 G31 w a b = _
  unfold S9_68
  have h1 : (G13 (68, ()) && decide (F13 (68, ()) = 64)) = true := by rw [(F13_eq 68).1, (F13_eq 68).2]; rfl
  simp only [h1, (F31_eq _ _ _).1, (F31_eq _ _ _).2]
  cases w <;> (first | rw [rfO_t] | rw [rfO_f])
  all_goals
    generalize decide (a.2.2.1 ≥ 4294967296) = p
    generalize decide (b.2.2.1 ≥ 4294967296) = q
    cases p <;> cases q <;> rfl
theorem E9_80_eq (w : Bool) (a b : Sc) : E9_80 (w, a, b, ()) = some (rfO false w a b (dif a b)) := by
  show S9_80 (fun x => G13 x && decide (F13 x = 16)) F28 G28 w a b = _
  unfold S9_80
  have h1 : (G13 (80, ()) && decide (F13 (80, ()) = 16)) = true := by rw [(F13_eq 80).1, (F13_eq 80).2]; rfl
  simp only [h1, (F28_eq _ _).1, (F28_eq _ _).2]
  cases w <;> (first | rw [rfO_t] | rw [rfO_f])
  all_goals
    generalize decide (a.2.2.1 ≥ 4294967296) = p
    generalize decide (b.2.2.1 ≥ 4294967296) = q
    cases p <;> cases q <;> rfl
theorem E9_96_eq (w : Bool) (a b : Sc) : E9_96 (w, a, b, ()) = some (rfO true w a b (abv a b true)) := by
  show S9_96 (fun x => G13 x && decide (F13 x = 208)) F29 G29 w a b = _
  unfold S9_96
  have h1 : (G13 (96, ()) && decide (F13 (96, ()) = 208)) = true := by rw [(F13_eq 96).1, (F13_eq 96).2]; rfl
  simp only [h1, (F29_eq _ _ _).1, (F29_eq _ _ _).2]
  unfold abv
  cases w
  · rw [rfO_f]
    generalize decide (a.2.2.1 ≥ 4294967296) = p
    generalize decide (b.2.2.1 ≥ 4294967296) = q
    generalize decide (a.2.2.1 ≥ 2147483648) = r
    generalize decide (b.2.2.1 ≥ 2147483648) = s
    generalize decide (a.2.2.1 ≥ 9223372036854775808) = t
    generalize decide (b.2.2.1 ≥ 9223372036854775808) = u
    cases p <;> cases q <;> cases r <;> cases s <;> cases t <;> cases u <;> rfl
  · rw [rfO_t]
    generalize decide (a.2.2.1 ≥ 4294967296) = p
    generalize decide (b.2.2.1 ≥ 4294967296) = q
    generalize decide (a.2.2.1 ≥ 2147483648) = r
    generalize decide (b.2.2.1 ≥ 2147483648) = s
    generalize decide (a.2.2.1 ≥ 9223372036854775808) = t
    generalize decide (b.2.2.1 ≥ 9223372036854775808) = u
    cases p <;> cases q <;> cases r <;> cases s <;> cases t <;> cases u <;> rfl
theorem E9_112_eq (w : Bool) (a b : Sc) : E9_112 (w, a, b, ()) = some (rfO true w a b (abv a b false)) := by
  show S9_112 (fun x => G13 x && decide (F13 x = 192)) F29 G29 w a b = _
  unfold S9_112
  have h1 : (G13 (112, ()) && decide (F13 (112, ()) = 192)) = true := by rw [(F13_eq 112).1, (F13_eq 112).2]; rfl
  simp only [h1, (F29_eq _ _ _).1, (F29_eq _ _ _).2]
  unfold abv
  cases w
  · rw [rfO_f]
    generalize decide (a.2.2.1 ≥ 4294967296) = p
    generalize decide (b.2.2.1 ≥ 4294967296) = q
    generalize decide (a.2.2.1 ≥ 2147483648) = r
    generalize decide (b.2.2.1 ≥ 2147483648) = s
    generalize decide (a.2.2.1 ≥ 9223372036854775808) = t
    generalize decide (b.2.2.1 ≥ 9223372036854775808) = u
    cases p <;> cases q <;> cases r <;> cases s <;> cases t <;> cases u <;> rfl
  · rw [rfO_t]
    generalize decide (a.2.2.1 ≥ 4294967296) = p
    generalize decide (b.2.2.1 ≥ 4294967296) = q
    generalize decide (a.2.2.1 ≥ 2147483648) = r
    generalize decide (b.2.2.1 ≥ 2147483648) = s
    generalize decide (a.2.2.1 ≥ 9223372036854775808) = t
    generalize decide (b.2.2.1 ≥ 9223372036854775808) = u
    cases p <;> cases q <;> cases r <;> cases s <;> cases t <;> cases u <;> rfl
theorem E9_160_eq (w : Bool) (a b : Sc) : E9_160 (w, a, b, ()) = some (rfO false w a b (swp (abv b a true))) := by
  show S9_160 (fun x => G13 x && decide (F13 x = 48)) F29 G29 F30 G30 w a b = _
  unfold S9_160
  have h1 : (G13 (160, ()) && decide (F13 (160, ()) = 48)) = true := by rw [(F13_eq 160).1, (F13_eq 160).2]; rfl
  simp only [h1, (F29_eq _ _ _).1, (F29_eq _ _ _).2, (F30_eq _ _ _).1, (F30_eq _ _ _).2]

  cases w <;> (first | rw [rfO_t] | rw [rfO_f])
  all_goals
    generalize decide (a.2.2.1 ≥ 4294967296) = p
    generalize decide (b.2.2.1 ≥ 4294967296) = q
    generalize decide (a.2.1 = 18446744073709551615) = r
    generalize decide (b.2.2.1 = 0) = s
    cases p <;> cases q <;> cases r <;> cases s <;> rfl
theorem E9_176_eq (w : Bool) (a b : Sc) : E9_176 (w, a, b, ()) = some (rfO false w a b (swp (abv b a false))) := by
  show S9_176 (fun x => G13 x && decide (F13 x = 32)) F29 G29 F30 G30 w a b = _
  unfold S9_176
  have h1 : (G13 (176, ()) && decide (F13 (176, ()) = 32)) = true := by rw [(F13_eq 176).1, (F13_eq 176).2]; rfl
  simp only [h1, (F29_eq _ _ _).1, (F29_eq _ _ _).2, (F30_eq _ _ _).1, (F30_eq _ _ _).2]

  cases w <;> (first | rw [rfO_t] | rw [rfO_f])
  all_goals
    generalize decide (a.2.2.1 ≥ 4294967296) = p
    generalize decide (b.2.2.1 ≥ 4294967296) = q
    cases p <;> cases q <;> rfl
theorem E9_192_eq (w : Bool) (a b : Sc) : E9_192 (w, a, b, ()) = some (rfO true w a b (swp (abv b a true))) := by
  show S9_192 (fun x => G13 x && decide (F13 x = 112)) F29 G29 F30 G30 w a b = _
  unfold S9_192
  have h1 : (G13 (192, ()) && decide (F13 (192, ()) = 112)) = true := by rw [(F13_eq 192).1, (F13_eq 192).2]; rfl
  simp only [h1, (F29_eq _ _ _).1, (F29_eq _ _ _).2, (F30_eq _ _ _).1, (F30_eq _ _ _).2]

  cases w
  · rw [rfO_f]
    generalize decide (a.2.2.1 ≥ 4294967296) = p
    generalize decide (b.2.2.1 ≥ 4294967296) = q
    generalize decide (a.2.2.1 ≥ 2147483648) = r
    generalize decide (b.2.2.1 ≥ 2147483648) = s
    generalize decide (a.2.2.1 ≥ 9223372036854775808) = t
    generalize decide (b.2.2.1 ≥ 9223372036854775808) = u
    generalize decide (a.2.1 = 18446744073709551615) = v
    generalize decide (b.2.2.1 = 0) = x
    cases p <;> cases q <;> cases r <;> cases s <;> cases t <;> cases u <;> cases v <;> cases x <;> rfl
  · rw [rfO_t]
    generalize decide (a.2.2.1 ≥ 4294967296) = p
    generalize decide (b.2.2.1 ≥ 4294967296) = q
    generalize decide (a.2.2.1 ≥ 2147483648) = r
    generalize decide (b.2.2.1 ≥ 2147483648) = s
    generalize decide (a.2.2.1 ≥ 9223372036854775808) = t
    generalize decide (b.2.2.1 ≥ 9223372036854775808) = u
    generalize decide (a.2.1 = 18446744073709551615) = v
    generalize decide (b.2.2.1 = 0) = x
    cases p <;> cases q <;> cases r <;> cases s <;> cases t <;> cases u <;> cases v <;> cases x <;> rfl
theorem E9_208_eq (w : Bool) (a b : Sc) : E9_208 (w, a, b, ()) = some (rfO true w a b (swp (abv b a false))) := by
  show S9_208 (fun x => G13 x && decide (F13 x = 96)) F29 G29 F30 G30 w a b = _
  unfold S9_208
  have h1 : (G13 (208, ()) && decide (F13 (208, ()) = 96)) = true := by rw [(F13_eq 208).1, (F13_eq 208).2]; rfl
  simp only [h1, (F29_eq _ _ _).1, (F29_eq _ _ _).2, (F30_eq _ _ _).1, (F30_eq _ _ _).2]

  cases w
  · rw [rfO_f]
    generalize decide (a.2.2.1 ≥ 4294967296) = p
    generalize decide (b.2.2.1 ≥ 4294967296) = q
    generalize decide (a.2.2.1 ≥ 2147483648) = r
    generalize decide (b.2.2.1 ≥ 2147483648) = s
    generalize decide (a.2.2.1 ≥ 9223372036854775808) = t
    generalize decide (b.2.2.1 ≥ 9223372036854775808) = u
    cases p <;> cases q <;> cases r <;> cases s <;> cases t <;> cases u <;> rfl
  · rw [rfO_t]
    generalize decide (a.2.2.1 ≥ 4294967296) = p
    generalize decide (b.2.2.1 ≥ 4294967296) = q
    generalize decide (a.2.2.1 ≥ 2147483648) = r
    generalize decide (b.2.2.1 ≥ 2147483648) = s
    generalize decide (a.2.2.1 ≥ 9223372036854775808) = t
    generalize decide (b.2.2.1 ≥ 9223372036854775808) = u
    cases p <;> cases q <;> cases r <;> cases s <;> cases t <;> cases u <;> rfl
end Go.Proofs
