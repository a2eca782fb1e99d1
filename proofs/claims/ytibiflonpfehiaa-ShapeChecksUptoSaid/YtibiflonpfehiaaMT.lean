import Derived.Test.YtibiflonpfehiaaMS
namespace Go.Proofs
open Go.GX
set_option linter.unusedVariables false
set_option linter.unusedSimpArgs false
def PE (n : Nat) : Prop := ∀ d s o m : Int, c17 ((n : Int), d, s, o, m, ()) = c33 ((n : Int), d, s, o, m, ())
theorem pe0 (r : Nat) (h : r < 16) : PE (0 + r) := by
  match r, h with
  | 0, _ => exact fun d s o m => a0 d s o m
  | 1, _ => exact fun d s o m => a1 d s o m
  | 2, _ => exact fun d s o m => a2 d s o m
  | 3, _ => exact fun d s o m => a3 d s o m
  | 4, _ => exact fun d s o m => a4 d s o m
  | 5, _ => exact fun d s o m => a5 d s o m
  | 6, _ => exact fun d s o m => a6 d s o m
  | 7, _ => exact fun d s o m => a7 d s o m
  | 8, _ => exact fun d s o m => a8 d s o m
  | 9, _ => exact fun d s o m => a9 d s o m
  | 10, _ => exact fun d s o m => a10 d s o m
  | 11, _ => exact fun d s o m => a11 d s o m
  | 12, _ => exact fun d s o m => a12 d s o m
  | 13, _ => exact fun d s o m => a13 d s o m
  | 14, _ => exact fun d s o m => a14 d s o m
  | 15, _ => exact fun d s o m => a15 d s o m
  | r + 16, h => exact absurd h (by omega)
theorem pe1 (r : Nat) (h : r < 16) : PE (16 + r) := by
  match r, h with
  | 0, _ => exact fun d s o m => a16 d s o m
  | 1, _ => exact fun d s o m => a17 d s o m
  | 2, _ => exact fun d s o m => a18 d s o m
  | 3, _ => exact fun d s o m => a19 d s o m
  | 4, _ => exact fun d s o m => a20 d s o m
  | 5, _ => exact fun d s o m => a21 d s o m
  | 6, _ => exact fun d s o m => a22 d s o m
  | 7, _ => exact fun d s o m => a23 d s o m
  | 8, _ => exact fun d s o m => a24 d s o m
  | 9, _ => exact fun d s o m => a25 d s o m
  | 10, _ => exact fun d s o m => a26 d s o m
  | 11, _ => exact fun d s o m => a27 d s o m
  | 12, _ => exact fun d s o m => a28 d s o m
  | 13, _ => exact fun d s o m => a29 d s o m
  | 14, _ => exact fun d s o m => a30 d s o m
  | 15, _ => exact fun d s o m => a31 d s o m
  | r + 16, h => exact absurd h (by omega)
theorem pe2 (r : Nat) (h : r < 16) : PE (32 + r) := by
  match r, h with
  | 0, _ => exact fun d s o m => a32 d s o m
  | 1, _ => exact fun d s o m => a33 d s o m
  | 2, _ => exact fun d s o m => a34 d s o m
  | 3, _ => exact fun d s o m => a35 d s o m
  | 4, _ => exact fun d s o m => a36 d s o m
  | 5, _ => exact fun d s o m => a37 d s o m
  | 6, _ => exact fun d s o m => a38 d s o m
  | 7, _ => exact fun d s o m => a39 d s o m
  | 8, _ => exact fun d s o m => a40 d s o m
  | 9, _ => exact fun d s o m => a41 d s o m
  | 10, _ => exact fun d s o m => a42 d s o m
  | 11, _ => exact fun d s o m => a43 d s o m
  | 12, _ => exact fun d s o m => a44 d s o m
  | 13, _ => exact fun d s o m => a45 d s o m
  | 14, _ => exact fun d s o m => a46 d s o m
  | 15, _ => exact fun d s o m => a47 d s o m
  | r + 16, h => exact absurd h (by omega)
theorem pe3 (r : Nat) (h : r < 16) : PE (48 + r) := by
  match r, h with
  | 0, _ => exact fun d s o m => a48 d s o m
  | 1, _ => exact fun d s o m => a49 d s o m
  | 2, _ => exact fun d s o m => a50 d s o m
  | 3, _ => exact fun d s o m => a51 d s o m
  | 4, _ => exact fun d s o m => a52 d s o m
  | 5, _ => exact fun d s o m => a53 d s o m
  | 6, _ => exact fun d s o m => a54 d s o m
  | 7, _ => exact fun d s o m => a55 d s o m
  | 8, _ => exact fun d s o m => a56 d s o m
  | 9, _ => exact fun d s o m => a57 d s o m
  | 10, _ => exact fun d s o m => a58 d s o m
  | 11, _ => exact fun d s o m => a59 d s o m
  | 12, _ => exact fun d s o m => a60 d s o m
  | 13, _ => exact fun d s o m => a61 d s o m
  | 14, _ => exact fun d s o m => a62 d s o m
  | 15, _ => exact fun d s o m => a63 d s o m
  | r + 16, h => exact absurd h (by omega)
theorem pe4 (r : Nat) (h : r < 16) : PE (64 + r) := by
  match r, h with
  | 0, _ => exact fun d s o m => a64 d s o m
  | 1, _ => exact fun d s o m => a65 d s o m
  | 2, _ => exact fun d s o m => a66 d s o m
  | 3, _ => exact fun d s o m => a67 d s o m
  | 4, _ => exact fun d s o m => a68 d s o m
  | 5, _ => exact fun d s o m => a69 d s o m
  | 6, _ => exact fun d s o m => a70 d s o m
  | 7, _ => exact fun d s o m => a71 d s o m
  | 8, _ => exact fun d s o m => a72 d s o m
  | 9, _ => exact fun d s o m => a73 d s o m
  | 10, _ => exact fun d s o m => a74 d s o m
  | 11, _ => exact fun d s o m => a75 d s o m
  | 12, _ => exact fun d s o m => a76 d s o m
  | 13, _ => exact fun d s o m => a77 d s o m
  | 14, _ => exact fun d s o m => a78 d s o m
  | 15, _ => exact fun d s o m => a79 d s o m
  | r + 16, h => exact absurd h (by omega)
theorem pe5 (r : Nat) (h : r < 16) : PE (80 + r) := by
  match r, h with
  | 0, _ => exact fun d s o m => a80 d s o m
  | 1, _ => exact fun d s o m => a81 d s o m
  | 2, _ => exact fun d s o m => a82 d s o m
  | 3, _ => exact fun d s o m => a83 d s o m
  | 4, _ => exact fun d s o m => a84 d s o m
  | 5, _ => exact fun d s o m => a85 d s o m
  | 6, _ => exact fun d s o m => a86 d s o m
  | 7, _ => exact fun d s o m => a87 d s o m
  | 8, _ => exact fun d s o m => a88 d s o m
  | 9, _ => exact fun d s o m => a89 d s o m
  | 10, _ => exact fun d s o m => a90 d s o m
  | 11, _ => exact fun d s o m => a91 d s o m
  | 12, _ => exact fun d s o m => a92 d s o m
  | 13, _ => exact fun d s o m => a93 d s o m
  | 14, _ => exact fun d s o m => a94 d s o m
  | 15, _ => exact fun d s o m => a95 d s o m
  | r + 16, h => exact absurd h (by omega)
theorem pe6 (r : Nat) (h : r < 16) : PE (96 + r) := by
  match r, h with
  | 0, _ => exact fun d s o m => a96 d s o m
  | 1, _ => exact fun d s o m => a97 d s o m
  | 2, _ => exact fun d s o m => a98 d s o m
  | 3, _ => exact fun d s o m => a99 d s o m
  | 4, _ => exact fun d s o m => a100 d s o m
  | 5, _ => exact fun d s o m => a101 d s o m
  | 6, _ => exact fun d s o m => a102 d s o m
  | 7, _ => exact fun d s o m => a103 d s o m
  | 8, _ => exact fun d s o m => a104 d s o m
  | 9, _ => exact fun d s o m => a105 d s o m
  | 10, _ => exact fun d s o m => a106 d s o m
  | 11, _ => exact fun d s o m => a107 d s o m
  | 12, _ => exact fun d s o m => a108 d s o m
  | 13, _ => exact fun d s o m => a109 d s o m
  | 14, _ => exact fun d s o m => a110 d s o m
  | 15, _ => exact fun d s o m => a111 d s o m
  | r + 16, h => exact absurd h (by omega)
theorem pe7 (r : Nat) (h : r < 16) : PE (112 + r) := by
  match r, h with
  | 0, _ => exact fun d s o m => a112 d s o m
  | 1, _ => exact fun d s o m => a113 d s o m
  | 2, _ => exact fun d s o m => a114 d s o m
  | 3, _ => exact fun d s o m => a115 d s o m
  | 4, _ => exact fun d s o m => a116 d s o m
  | 5, _ => exact fun d s o m => a117 d s o m
  | 6, _ => exact fun d s o m => a118 d s o m
  | 7, _ => exact fun d s o m => a119 d s o m
  | 8, _ => exact fun d s o m => a120 d s o m
  | 9, _ => exact fun d s o m => a121 d s o m
  | 10, _ => exact fun d s o m => a122 d s o m
  | 11, _ => exact fun d s o m => a123 d s o m
  | 12, _ => exact fun d s o m => a124 d s o m
  | 13, _ => exact fun d s o m => a125 d s o m
  | 14, _ => exact fun d s o m => a126 d s o m
  | 15, _ => exact fun d s o m => a127 d s o m
  | r + 16, h => exact absurd h (by omega)
theorem pe8 (r : Nat) (h : r < 16) : PE (128 + r) := by
  match r, h with
  | 0, _ => exact fun d s o m => a128 d s o m
  | 1, _ => exact fun d s o m => a129 d s o m
  | 2, _ => exact fun d s o m => a130 d s o m
  | 3, _ => exact fun d s o m => a131 d s o m
  | 4, _ => exact fun d s o m => a132 d s o m
  | 5, _ => exact fun d s o m => a133 d s o m
  | 6, _ => exact fun d s o m => a134 d s o m
  | 7, _ => exact fun d s o m => a135 d s o m
  | 8, _ => exact fun d s o m => a136 d s o m
  | 9, _ => exact fun d s o m => a137 d s o m
  | 10, _ => exact fun d s o m => a138 d s o m
  | 11, _ => exact fun d s o m => a139 d s o m
  | 12, _ => exact fun d s o m => a140 d s o m
  | 13, _ => exact fun d s o m => a141 d s o m
  | 14, _ => exact fun d s o m => a142 d s o m
  | 15, _ => exact fun d s o m => a143 d s o m
  | r + 16, h => exact absurd h (by omega)
theorem pe9 (r : Nat) (h : r < 16) : PE (144 + r) := by
  match r, h with
  | 0, _ => exact fun d s o m => a144 d s o m
  | 1, _ => exact fun d s o m => a145 d s o m
  | 2, _ => exact fun d s o m => a146 d s o m
  | 3, _ => exact fun d s o m => a147 d s o m
  | 4, _ => exact fun d s o m => a148 d s o m
  | 5, _ => exact fun d s o m => a149 d s o m
  | 6, _ => exact fun d s o m => a150 d s o m
  | 7, _ => exact fun d s o m => a151 d s o m
  | 8, _ => exact fun d s o m => a152 d s o m
  | 9, _ => exact fun d s o m => a153 d s o m
  | 10, _ => exact fun d s o m => a154 d s o m
  | 11, _ => exact fun d s o m => a155 d s o m
  | 12, _ => exact fun d s o m => a156 d s o m
  | 13, _ => exact fun d s o m => a157 d s o m
  | 14, _ => exact fun d s o m => a158 d s o m
  | 15, _ => exact fun d s o m => a159 d s o m
  | r + 16, h => exact absurd h (by omega)
theorem pe10 (r : Nat) (h : r < 16) : PE (160 + r) := by
  match r, h with
  | 0, _ => exact fun d s o m => a160 d s o m
  | 1, _ => exact fun d s o m => a161 d s o m
  | 2, _ => exact fun d s o m => a162 d s o m
  | 3, _ => exact fun d s o m => a163 d s o m
  | 4, _ => exact fun d s o m => a164 d s o m
  | 5, _ => exact fun d s o m => a165 d s o m
  | 6, _ => exact fun d s o m => a166 d s o m
  | 7, _ => exact fun d s o m => a167 d s o m
  | 8, _ => exact fun d s o m => a168 d s o m
  | 9, _ => exact fun d s o m => a169 d s o m
  | 10, _ => exact fun d s o m => a170 d s o m
  | 11, _ => exact fun d s o m => a171 d s o m
  | 12, _ => exact fun d s o m => a172 d s o m
  | 13, _ => exact fun d s o m => a173 d s o m
  | 14, _ => exact fun d s o m => a174 d s o m
  | 15, _ => exact fun d s o m => a175 d s o m
  | r + 16, h => exact absurd h (by omega)
theorem pe11 (r : Nat) (h : r < 16) : PE (176 + r) := by
  match r, h with
  | 0, _ => exact fun d s o m => a176 d s o m
  | 1, _ => exact fun d s o m => a177 d s o m
  | 2, _ => exact fun d s o m => a178 d s o m
  | 3, _ => exact fun d s o m => a179 d s o m
  | 4, _ => exact fun d s o m => a180 d s o m
  | 5, _ => exact fun d s o m => a181 d s o m
  | 6, _ => exact fun d s o m => a182 d s o m
  | 7, _ => exact fun d s o m => a183 d s o m
  | 8, _ => exact fun d s o m => a184 d s o m
  | 9, _ => exact fun d s o m => a185 d s o m
  | 10, _ => exact fun d s o m => a186 d s o m
  | 11, _ => exact fun d s o m => a187 d s o m
  | 12, _ => exact fun d s o m => a188 d s o m
  | 13, _ => exact fun d s o m => a189 d s o m
  | 14, _ => exact fun d s o m => a190 d s o m
  | 15, _ => exact fun d s o m => a191 d s o m
  | r + 16, h => exact absurd h (by omega)
theorem pe12 (r : Nat) (h : r < 16) : PE (192 + r) := by
  match r, h with
  | 0, _ => exact fun d s o m => a192 d s o m
  | 1, _ => exact fun d s o m => a193 d s o m
  | 2, _ => exact fun d s o m => a194 d s o m
  | 3, _ => exact fun d s o m => a195 d s o m
  | 4, _ => exact fun d s o m => a196 d s o m
  | 5, _ => exact fun d s o m => a197 d s o m
  | 6, _ => exact fun d s o m => a198 d s o m
  | 7, _ => exact fun d s o m => a199 d s o m
  | 8, _ => exact fun d s o m => a200 d s o m
  | 9, _ => exact fun d s o m => a201 d s o m
  | 10, _ => exact fun d s o m => a202 d s o m
  | 11, _ => exact fun d s o m => a203 d s o m
  | 12, _ => exact fun d s o m => a204 d s o m
  | 13, _ => exact fun d s o m => a205 d s o m
  | 14, _ => exact fun d s o m => a206 d s o m
  | 15, _ => exact fun d s o m => a207 d s o m
  | r + 16, h => exact absurd h (by omega)
theorem pe13 (r : Nat) (h : r < 16) : PE (208 + r) := by
  match r, h with
  | 0, _ => exact fun d s o m => a208 d s o m
  | 1, _ => exact fun d s o m => a209 d s o m
  | 2, _ => exact fun d s o m => a210 d s o m
  | 3, _ => exact fun d s o m => a211 d s o m
  | 4, _ => exact fun d s o m => a212 d s o m
  | 5, _ => exact fun d s o m => a213 d s o m
  | 6, _ => exact fun d s o m => a214 d s o m
  | 7, _ => exact fun d s o m => a215 d s o m
  | 8, _ => exact fun d s o m => a216 d s o m
  | 9, _ => exact fun d s o m => a217 d s o m
  | 10, _ => exact fun d s o m => a218 d s o m
  | 11, _ => exact fun d s o m => a219 d s o m
  | 12, _ => exact fun d s o m => a220 d s o m
  | 13, _ => exact fun d s o m => a221 d s o m
  | 14, _ => exact fun d s o m => a222 d s o m
  | 15, _ => exact fun d s o m => a223 d s o m
  | r + 16, h => exact absurd h (by omega)
theorem pe14 (r : Nat) (h : r < 16) : PE (224 + r) := by
  match r, h with
  | 0, _ => exact fun d s o m => a224 d s o m
  | 1, _ => exact fun d s o m => a225 d s o m
  | 2, _ => exact fun d s o m => a226 d s o m
  | 3, _ => exact fun d s o m => a227 d s o m
  | 4, _ => exact fun d s o m => a228 d s o m
  | 5, _ => exact fun d s o m => a229 d s o m
  | 6, _ => exact fun d s o m => a230 d s o m
  | 7, _ => exact fun d s o m => a231 d s o m
  | 8, _ => exact fun d s o m => a232 d s o m
  | 9, _ => exact fun d s o m => a233 d s o m
  | 10, _ => exact fun d s o m => a234 d s o m
  | 11, _ => exact fun d s o m => a235 d s o m
  | 12, _ => exact fun d s o m => a236 d s o m
  | 13, _ => exact fun d s o m => a237 d s o m
  | 14, _ => exact fun d s o m => a238 d s o m
  | 15, _ => exact fun d s o m => a239 d s o m
  | r + 16, h => exact absurd h (by omega)
theorem pe15 (r : Nat) (h : r < 16) : PE (240 + r) := by
  match r, h with
  | 0, _ => exact fun d s o m => a240 d s o m
  | 1, _ => exact fun d s o m => a241 d s o m
  | 2, _ => exact fun d s o m => a242 d s o m
  | 3, _ => exact fun d s o m => a243 d s o m
  | 4, _ => exact fun d s o m => a244 d s o m
  | 5, _ => exact fun d s o m => a245 d s o m
  | 6, _ => exact fun d s o m => a246 d s o m
  | 7, _ => exact fun d s o m => a247 d s o m
  | 8, _ => exact fun d s o m => a248 d s o m
  | 9, _ => exact fun d s o m => a249 d s o m
  | 10, _ => exact fun d s o m => a250 d s o m
  | 11, _ => exact fun d s o m => a251 d s o m
  | 12, _ => exact fun d s o m => a252 d s o m
  | 13, _ => exact fun d s o m => a253 d s o m
  | 14, _ => exact fun d s o m => a254 d s o m
  | 15, _ => exact fun d s o m => a255 d s o m
  | r + 16, h => exact absurd h (by omega)
theorem pe_all (n : Nat) (h : n < 256) : PE n := by
  have hr : n % 16 < 16 := by omega
  have hn : n = n / 16 * 16 + n % 16 := by omega
  have hq : n / 16 < 16 := by omega
  rw [hn]
  generalize n / 16 = q at *
  generalize n % 16 = r at *
  match q, hq with
  | 0, _ => exact pe0 r hr
  | 1, _ => exact pe1 r hr
  | 2, _ => exact pe2 r hr
  | 3, _ => exact pe3 r hr
  | 4, _ => exact pe4 r hr
  | 5, _ => exact pe5 r hr
  | 6, _ => exact pe6 r hr
  | 7, _ => exact pe7 r hr
  | 8, _ => exact pe8 r hr
  | 9, _ => exact pe9 r hr
  | 10, _ => exact pe10 r hr
  | 11, _ => exact pe11 r hr
  | 12, _ => exact pe12 r hr
  | 13, _ => exact pe13 r hr
  | 14, _ => exact pe14 r hr
  | 15, _ => exact pe15 r hr
  | r + 16, h => exact absurd h (by omega)
theorem one_ref (i : In) : c17 i = c33 i := by
  by_cases h : 0 ≤ i.1 ∧ i.1 ≤ 255
  · have := pe_all i.1.toNat (by omega) i.2.1 i.2.2.1 i.2.2.2.1 i.2.2.2.2.1
    rw [show ((i.1.toNat : Nat) : Int) = i.1 by omega] at this
    exact this
  · have h24 : ¬ i.1 = 24 := by omega
    have hc : c27 i = false := by
      cases e : c27 i
      · rfl
      · exact absurd ((c27_iff i).1 e).1 h
    have e1 : c17 i = false := by
      unfold c17
      rw [decide_eq_false h24, hc]
      rfl
    have e2 : c36 i = false := by
      unfold c36
      by_cases h0 : i.1 < 0
      · rw [decide_eq_true h0]; rfl
      · rw [decide_eq_false h0, decide_eq_true (show i.1 > 255 by omega)]; rfl
    have e3 : c33 i = false := by
      unfold c33
      rw [decide_eq_false h24, e2]
      rfl
    rw [e1, e3]
theorem F33_one (i : In) : F33 (i, ()) = one i ∧ G33 (i, ()) = true := by
  have h : F33 (i, ()) = c33 i ∧ G33 (i, ()) = true := ofE (E33_e i)
  exact ⟨h.1.trans ((one_ref i).symm.trans (one_c i).symm), h.2⟩
end Go.Proofs
