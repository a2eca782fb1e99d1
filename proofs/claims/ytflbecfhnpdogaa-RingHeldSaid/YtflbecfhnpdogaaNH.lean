import Derived.Test.YtflbecfhnpdogaaHA
import Derived.Test.YtflbecfhnpdogaaHB
import Derived.Test.YtflbecfhnpdogaaHC
import Derived.Test.YtflbecfhnpdogaaHD
import Derived.Test.YtflbecfhnpdogaaNZ
import Derived.Test.YtflbecfhnpdogaaGd
namespace Go.Proofs
open Go.GX
set_option linter.unusedVariables false
/-! ## A record that is held -/
theorem V10_self (a : List (List UInt8)) (i : Nat) (h : i < a.length) (hb : a.length < 1000) : V10_0 (a, a, (i : Int), ()) = some (.inl (a, a, ((i + 1 : Nat) : Int), ())) := by
  show R10_0 _ _ a a (i : Int) = _
  unfold R10_0
  have h1 : ((i : Nat) : Int) < ((a.length : Nat) : Int) := by omega
  have h2 : (0 : Int) ≤ (i : Int) := by omega
  have hw : IntKind.wrap .i64 ((i : Int) + 1) = ((i + 1 : Nat) : Int) := by rw [wi64 (by omega)]; omega
  rw [bif_t (decide_eq_true h1), bif_f (by simp), bif_t (by simp [tt_eq, h1, h2]), hw]
theorem V10_end (a : List (List UInt8)) : V10_0 (a, a, (a.length : Int), ()) = some (.inr (.inl ())) := by
  show R10_0 _ _ a a (a.length : Int) = _
  unfold R10_0
  rw [bif_f (decide_eq_false (by omega))]
theorem E10_self (a : List (List UInt8)) (hb : a.length < 1000) : E10 (a, a, ()) = some true := by
  show S10 W10_0 Q10_0 a a = _
  unfold S10
  have hs := wh_steps (f := V10_0) (fun i => (a, a, ((i : Nat) : Int), ())) a.length (fun i h => V10_self a i h hb)
  have he : wh V10_0 (a, a, (0 : Int), ()) = some (.inl ()) := hs.trans (wh_stop (V10_end a))
  have hV : W10_0 (a, a, (0 : Int), ()) = .inl () := whV_of he
  have hK : Q10_0 (a, a, (0 : Int), ()) = true := whK_of he
  rw [bif_f (by simp), hV, hK]
  rfl
theorem kkH_self (a : List (List UInt8)) (hb : a.length < 1000) : kkH (a, a, ()) = true := by
  have h : F10 (a, a, ()) = true ∧ G10 (a, a, ()) = true := ofE (E10_self a hb)
  unfold kkH
  rw [h.1, h.2]
  rfl
theorem cv_eq (x : UInt8) : cv x = x := by
  unfold cv
  rw [Int.toNat_natCast, UInt8.ofNat_toNat]
theorem lst1_eq (b : Nat → UInt8) (n : Nat) : lst1 b n = lst0 b n := by
  unfold lst1 lst0
  have : (fun i => cv (cv (b i))) = b := by funext i; rw [cv_eq, cv_eq]
  rw [this]
theorem lstA_eq (b : Nat → UInt8) : ∀ (n : Nat) (l : List UInt8), lstA b n l = (List.range n).map b ++ l
  | 0, l => rfl
  | n + 1, l => by
    show lstA b n (b n :: l) = _
    rw [lstA_eq b n, List.range_succ, List.map_append]
    simp
theorem lst0_self (s : List UInt8) : lst0 (fun i => s.getD i 0) s.length = s := by
  unfold lst0
  rw [lstA_eq, List.append_nil]
  apply List.ext_getElem
  · simp
  · intro i h1 h2
    simp [List.getD, h2]
theorem LH : ∀ c, Try.f4.body = some c → LOK Try.prog CH 0 c := fun c _ => LOK.none rfl 0 c
def PH (n : Nat) : Prop := ∀ (b : Nat → UInt8) (k : Bool), fnT CH Try.f4 .bool [⟨.str, lst0 b n⟩, ⟨.bool, k⟩] = (bif k then (bif tt 1 (kkH ([lst1 b n, [98]], [lst0 b n, [98]], ())) then some true else none) else (bif tt 1 (kkH ([[98]],[[98]],())) then some true else none))
def QH (m : Nat) : Prop := ∀ n, m ≤ n → n ≤ 200 → PH n
theorem QH.step {m : Nat} (h : PH m) (q : QH (m + 1)) : QH m := fun n h1 h2 => by
  rcases Nat.eq_or_lt_of_le h1 with e | e
  · exact e ▸ h
  · exact q n e h2
theorem q201 : QH 201 := fun n h1 h2 => by omega
theorem q200 : QH 200 := QH.step h200 q201
theorem q199 : QH 199 := QH.step h199 q200
theorem q198 : QH 198 := QH.step h198 q199
theorem q197 : QH 197 := QH.step h197 q198
theorem q196 : QH 196 := QH.step h196 q197
theorem q195 : QH 195 := QH.step h195 q196
theorem q194 : QH 194 := QH.step h194 q195
theorem q193 : QH 193 := QH.step h193 q194
theorem q192 : QH 192 := QH.step h192 q193
theorem q191 : QH 191 := QH.step h191 q192
theorem q190 : QH 190 := QH.step h190 q191
theorem q189 : QH 189 := QH.step h189 q190
theorem q188 : QH 188 := QH.step h188 q189
theorem q187 : QH 187 := QH.step h187 q188
theorem q186 : QH 186 := QH.step h186 q187
theorem q185 : QH 185 := QH.step h185 q186
theorem q184 : QH 184 := QH.step h184 q185
theorem q183 : QH 183 := QH.step h183 q184
theorem q182 : QH 182 := QH.step h182 q183
theorem q181 : QH 181 := QH.step h181 q182
theorem q180 : QH 180 := QH.step h180 q181
theorem q179 : QH 179 := QH.step h179 q180
theorem q178 : QH 178 := QH.step h178 q179
theorem q177 : QH 177 := QH.step h177 q178
theorem q176 : QH 176 := QH.step h176 q177
theorem q175 : QH 175 := QH.step h175 q176
theorem q174 : QH 174 := QH.step h174 q175
theorem q173 : QH 173 := QH.step h173 q174
theorem q172 : QH 172 := QH.step h172 q173
theorem q171 : QH 171 := QH.step h171 q172
theorem q170 : QH 170 := QH.step h170 q171
theorem q169 : QH 169 := QH.step h169 q170
theorem q168 : QH 168 := QH.step h168 q169
theorem q167 : QH 167 := QH.step h167 q168
theorem q166 : QH 166 := QH.step h166 q167
theorem q165 : QH 165 := QH.step h165 q166
theorem q164 : QH 164 := QH.step h164 q165
theorem q163 : QH 163 := QH.step h163 q164
theorem q162 : QH 162 := QH.step h162 q163
theorem q161 : QH 161 := QH.step h161 q162
theorem q160 : QH 160 := QH.step h160 q161
theorem q159 : QH 159 := QH.step h159 q160
theorem q158 : QH 158 := QH.step h158 q159
theorem q157 : QH 157 := QH.step h157 q158
theorem q156 : QH 156 := QH.step h156 q157
theorem q155 : QH 155 := QH.step h155 q156
theorem q154 : QH 154 := QH.step h154 q155
theorem q153 : QH 153 := QH.step h153 q154
theorem q152 : QH 152 := QH.step h152 q153
theorem q151 : QH 151 := QH.step h151 q152
theorem q150 : QH 150 := QH.step h150 q151
theorem q149 : QH 149 := QH.step h149 q150
theorem q148 : QH 148 := QH.step h148 q149
theorem q147 : QH 147 := QH.step h147 q148
theorem q146 : QH 146 := QH.step h146 q147
theorem q145 : QH 145 := QH.step h145 q146
theorem q144 : QH 144 := QH.step h144 q145
theorem q143 : QH 143 := QH.step h143 q144
theorem q142 : QH 142 := QH.step h142 q143
theorem q141 : QH 141 := QH.step h141 q142
theorem q140 : QH 140 := QH.step h140 q141
theorem q139 : QH 139 := QH.step h139 q140
theorem q138 : QH 138 := QH.step h138 q139
theorem q137 : QH 137 := QH.step h137 q138
theorem q136 : QH 136 := QH.step h136 q137
theorem q135 : QH 135 := QH.step h135 q136
theorem q134 : QH 134 := QH.step h134 q135
theorem q133 : QH 133 := QH.step h133 q134
theorem q132 : QH 132 := QH.step h132 q133
theorem q131 : QH 131 := QH.step h131 q132
theorem q130 : QH 130 := QH.step h130 q131
theorem q129 : QH 129 := QH.step h129 q130
theorem q128 : QH 128 := QH.step h128 q129
theorem q127 : QH 127 := QH.step h127 q128
theorem q126 : QH 126 := QH.step h126 q127
theorem q125 : QH 125 := QH.step h125 q126
theorem q124 : QH 124 := QH.step h124 q125
theorem q123 : QH 123 := QH.step h123 q124
theorem q122 : QH 122 := QH.step h122 q123
theorem q121 : QH 121 := QH.step h121 q122
theorem q120 : QH 120 := QH.step h120 q121
theorem q119 : QH 119 := QH.step h119 q120
theorem q118 : QH 118 := QH.step h118 q119
theorem q117 : QH 117 := QH.step h117 q118
theorem q116 : QH 116 := QH.step h116 q117
theorem q115 : QH 115 := QH.step h115 q116
theorem q114 : QH 114 := QH.step h114 q115
theorem q113 : QH 113 := QH.step h113 q114
theorem q112 : QH 112 := QH.step h112 q113
theorem q111 : QH 111 := QH.step h111 q112
theorem q110 : QH 110 := QH.step h110 q111
theorem q109 : QH 109 := QH.step h109 q110
theorem q108 : QH 108 := QH.step h108 q109
theorem q107 : QH 107 := QH.step h107 q108
theorem q106 : QH 106 := QH.step h106 q107
theorem q105 : QH 105 := QH.step h105 q106
theorem q104 : QH 104 := QH.step h104 q105
theorem q103 : QH 103 := QH.step h103 q104
theorem q102 : QH 102 := QH.step h102 q103
theorem q101 : QH 101 := QH.step h101 q102
theorem q100 : QH 100 := QH.step h100 q101
theorem q99 : QH 99 := QH.step h99 q100
theorem q98 : QH 98 := QH.step h98 q99
theorem q97 : QH 97 := QH.step h97 q98
theorem q96 : QH 96 := QH.step h96 q97
theorem q95 : QH 95 := QH.step h95 q96
theorem q94 : QH 94 := QH.step h94 q95
theorem q93 : QH 93 := QH.step h93 q94
theorem q92 : QH 92 := QH.step h92 q93
theorem q91 : QH 91 := QH.step h91 q92
theorem q90 : QH 90 := QH.step h90 q91
theorem q89 : QH 89 := QH.step h89 q90
theorem q88 : QH 88 := QH.step h88 q89
theorem q87 : QH 87 := QH.step h87 q88
theorem q86 : QH 86 := QH.step h86 q87
theorem q85 : QH 85 := QH.step h85 q86
theorem q84 : QH 84 := QH.step h84 q85
theorem q83 : QH 83 := QH.step h83 q84
theorem q82 : QH 82 := QH.step h82 q83
theorem q81 : QH 81 := QH.step h81 q82
theorem q80 : QH 80 := QH.step h80 q81
theorem q79 : QH 79 := QH.step h79 q80
theorem q78 : QH 78 := QH.step h78 q79
theorem q77 : QH 77 := QH.step h77 q78
theorem q76 : QH 76 := QH.step h76 q77
theorem q75 : QH 75 := QH.step h75 q76
theorem q74 : QH 74 := QH.step h74 q75
theorem q73 : QH 73 := QH.step h73 q74
theorem q72 : QH 72 := QH.step h72 q73
theorem q71 : QH 71 := QH.step h71 q72
theorem q70 : QH 70 := QH.step h70 q71
theorem q69 : QH 69 := QH.step h69 q70
theorem q68 : QH 68 := QH.step h68 q69
theorem q67 : QH 67 := QH.step h67 q68
theorem q66 : QH 66 := QH.step h66 q67
theorem q65 : QH 65 := QH.step h65 q66
theorem q64 : QH 64 := QH.step h64 q65
theorem q63 : QH 63 := QH.step h63 q64
theorem q62 : QH 62 := QH.step h62 q63
theorem q61 : QH 61 := QH.step h61 q62
theorem q60 : QH 60 := QH.step h60 q61
theorem q59 : QH 59 := QH.step h59 q60
theorem q58 : QH 58 := QH.step h58 q59
theorem q57 : QH 57 := QH.step h57 q58
theorem q56 : QH 56 := QH.step h56 q57
theorem q55 : QH 55 := QH.step h55 q56
theorem q54 : QH 54 := QH.step h54 q55
theorem q53 : QH 53 := QH.step h53 q54
theorem q52 : QH 52 := QH.step h52 q53
theorem q51 : QH 51 := QH.step h51 q52
theorem q50 : QH 50 := QH.step h50 q51
theorem q49 : QH 49 := QH.step h49 q50
theorem q48 : QH 48 := QH.step h48 q49
theorem q47 : QH 47 := QH.step h47 q48
theorem q46 : QH 46 := QH.step h46 q47
theorem q45 : QH 45 := QH.step h45 q46
theorem q44 : QH 44 := QH.step h44 q45
theorem q43 : QH 43 := QH.step h43 q44
theorem q42 : QH 42 := QH.step h42 q43
theorem q41 : QH 41 := QH.step h41 q42
theorem q40 : QH 40 := QH.step h40 q41
theorem q39 : QH 39 := QH.step h39 q40
theorem q38 : QH 38 := QH.step h38 q39
theorem q37 : QH 37 := QH.step h37 q38
theorem q36 : QH 36 := QH.step h36 q37
theorem q35 : QH 35 := QH.step h35 q36
theorem q34 : QH 34 := QH.step h34 q35
theorem q33 : QH 33 := QH.step h33 q34
theorem q32 : QH 32 := QH.step h32 q33
theorem q31 : QH 31 := QH.step h31 q32
theorem q30 : QH 30 := QH.step h30 q31
theorem q29 : QH 29 := QH.step h29 q30
theorem q28 : QH 28 := QH.step h28 q29
theorem q27 : QH 27 := QH.step h27 q28
theorem q26 : QH 26 := QH.step h26 q27
theorem q25 : QH 25 := QH.step h25 q26
theorem q24 : QH 24 := QH.step h24 q25
theorem q23 : QH 23 := QH.step h23 q24
theorem q22 : QH 22 := QH.step h22 q23
theorem q21 : QH 21 := QH.step h21 q22
theorem q20 : QH 20 := QH.step h20 q21
theorem q19 : QH 19 := QH.step h19 q20
theorem q18 : QH 18 := QH.step h18 q19
theorem q17 : QH 17 := QH.step h17 q18
theorem q16 : QH 16 := QH.step h16 q17
theorem q15 : QH 15 := QH.step h15 q16
theorem q14 : QH 14 := QH.step h14 q15
theorem q13 : QH 13 := QH.step h13 q14
theorem q12 : QH 12 := QH.step h12 q13
theorem q11 : QH 11 := QH.step h11 q12
theorem q10 : QH 10 := QH.step h10 q11
theorem q9 : QH 9 := QH.step h9 q10
theorem q8 : QH 8 := QH.step h8 q9
theorem q7 : QH 7 := QH.step h7 q8
theorem q6 : QH 6 := QH.step h6 q7
theorem q5 : QH 5 := QH.step h5 q6
theorem q4 : QH 4 := QH.step h4 q5
theorem q3 : QH 3 := QH.step h3 q4
theorem q2 : QH 2 := QH.step h2 q3
theorem q1 : QH 1 := QH.step h1 q2
theorem PH.val {s : List UInt8} (h : PH s.length) (k : Bool) : fnT CH Try.f4 .bool [⟨.str, s⟩, ⟨.bool, k⟩] = some true := by
  have := h (fun i => s.getD i 0) k
  rw [lst0_self, lst1_eq, lst0_self, kkH_self _ (by simp), kkH_self _ (by simp)] at this
  rw [this]
  cases k <;> rfl
theorem ringHeld_pure (x0 : List UInt8) (w0 : WFv .str x0) (x1 : Bool) (w1 : WFv .bool x1) :
    PureOK Try.prog 4 [⟨.str, x0⟩, ⟨.bool, x1⟩] ⟨.bool, true⟩ := by
  by_cases h : 1 ≤ x0.length ∧ x0.length ≤ 200
  · exact fnT_ok CHOK Try.func4 LH ((q1 _ h.1 h.2).val x1)
  · refine fnT_ok CZOK Try.func4 (LOK.fn LZ) ?_
    rw [z12]
    by_cases h1 : ((x0.length : Nat) : Int) < 1
    · rw [bif_t (decide_eq_true h1)]; rfl
    · rw [bif_f (decide_eq_false h1), bif_t (decide_eq_true (by omega))]; rfl
end Go.Proofs
