/- Merged by program from: LoLR1 LoLR2 LoLR3 LoLR4 LoLR5. -/
import Derived.Test.YtjgebllpigiecaaGreatDoorX4
section
set_option linter.unusedVariables false
set_option linter.unusedSimpArgs false
set_option maxRecDepth 1000000
set_option linter.unusedVariables false
namespace Go.AM.L
noncomputable def shell_many.r (bd : B3) (call : FuncId → List V → Heap → Option R) (n : Nat) (v0 : V) (H : Heap) : Option R :=
 (bd (arA .eql v0 (.str [109, 111, 118, 101])) fun t5_1 =>
 (bd (asB t5_1) fun b2 =>
 if b2 = true then
 (some ((.int .i64 3), H))
 else
 (bd (arA .eql v0 (.str [111, 112, 101, 110])) fun t7_3 =>
 (bd (asB t7_3) fun b4 =>
 if b4 = true then
 (bd (asB t7_3) fun b5 =>
 if b5 = true then
 (some ((.int .i64 2), H))
 else
 (bd (arA .eql v0 (.str [114, 101, 109, 111, 118, 101])) fun t12_6 =>
 (bd (asB t12_6) fun b7 =>
 if b7 = true then
 (bd (asB t12_6) fun b8 =>
 if b8 = true then
 (some ((.int .i64 1), H))
 else
 (bd (arA .eql v0 (.str [99, 108, 101, 97, 114])) fun t15_9 =>
 (bd (asB t15_9) fun b10 =>
 if b10 = true then
 (bd (asB t15_9) fun b11 =>
 if b11 = true then
 (some ((.int .i64 0), H))
 else
 (some ((.int .i64 (-1)), H)))
 else
 (bd (arA .eql v0 (.str [115, 116, 101, 112])) fun t16_12 =>
 (bd (asB t16_12) fun b13 =>
 if b13 = true then
 (bd (asB t16_12) fun b14 =>
 if b14 = true then
 (some ((.int .i64 0), H))
 else
 (some ((.int .i64 (-1)), H)))
 else
 (bd (arA .eql v0 (.str [115, 105, 116, 101, 115])) fun t17_15 =>
 (bd (asB t17_15) fun b16 =>
 if b16 = true then
 (bd (asB t17_15) fun b17 =>
 if b17 = true then
 (some ((.int .i64 0), H))
 else
 (some ((.int .i64 (-1)), H)))
 else
 (bd (arA .eql v0 (.str [102, 97, 99, 101, 115])) fun t18_18 =>
 (bd (asB t18_18) fun b19 =>
 if b19 = true then
 (bd (asB t18_18) fun b20 =>
 if b20 = true then
 (some ((.int .i64 0), H))
 else
 (some ((.int .i64 (-1)), H)))
 else
 (bd (arA .eql v0 (.str [115, 104, 101, 101, 116, 115])) fun t19_21 =>
 (bd (asB t19_21) fun b22 =>
 if b22 = true then
 (bd (asB t19_21) fun b23 =>
 if b23 = true then
 (some ((.int .i64 0), H))
 else
 (some ((.int .i64 (-1)), H)))
 else
 (bd (arA .eql v0 (.str [114, 101, 112, 111, 114, 116])) fun t20_24 =>
 (bd (asB t20_24) fun b25 =>
 if b25 = true then
 (bd (asB t20_24) fun b26 =>
 if b26 = true then
 (some ((.int .i64 0), H))
 else
 (some ((.int .i64 (-1)), H)))
 else
 (bd (arA .eql v0 (.str [105, 109, 112, 111, 114, 116])) fun t21_27 =>
 (bd (asB t21_27) fun b28 =>
 if b28 = true then
 (bd (asB t21_27) fun b29 =>
 if b29 = true then
 (some ((.int .i64 0), H))
 else
 (some ((.int .i64 (-1)), H)))
 else
 (bd (arA .eql v0 (.str [99, 104, 101, 99, 107])) fun t22_30 =>
 (bd (asB t22_30) fun b31 =>
 if b31 = true then
 (some ((.int .i64 0), H))
 else
 (some ((.int .i64 (-1)), H)))))))))))))))))))
 else
 (bd (arA .eql v0 (.str [114, 117, 110])) fun t13_32 =>
 (bd (asB t13_32) fun b33 =>
 if b33 = true then
 (some ((.int .i64 1), H))
 else
 (bd (arA .eql v0 (.str [99, 108, 101, 97, 114])) fun t15_34 =>
 (bd (asB t15_34) fun b35 =>
 if b35 = true then
 (bd (asB t15_34) fun b36 =>
 if b36 = true then
 (some ((.int .i64 0), H))
 else
 (some ((.int .i64 (-1)), H)))
 else
 (bd (arA .eql v0 (.str [115, 116, 101, 112])) fun t16_37 =>
 (bd (asB t16_37) fun b38 =>
 if b38 = true then
 (bd (asB t16_37) fun b39 =>
 if b39 = true then
 (some ((.int .i64 0), H))
 else
 (some ((.int .i64 (-1)), H)))
 else
 (bd (arA .eql v0 (.str [115, 105, 116, 101, 115])) fun t17_40 =>
 (bd (asB t17_40) fun b41 =>
 if b41 = true then
 (bd (asB t17_40) fun b42 =>
 if b42 = true then
 (some ((.int .i64 0), H))
 else
 (some ((.int .i64 (-1)), H)))
 else
 (bd (arA .eql v0 (.str [102, 97, 99, 101, 115])) fun t18_43 =>
 (bd (asB t18_43) fun b44 =>
 if b44 = true then
 (bd (asB t18_43) fun b45 =>
 if b45 = true then
 (some ((.int .i64 0), H))
 else
 (some ((.int .i64 (-1)), H)))
 else
 (bd (arA .eql v0 (.str [115, 104, 101, 101, 116, 115])) fun t19_46 =>
 (bd (asB t19_46) fun b47 =>
 if b47 = true then
 (bd (asB t19_46) fun b48 =>
 if b48 = true then
 (some ((.int .i64 0), H))
 else
 (some ((.int .i64 (-1)), H)))
 else
 (bd (arA .eql v0 (.str [114, 101, 112, 111, 114, 116])) fun t20_49 =>
 (bd (asB t20_49) fun b50 =>
 if b50 = true then
 (bd (asB t20_49) fun b51 =>
 if b51 = true then
 (some ((.int .i64 0), H))
 else
 (some ((.int .i64 (-1)), H)))
 else
 (bd (arA .eql v0 (.str [105, 109, 112, 111, 114, 116])) fun t21_52 =>
 (bd (asB t21_52) fun b53 =>
 if b53 = true then
 (bd (asB t21_52) fun b54 =>
 if b54 = true then
 (some ((.int .i64 0), H))
 else
 (some ((.int .i64 (-1)), H)))
 else
 (bd (arA .eql v0 (.str [99, 104, 101, 99, 107])) fun t22_55 =>
 (bd (asB t22_55) fun b56 =>
 if b56 = true then
 (some ((.int .i64 0), H))
 else
 (some ((.int .i64 (-1)), H)))))))))))))))))))))))
 else
 (bd (arA .eql v0 (.str [105, 110, 115, 101, 114, 116])) fun t8_57 =>
 (bd (asB t8_57) fun b58 =>
 if b58 = true then
 (bd (asB t8_57) fun b59 =>
 if b59 = true then
 (some ((.int .i64 2), H))
 else
 (bd (arA .eql v0 (.str [114, 101, 109, 111, 118, 101])) fun t12_60 =>
 (bd (asB t12_60) fun b61 =>
 if b61 = true then
 (bd (asB t12_60) fun b62 =>
 if b62 = true then
 (some ((.int .i64 1), H))
 else
 (bd (arA .eql v0 (.str [99, 108, 101, 97, 114])) fun t15_63 =>
 (bd (asB t15_63) fun b64 =>
 if b64 = true then
 (bd (asB t15_63) fun b65 =>
 if b65 = true then
 (some ((.int .i64 0), H))
 else
 (some ((.int .i64 (-1)), H)))
 else
 (bd (arA .eql v0 (.str [115, 116, 101, 112])) fun t16_66 =>
 (bd (asB t16_66) fun b67 =>
 if b67 = true then
 (bd (asB t16_66) fun b68 =>
 if b68 = true then
 (some ((.int .i64 0), H))
 else
 (some ((.int .i64 (-1)), H)))
 else
 (bd (arA .eql v0 (.str [115, 105, 116, 101, 115])) fun t17_69 =>
 (bd (asB t17_69) fun b70 =>
 if b70 = true then
 (bd (asB t17_69) fun b71 =>
 if b71 = true then
 (some ((.int .i64 0), H))
 else
 (some ((.int .i64 (-1)), H)))
 else
 (bd (arA .eql v0 (.str [102, 97, 99, 101, 115])) fun t18_72 =>
 (bd (asB t18_72) fun b73 =>
 if b73 = true then
 (bd (asB t18_72) fun b74 =>
 if b74 = true then
 (some ((.int .i64 0), H))
 else
 (some ((.int .i64 (-1)), H)))
 else
 (bd (arA .eql v0 (.str [115, 104, 101, 101, 116, 115])) fun t19_75 =>
 (bd (asB t19_75) fun b76 =>
 if b76 = true then
 (bd (asB t19_75) fun b77 =>
 if b77 = true then
 (some ((.int .i64 0), H))
 else
 (some ((.int .i64 (-1)), H)))
 else
 (bd (arA .eql v0 (.str [114, 101, 112, 111, 114, 116])) fun t20_78 =>
 (bd (asB t20_78) fun b79 =>
 if b79 = true then
 (bd (asB t20_78) fun b80 =>
 if b80 = true then
 (some ((.int .i64 0), H))
 else
 (some ((.int .i64 (-1)), H)))
 else
 (bd (arA .eql v0 (.str [105, 109, 112, 111, 114, 116])) fun t21_81 =>
 (bd (asB t21_81) fun b82 =>
 if b82 = true then
 (bd (asB t21_81) fun b83 =>
 if b83 = true then
 (some ((.int .i64 0), H))
 else
 (some ((.int .i64 (-1)), H)))
 else
 (bd (arA .eql v0 (.str [99, 104, 101, 99, 107])) fun t22_84 =>
 (bd (asB t22_84) fun b85 =>
 if b85 = true then
 (some ((.int .i64 0), H))
 else
 (some ((.int .i64 (-1)), H)))))))))))))))))))
 else
 (bd (arA .eql v0 (.str [114, 117, 110])) fun t13_86 =>
 (bd (asB t13_86) fun b87 =>
 if b87 = true then
 (some ((.int .i64 1), H))
 else
 (bd (arA .eql v0 (.str [99, 108, 101, 97, 114])) fun t15_88 =>
 (bd (asB t15_88) fun b89 =>
 if b89 = true then
 (bd (asB t15_88) fun b90 =>
 if b90 = true then
 (some ((.int .i64 0), H))
 else
 (some ((.int .i64 (-1)), H)))
 else
 (bd (arA .eql v0 (.str [115, 116, 101, 112])) fun t16_91 =>
 (bd (asB t16_91) fun b92 =>
 if b92 = true then
 (bd (asB t16_91) fun b93 =>
 if b93 = true then
 (some ((.int .i64 0), H))
 else
 (some ((.int .i64 (-1)), H)))
 else
 (bd (arA .eql v0 (.str [115, 105, 116, 101, 115])) fun t17_94 =>
 (bd (asB t17_94) fun b95 =>
 if b95 = true then
 (bd (asB t17_94) fun b96 =>
 if b96 = true then
 (some ((.int .i64 0), H))
 else
 (some ((.int .i64 (-1)), H)))
 else
 (bd (arA .eql v0 (.str [102, 97, 99, 101, 115])) fun t18_97 =>
 (bd (asB t18_97) fun b98 =>
 if b98 = true then
 (bd (asB t18_97) fun b99 =>
 if b99 = true then
 (some ((.int .i64 0), H))
 else
 (some ((.int .i64 (-1)), H)))
 else
 (bd (arA .eql v0 (.str [115, 104, 101, 101, 116, 115])) fun t19_100 =>
 (bd (asB t19_100) fun b101 =>
 if b101 = true then
 (bd (asB t19_100) fun b102 =>
 if b102 = true then
 (some ((.int .i64 0), H))
 else
 (some ((.int .i64 (-1)), H)))
 else
 (bd (arA .eql v0 (.str [114, 101, 112, 111, 114, 116])) fun t20_103 =>
 (bd (asB t20_103) fun b104 =>
 if b104 = true then
 (bd (asB t20_103) fun b105 =>
 if b105 = true then
 (some ((.int .i64 0), H))
 else
 (some ((.int .i64 (-1)), H)))
 else
 (bd (arA .eql v0 (.str [105, 109, 112, 111, 114, 116])) fun t21_106 =>
 (bd (asB t21_106) fun b107 =>
 if b107 = true then
 (bd (asB t21_106) fun b108 =>
 if b108 = true then
 (some ((.int .i64 0), H))
 else
 (some ((.int .i64 (-1)), H)))
 else
 (bd (arA .eql v0 (.str [99, 104, 101, 99, 107])) fun t22_109 =>
 (bd (asB t22_109) fun b110 =>
 if b110 = true then
 (some ((.int .i64 0), H))
 else
 (some ((.int .i64 (-1)), H)))))))))))))))))))))))
 else
 (bd (arA .eql v0 (.str [101, 120, 112, 111, 114, 116])) fun t9_111 =>
 (bd (asB t9_111) fun b112 =>
 if b112 = true then
 (bd (asB t9_111) fun b113 =>
 if b113 = true then
 (some ((.int .i64 2), H))
 else
 (bd (arA .eql v0 (.str [114, 101, 109, 111, 118, 101])) fun t12_114 =>
 (bd (asB t12_114) fun b115 =>
 if b115 = true then
 (bd (asB t12_114) fun b116 =>
 if b116 = true then
 (some ((.int .i64 1), H))
 else
 (bd (arA .eql v0 (.str [99, 108, 101, 97, 114])) fun t15_117 =>
 (bd (asB t15_117) fun b118 =>
 if b118 = true then
 (bd (asB t15_117) fun b119 =>
 if b119 = true then
 (some ((.int .i64 0), H))
 else
 (some ((.int .i64 (-1)), H)))
 else
 (bd (arA .eql v0 (.str [115, 116, 101, 112])) fun t16_120 =>
 (bd (asB t16_120) fun b121 =>
 if b121 = true then
 (bd (asB t16_120) fun b122 =>
 if b122 = true then
 (some ((.int .i64 0), H))
 else
 (some ((.int .i64 (-1)), H)))
 else
 (bd (arA .eql v0 (.str [115, 105, 116, 101, 115])) fun t17_123 =>
 (bd (asB t17_123) fun b124 =>
 if b124 = true then
 (bd (asB t17_123) fun b125 =>
 if b125 = true then
 (some ((.int .i64 0), H))
 else
 (some ((.int .i64 (-1)), H)))
 else
 (bd (arA .eql v0 (.str [102, 97, 99, 101, 115])) fun t18_126 =>
 (bd (asB t18_126) fun b127 =>
 if b127 = true then
 (bd (asB t18_126) fun b128 =>
 if b128 = true then
 (some ((.int .i64 0), H))
 else
 (some ((.int .i64 (-1)), H)))
 else
 (bd (arA .eql v0 (.str [115, 104, 101, 101, 116, 115])) fun t19_129 =>
 (bd (asB t19_129) fun b130 =>
 if b130 = true then
 (bd (asB t19_129) fun b131 =>
 if b131 = true then
 (some ((.int .i64 0), H))
 else
 (some ((.int .i64 (-1)), H)))
 else
 (bd (arA .eql v0 (.str [114, 101, 112, 111, 114, 116])) fun t20_132 =>
 (bd (asB t20_132) fun b133 =>
 if b133 = true then
 (bd (asB t20_132) fun b134 =>
 if b134 = true then
 (some ((.int .i64 0), H))
 else
 (some ((.int .i64 (-1)), H)))
 else
 (bd (arA .eql v0 (.str [105, 109, 112, 111, 114, 116])) fun t21_135 =>
 (bd (asB t21_135) fun b136 =>
 if b136 = true then
 (bd (asB t21_135) fun b137 =>
 if b137 = true then
 (some ((.int .i64 0), H))
 else
 (some ((.int .i64 (-1)), H)))
 else
 (bd (arA .eql v0 (.str [99, 104, 101, 99, 107])) fun t22_138 =>
 (bd (asB t22_138) fun b139 =>
 if b139 = true then
 (some ((.int .i64 0), H))
 else
 (some ((.int .i64 (-1)), H)))))))))))))))))))
 else
 (bd (arA .eql v0 (.str [114, 117, 110])) fun t13_140 =>
 (bd (asB t13_140) fun b141 =>
 if b141 = true then
 (some ((.int .i64 1), H))
 else
 (bd (arA .eql v0 (.str [99, 108, 101, 97, 114])) fun t15_142 =>
 (bd (asB t15_142) fun b143 =>
 if b143 = true then
 (bd (asB t15_142) fun b144 =>
 if b144 = true then
 (some ((.int .i64 0), H))
 else
 (some ((.int .i64 (-1)), H)))
 else
 (bd (arA .eql v0 (.str [115, 116, 101, 112])) fun t16_145 =>
 (bd (asB t16_145) fun b146 =>
 if b146 = true then
 (bd (asB t16_145) fun b147 =>
 if b147 = true then
 (some ((.int .i64 0), H))
 else
 (some ((.int .i64 (-1)), H)))
 else
 (bd (arA .eql v0 (.str [115, 105, 116, 101, 115])) fun t17_148 =>
 (bd (asB t17_148) fun b149 =>
 if b149 = true then
 (bd (asB t17_148) fun b150 =>
 if b150 = true then
 (some ((.int .i64 0), H))
 else
 (some ((.int .i64 (-1)), H)))
 else
 (bd (arA .eql v0 (.str [102, 97, 99, 101, 115])) fun t18_151 =>
 (bd (asB t18_151) fun b152 =>
 if b152 = true then
 (bd (asB t18_151) fun b153 =>
 if b153 = true then
 (some ((.int .i64 0), H))
 else
 (some ((.int .i64 (-1)), H)))
 else
 (bd (arA .eql v0 (.str [115, 104, 101, 101, 116, 115])) fun t19_154 =>
 (bd (asB t19_154) fun b155 =>
 if b155 = true then
 (bd (asB t19_154) fun b156 =>
 if b156 = true then
 (some ((.int .i64 0), H))
 else
 (some ((.int .i64 (-1)), H)))
 else
 (bd (arA .eql v0 (.str [114, 101, 112, 111, 114, 116])) fun t20_157 =>
 (bd (asB t20_157) fun b158 =>
 if b158 = true then
 (bd (asB t20_157) fun b159 =>
 if b159 = true then
 (some ((.int .i64 0), H))
 else
 (some ((.int .i64 (-1)), H)))
 else
 (bd (arA .eql v0 (.str [105, 109, 112, 111, 114, 116])) fun t21_160 =>
 (bd (asB t21_160) fun b161 =>
 if b161 = true then
 (bd (asB t21_160) fun b162 =>
 if b162 = true then
 (some ((.int .i64 0), H))
 else
 (some ((.int .i64 (-1)), H)))
 else
 (bd (arA .eql v0 (.str [99, 104, 101, 99, 107])) fun t22_163 =>
 (bd (asB t22_163) fun b164 =>
 if b164 = true then
 (some ((.int .i64 0), H))
 else
 (some ((.int .i64 (-1)), H)))))))))))))))))))))))
 else
 (bd (arA .eql v0 (.str [110, 101, 97, 114])) fun t10_165 =>
 (bd (asB t10_165) fun b166 =>
 if b166 = true then
 (some ((.int .i64 2), H))
 else
 (bd (arA .eql v0 (.str [114, 101, 109, 111, 118, 101])) fun t12_167 =>
 (bd (asB t12_167) fun b168 =>
 if b168 = true then
 (bd (asB t12_167) fun b169 =>
 if b169 = true then
 (some ((.int .i64 1), H))
 else
 (bd (arA .eql v0 (.str [99, 108, 101, 97, 114])) fun t15_170 =>
 (bd (asB t15_170) fun b171 =>
 if b171 = true then
 (bd (asB t15_170) fun b172 =>
 if b172 = true then
 (some ((.int .i64 0), H))
 else
 (some ((.int .i64 (-1)), H)))
 else
 (bd (arA .eql v0 (.str [115, 116, 101, 112])) fun t16_173 =>
 (bd (asB t16_173) fun b174 =>
 if b174 = true then
 (bd (asB t16_173) fun b175 =>
 if b175 = true then
 (some ((.int .i64 0), H))
 else
 (some ((.int .i64 (-1)), H)))
 else
 (bd (arA .eql v0 (.str [115, 105, 116, 101, 115])) fun t17_176 =>
 (bd (asB t17_176) fun b177 =>
 if b177 = true then
 (bd (asB t17_176) fun b178 =>
 if b178 = true then
 (some ((.int .i64 0), H))
 else
 (some ((.int .i64 (-1)), H)))
 else
 (bd (arA .eql v0 (.str [102, 97, 99, 101, 115])) fun t18_179 =>
 (bd (asB t18_179) fun b180 =>
 if b180 = true then
 (bd (asB t18_179) fun b181 =>
 if b181 = true then
 (some ((.int .i64 0), H))
 else
 (some ((.int .i64 (-1)), H)))
 else
 (bd (arA .eql v0 (.str [115, 104, 101, 101, 116, 115])) fun t19_182 =>
 (bd (asB t19_182) fun b183 =>
 if b183 = true then
 (bd (asB t19_182) fun b184 =>
 if b184 = true then
 (some ((.int .i64 0), H))
 else
 (some ((.int .i64 (-1)), H)))
 else
 (bd (arA .eql v0 (.str [114, 101, 112, 111, 114, 116])) fun t20_185 =>
 (bd (asB t20_185) fun b186 =>
 if b186 = true then
 (bd (asB t20_185) fun b187 =>
 if b187 = true then
 (some ((.int .i64 0), H))
 else
 (some ((.int .i64 (-1)), H)))
 else
 (bd (arA .eql v0 (.str [105, 109, 112, 111, 114, 116])) fun t21_188 =>
 (bd (asB t21_188) fun b189 =>
 if b189 = true then
 (bd (asB t21_188) fun b190 =>
 if b190 = true then
 (some ((.int .i64 0), H))
 else
 (some ((.int .i64 (-1)), H)))
 else
 (bd (arA .eql v0 (.str [99, 104, 101, 99, 107])) fun t22_191 =>
 (bd (asB t22_191) fun b192 =>
 if b192 = true then
 (some ((.int .i64 0), H))
 else
 (some ((.int .i64 (-1)), H)))))))))))))))))))
 else
 (bd (arA .eql v0 (.str [114, 117, 110])) fun t13_193 =>
 (bd (asB t13_193) fun b194 =>
 if b194 = true then
 (some ((.int .i64 1), H))
 else
 (bd (arA .eql v0 (.str [99, 108, 101, 97, 114])) fun t15_195 =>
 (bd (asB t15_195) fun b196 =>
 if b196 = true then
 (bd (asB t15_195) fun b197 =>
 if b197 = true then
 (some ((.int .i64 0), H))
 else
 (some ((.int .i64 (-1)), H)))
 else
 (bd (arA .eql v0 (.str [115, 116, 101, 112])) fun t16_198 =>
 (bd (asB t16_198) fun b199 =>
 if b199 = true then
 (bd (asB t16_198) fun b200 =>
 if b200 = true then
 (some ((.int .i64 0), H))
 else
 (some ((.int .i64 (-1)), H)))
 else
 (bd (arA .eql v0 (.str [115, 105, 116, 101, 115])) fun t17_201 =>
 (bd (asB t17_201) fun b202 =>
 if b202 = true then
 (bd (asB t17_201) fun b203 =>
 if b203 = true then
 (some ((.int .i64 0), H))
 else
 (some ((.int .i64 (-1)), H)))
 else
 (bd (arA .eql v0 (.str [102, 97, 99, 101, 115])) fun t18_204 =>
 (bd (asB t18_204) fun b205 =>
 if b205 = true then
 (bd (asB t18_204) fun b206 =>
 if b206 = true then
 (some ((.int .i64 0), H))
 else
 (some ((.int .i64 (-1)), H)))
 else
 (bd (arA .eql v0 (.str [115, 104, 101, 101, 116, 115])) fun t19_207 =>
 (bd (asB t19_207) fun b208 =>
 if b208 = true then
 (bd (asB t19_207) fun b209 =>
 if b209 = true then
 (some ((.int .i64 0), H))
 else
 (some ((.int .i64 (-1)), H)))
 else
 (bd (arA .eql v0 (.str [114, 101, 112, 111, 114, 116])) fun t20_210 =>
 (bd (asB t20_210) fun b211 =>
 if b211 = true then
 (bd (asB t20_210) fun b212 =>
 if b212 = true then
 (some ((.int .i64 0), H))
 else
 (some ((.int .i64 (-1)), H)))
 else
 (bd (arA .eql v0 (.str [105, 109, 112, 111, 114, 116])) fun t21_213 =>
 (bd (asB t21_213) fun b214 =>
 if b214 = true then
 (bd (asB t21_213) fun b215 =>
 if b215 = true then
 (some ((.int .i64 0), H))
 else
 (some ((.int .i64 (-1)), H)))
 else
 (bd (arA .eql v0 (.str [99, 104, 101, 99, 107])) fun t22_216 =>
 (bd (asB t22_216) fun b217 =>
 if b217 = true then
 (some ((.int .i64 0), H))
 else
 (some ((.int .i64 (-1)), H))))))))))))))))))))))))))))))))
theorem shell_many.r_e (n : Nat) (v0 : V) (H : Heap) : shell_many.r @bdI (callA C n) n v0 H = E C n 14 [] (argsA 0 [v0]) H (kR C 14) := by
  unfold shell_many.r
  kernel_rfl
noncomputable def shell_many.rf (bd : B3) (call : FuncId → List V → Heap → Option R) (n : Nat) (a : List V) (H : Heap) : Option R := pureA a H fun a => (match a with | [v0] => shell_many.r bd call n v0 ⟨0, .nil⟩ | a => E C n 14 [] (argsA 0 a) ⟨0, .nil⟩ (kR C 14))
theorem shell_many.rf_b (n : Nat) (a : List V) (H : Heap) : (match a with | [v0] => shell_many.r @bdI (callA C n) n v0 H | a => E C n 14 [] (argsA 0 a) H (kR C 14)) = E C n 14 [] (argsA 0 a) H (kR C 14) := by
  split
  · exact shell_many.r_e n _ H
  · rfl
theorem shell_many.rf_e (n : Nat) (a : List V) (H : Heap) : shell_many.rf @bdI (callA C n) n a H = callA C (n + 1) 14 a H := by
  unfold shell_many.rf
  refine (congrArg (pureA a H) (funext fun a => shell_many.rf_b n a ⟨0, .nil⟩)).trans ?_
  kernel_rfl
noncomputable def shell_shell_put.r (bd : B3) (call : FuncId → List V → Heap → Option R) (n : Nat) (v0 v1 : V) (H : Heap) : Option R :=
 (bd (call 30 [v1, (.str [32])] (H.more 0)) fun r1 =>
 (bd (nilC v0) fun t5_2 =>
 (bd (faA 0 t5_2) fun t6_3 =>
 (bd (arA .add r1.1 (.str [10])) fun t9_4 =>
 (bd (call 29 [t6_3, t9_4] r1.2) fun r5 =>
 (some (.tuple [], r5.2)))))))
theorem shell_shell_put.r_e (n : Nat) (v0 v1 : V) (H : Heap) : shell_shell_put.r @bdI (callA C n) n v0 v1 H = E C n 15 [] (argsA 0 [v0, v1]) H (kR C 15) := by
  unfold shell_shell_put.r
  kernel_rfl
noncomputable def shell_shell_put.rf (bd : B3) (call : FuncId → List V → Heap → Option R) (n : Nat) (a : List V) (H : Heap) : Option R := inA true a H fun a H => (match a with | [v0, v1] => shell_shell_put.r bd call n v0 v1 H | a => E C n 15 [] (argsA 0 a) H (kR C 15))
theorem shell_shell_put.rf_b (n : Nat) (a : List V) (H : Heap) : (match a with | [v0, v1] => shell_shell_put.r @bdI (callA C n) n v0 v1 H | a => E C n 15 [] (argsA 0 a) H (kR C 15)) = E C n 15 [] (argsA 0 a) H (kR C 15) := by
  split
  · exact shell_shell_put.r_e n _ _ H
  · rfl
theorem shell_shell_put.rf_e (n : Nat) (a : List V) (H : Heap) : shell_shell_put.rf @bdI (callA C n) n a H = callA C (n + 1) 15 a H := by
  unfold shell_shell_put.rf
  refine (congrArg (inA true a H) (funext fun a => funext fun H => shell_shell_put.rf_b n a H)).trans ?_
  kernel_rfl
noncomputable def shell_shell_does.r (bd : B3) (call : FuncId → List V → Heap → Option R) (n : Nat) (v0 v1 v2 : V) (H : Heap) : Option R :=
 (bd (arA .eql v1 (.str [111, 112, 101, 110])) fun t8_1 =>
 (bd (asB t8_1) fun b2 =>
 if b2 = true then
 (bd (call 31 [v0, v2] H) fun r3 =>
 (some (.tuple [], r3.2)))
 else
 (bd (nilC v0) fun t14_4 =>
 (bd (faA 2 t14_4) fun t15_5 =>
 (bd (ld1 t15_5 H) fun t16_6 =>
 (bd (eqlA P ty_p_session_Session t16_6 (.ptr none)) fun t17_7 =>
 (bd (asB t17_7) fun b8 =>
 if b8 = true then
 (bd (arA .eql v1 (.str [105, 109, 112, 111, 114, 116])) fun t20_9 =>
 (bd (asB t20_9) fun b10 =>
 if b10 = true then
 (bd (call 32 [v0] H) fun r11 =>
 (bd (bSl 1 ty_string [(.str [])] 1 [(0, (.str [110, 111, 32, 115, 101, 115, 115, 105, 111, 110]))]) fun o12 =>
 (bd (call 15 [v0, (.slice ⟨some (r11.2.n, 0), 1, 1, false⟩)] (r11.2.push o12)) fun r13 =>
 (some (.tuple [], r13.2)))))
 else
 (bd (arA .eql v1 (.str [99, 104, 101, 99, 107])) fun t23_14 =>
 (bd (asB t23_14) fun b15 =>
 if b15 = true then
 (bd (call 32 [v0] H) fun r16 =>
 (bd (bSl 1 ty_string [(.str [])] 1 [(0, (.str [110, 111, 32, 115, 101, 115, 115, 105, 111, 110]))]) fun o17 =>
 (bd (call 15 [v0, (.slice ⟨some (r16.2.n, 0), 1, 1, false⟩)] (r16.2.push o17)) fun r18 =>
 (some (.tuple [], r18.2)))))
 else
 (bd (nilC v0) fun t33_19 =>
 (bd (faA 2 t33_19) fun t34_20 =>
 (bd (ld1 t34_20 H) fun t35_21 =>
 (bd (eqlA P ty_p_session_Session t35_21 (.ptr none)) fun t36_22 =>
 (bd (asB t36_22) fun b23 =>
 if b23 = true then
 (bd (bSl 1 ty_string [(.str [])] 1 [(0, (.str [110, 111, 32, 115, 101, 115, 115, 105, 111, 110]))]) fun o24 =>
 (bd (call 15 [v0, (.slice ⟨some (H.n, 0), 1, 1, false⟩)] (H.push o24)) fun r25 =>
 (some (.tuple [], r25.2))))
 else
 (bd (arA .eql v1 (.str [105, 109, 112, 111, 114, 116])) fun t42_26 =>
 (bd (asB t42_26) fun b27 =>
 if b27 = true then
 (bd (call 33 [v0, (.int .i64 9)] H) fun r28 =>
 (some (.tuple [], r28.2)))
 else
 (bd (arA .eql v1 (.str [99, 104, 101, 99, 107])) fun t47_29 =>
 (bd (asB t47_29) fun b30 =>
 if b30 = true then
 (bd (call 33 [v0, (.int .i64 8)] H) fun r31 =>
 (some (.tuple [], r31.2)))
 else
 (bd (call 34 [v0, v1, v2] H) fun r32 =>
 (bd (unA .not r32.1) fun t55_33 =>
 (bd (asB t55_33) fun b34 =>
 if b34 = true then
 (bd (call 35 [v0, v1, v2] r32.2) fun r35 =>
 (some (.tuple [], r35.2)))
 else
 (some (.tuple [], r32.2))))))))))))))))))
 else
 (bd (nilC v0) fun t33_36 =>
 (bd (faA 2 t33_36) fun t34_37 =>
 (bd (ld1 t34_37 H) fun t35_38 =>
 (bd (eqlA P ty_p_session_Session t35_38 (.ptr none)) fun t36_39 =>
 (bd (asB t36_39) fun b40 =>
 if b40 = true then
 (bd (bSl 1 ty_string [(.str [])] 1 [(0, (.str [110, 111, 32, 115, 101, 115, 115, 105, 111, 110]))]) fun o41 =>
 (bd (call 15 [v0, (.slice ⟨some (H.n, 0), 1, 1, false⟩)] (H.push o41)) fun r42 =>
 (some (.tuple [], r42.2))))
 else
 (bd (arA .eql v1 (.str [105, 109, 112, 111, 114, 116])) fun t42_43 =>
 (bd (asB t42_43) fun b44 =>
 if b44 = true then
 (bd (call 33 [v0, (.int .i64 9)] H) fun r45 =>
 (some (.tuple [], r45.2)))
 else
 (bd (arA .eql v1 (.str [99, 104, 101, 99, 107])) fun t47_46 =>
 (bd (asB t47_46) fun b47 =>
 if b47 = true then
 (bd (call 33 [v0, (.int .i64 8)] H) fun r48 =>
 (some (.tuple [], r48.2)))
 else
 (bd (call 34 [v0, v1, v2] H) fun r49 =>
 (bd (unA .not r49.1) fun t55_50 =>
 (bd (asB t55_50) fun b51 =>
 if b51 = true then
 (bd (call 35 [v0, v1, v2] r49.2) fun r52 =>
 (some (.tuple [], r52.2)))
 else
 (some (.tuple [], r49.2)))))))))))))))))))))
theorem shell_shell_does.r_e (n : Nat) (v0 v1 v2 : V) (H : Heap) : shell_shell_does.r @bdI (callA C n) n v0 v1 v2 H = E C n 16 [] (argsA 0 [v0, v1, v2]) H (kR C 16) := by
  unfold shell_shell_does.r
  kernel_rfl
noncomputable def shell_shell_does.rf (bd : B3) (call : FuncId → List V → Heap → Option R) (n : Nat) (a : List V) (H : Heap) : Option R := (match a with | [v0, v1, v2] => shell_shell_does.r bd call n v0 v1 v2 H | a => E C n 16 [] (argsA 0 a) H (kR C 16))
theorem shell_shell_does.rf_b (n : Nat) (a : List V) (H : Heap) : (match a with | [v0, v1, v2] => shell_shell_does.r @bdI (callA C n) n v0 v1 v2 H | a => E C n 16 [] (argsA 0 a) H (kR C 16)) = E C n 16 [] (argsA 0 a) H (kR C 16) := by
  split
  · exact shell_shell_does.r_e n _ _ _ H
  · rfl
theorem shell_shell_does.rf_e (n : Nat) (a : List V) (H : Heap) : shell_shell_does.rf @bdI (callA C n) n a H = callA C (n + 1) 16 a H := by
  unfold shell_shell_does.rf
  refine (shell_shell_does.rf_b n a H).trans ?_
  kernel_rfl
@[irreducible] noncomputable def strings_Count.l0 (n m0 : Nat) (v0 v1 v5 : V) (H : Heap) : Option R := Lp C n 18 [1, 1, 1, 1, 0, 0] m0 [(0, v0), (1, v1), (5, v5)] H (kB 0 (kR C 18))
noncomputable def strings_Count.r_l0 (bd : B3) (call : FuncId → List V → Heap → Option R) (n : Nat) (s0 : V → V → V → Heap → Option R) (v0 v1 v5 : V) (H : Heap) : Option R :=
 (bd (call 19 [v0, v1] H) fun r1 =>
 (bd (arA .eql r1.1 (.int .i64 (-1))) fun t24_2 =>
 (bd (asB t24_2) fun b3 =>
 if b3 = true then
 (some (v5, r1.2))
 else
 (bd (arA .add v5 (.int .i64 1)) fun t27_4 =>
 (bd (lenStr v1) fun t31_5 =>
 (bd (arA .add r1.1 t31_5) fun t32_6 =>
 (bd (slStr v0 (some t32_6) none) fun t33_7 =>
 (s0 t33_7 v1 t27_4 r1.2))))))))
theorem strings_Count.r_l0_e (n m0 : Nat) : strings_Count.r_l0 @bdI (callA C n) n (strings_Count.l0 n m0) = strings_Count.l0 n (m0 + 1) := by
  funext v0 v1 v5 H
  unfold strings_Count.r_l0
  kernel_rfl
noncomputable def strings_Count.r_l0_lp (bd : B3) (call : FuncId → List V → Heap → Option R) (n : Nat) (m : Nat) : V → V → V → Heap → Option R := Nat.rec (motive := fun _ => V → V → V → Heap → Option R) (fun _ _ _ _ => none) (fun _ self => strings_Count.r_l0 bd call n self) m
theorem strings_Count.r_l0_lp_e (n : Nat) : strings_Count.r_l0_lp @bdI (callA C n) n = strings_Count.l0 n := by
  funext m
  induction m with
  | zero => funext v0 v1 v5 H; kernel_rfl
  | succ k ih => exact (congrArg (strings_Count.r_l0 @bdI (callA C n) n) ih).trans (strings_Count.r_l0_e n k)
noncomputable def strings_Count.r (bd : B3) (call : FuncId → List V → Heap → Option R) (n : Nat) (v0 v1 : V) (H : Heap) : Option R :=
 (bd (lenStr v1) fun t8_1 =>
 (bd (arA .eql t8_1 (.int .i64 0)) fun t9_2 =>
 (bd (asB t9_2) fun b3 =>
 if b3 = true then
 (bd (call 36 [v0] H) fun r4 =>
 (bd (arA .add r4.1 (.int .i64 1)) fun t12_5 =>
 (some (t12_5, r4.2))))
 else
 (bd (lenStr v1) fun t14_6 =>
 (bd (arA .eql t14_6 (.int .i64 1)) fun t15_7 =>
 (bd (asB t15_7) fun b8 =>
 if b8 = true then
 (bd (ixStr v1 (.int .i64 0)) fun t18_9 =>
 (bd (call 38 [v0, t18_9] H) fun r10 =>
 (some (r10.1, r10.2))))
 else
 (strings_Count.r_l0_lp bd call n n v0 v1 (.int .i64 0) H)))))))
theorem strings_Count.r_e (n : Nat) (v0 v1 : V) (H : Heap) : strings_Count.r @bdI (callA C n) n v0 v1 H = E C n 18 [] (argsA 0 [v0, v1]) H (kR C 18) := by
  unfold strings_Count.r
  rewrite [strings_Count.r_l0_lp_e]
  kernel_rfl
noncomputable def strings_Count.rf (bd : B3) (call : FuncId → List V → Heap → Option R) (n : Nat) (a : List V) (H : Heap) : Option R := (match a with | [v0, v1] => strings_Count.r bd call n v0 v1 H | a => E C n 18 [] (argsA 0 a) H (kR C 18))
theorem strings_Count.rf_b (n : Nat) (a : List V) (H : Heap) : (match a with | [v0, v1] => strings_Count.r @bdI (callA C n) n v0 v1 H | a => E C n 18 [] (argsA 0 a) H (kR C 18)) = E C n 18 [] (argsA 0 a) H (kR C 18) := by
  split
  · exact strings_Count.r_e n _ _ H
  · rfl
theorem strings_Count.rf_e (n : Nat) (a : List V) (H : Heap) : strings_Count.rf @bdI (callA C n) n a H = callA C (n + 1) 18 a H := by
  unfold strings_Count.rf
  refine (strings_Count.rf_b n a H).trans ?_
  kernel_rfl
noncomputable def strings_Index.r (bd : B3) (call : FuncId → List V → Heap → Option R) (n : Nat) (v0 v1 : V) (H : Heap) : Option R :=
 (bd (call 39 [v0, v1] H) fun r1 =>
 (some (r1.1, r1.2)))
theorem strings_Index.r_e (n : Nat) (v0 v1 : V) (H : Heap) : strings_Index.r @bdI (callA C n) n v0 v1 H = E C n 19 [] (argsA 0 [v0, v1]) H (kR C 19) := by
  unfold strings_Index.r
  kernel_rfl
noncomputable def strings_Index.rf (bd : B3) (call : FuncId → List V → Heap → Option R) (n : Nat) (a : List V) (H : Heap) : Option R := (match a with | [v0, v1] => strings_Index.r bd call n v0 v1 H | a => E C n 19 [] (argsA 0 a) H (kR C 19))
theorem strings_Index.rf_b (n : Nat) (a : List V) (H : Heap) : (match a with | [v0, v1] => strings_Index.r @bdI (callA C n) n v0 v1 H | a => E C n 19 [] (argsA 0 a) H (kR C 19)) = E C n 19 [] (argsA 0 a) H (kR C 19) := by
  split
  · exact strings_Index.r_e n _ _ H
  · rfl
theorem strings_Index.rf_e (n : Nat) (a : List V) (H : Heap) : strings_Index.rf @bdI (callA C n) n a H = callA C (n + 1) 19 a H := by
  unfold strings_Index.rf
  refine (strings_Index.rf_b n a H).trans ?_
  kernel_rfl
noncomputable def internal_stringslite_HasSuffix.r (bd : B3) (call : FuncId → List V → Heap → Option R) (n : Nat) (v0 v1 : V) (H : Heap) : Option R :=
 (bd (lenStr v0) fun t6_1 =>
 (bd (lenStr v1) fun t8_2 =>
 (bd (arA .geq t6_1 t8_2) fun t9_3 =>
 (bd (asB t9_3) fun b4 =>
 if b4 = true then
 (bd (lenStr v0) fun t13_5 =>
 (bd (lenStr v1) fun t15_6 =>
 (bd (arA .sub t13_5 t15_6) fun t16_7 =>
 (bd (slStr v0 (some t16_7) none) fun t17_8 =>
 (bd (arA .eql t17_8 v1) fun t19_9 =>
 (some (t19_9, H)))))))
 else
 (some ((.bool false), H))))))
theorem internal_stringslite_HasSuffix.r_e (n : Nat) (v0 v1 : V) (H : Heap) : internal_stringslite_HasSuffix.r @bdI (callA C n) n v0 v1 H = E C n 20 [] (argsA 0 [v0, v1]) H (kR C 20) := by
  unfold internal_stringslite_HasSuffix.r
  kernel_rfl
noncomputable def internal_stringslite_HasSuffix.rf (bd : B3) (call : FuncId → List V → Heap → Option R) (n : Nat) (a : List V) (H : Heap) : Option R := (match a with | [v0, v1] => internal_stringslite_HasSuffix.r bd call n v0 v1 H | a => E C n 20 [] (argsA 0 a) H (kR C 20))
theorem internal_stringslite_HasSuffix.rf_b (n : Nat) (a : List V) (H : Heap) : (match a with | [v0, v1] => internal_stringslite_HasSuffix.r @bdI (callA C n) n v0 v1 H | a => E C n 20 [] (argsA 0 a) H (kR C 20)) = E C n 20 [] (argsA 0 a) H (kR C 20) := by
  split
  · exact internal_stringslite_HasSuffix.r_e n _ _ H
  · rfl
theorem internal_stringslite_HasSuffix.rf_e (n : Nat) (a : List V) (H : Heap) : internal_stringslite_HasSuffix.rf @bdI (callA C n) n a H = callA C (n + 1) 20 a H := by
  unfold internal_stringslite_HasSuffix.rf
  refine (internal_stringslite_HasSuffix.rf_b n a H).trans ?_
  kernel_rfl
@[irreducible] noncomputable def strings_trimLeftByte.l0 (n m0 : Nat) (v0 v1 : V) (H : Heap) : Option R := Lp C n 21 [1, 0, 0, 0] m0 [(0, v0), (1, v1)] H (kB 0 (kC C n 21 [1, 1] (kR C 21)))
noncomputable def strings_trimLeftByte.r_l0 (bd : B3) (call : FuncId → List V → Heap → Option R) (n : Nat) (s0 : V → V → Heap → Option R) (v0 v1 : V) (H : Heap) : Option R :=
 (bd (lenStr v0) fun t6_1 =>
 (bd (arA .gtr t6_1 (.int .i64 0)) fun t7_2 =>
 (bd (asB t7_2) fun b3 =>
 if b3 = true then
 (bd (ixStr v0 (.int .i64 0)) fun t10_4 =>
 (bd (arA .eql t10_4 v1) fun t12_5 =>
 (bd (asB t12_5) fun b6 =>
 if b6 = true then
 (bd (slStr v0 (some (.int .i64 1)) none) fun t15_7 =>
 (s0 t15_7 v1 H))
 else
 (some (v0, H)))))
 else
 (some (v0, H)))))
theorem strings_trimLeftByte.r_l0_e (n m0 : Nat) : strings_trimLeftByte.r_l0 @bdI (callA C n) n (strings_trimLeftByte.l0 n m0) = strings_trimLeftByte.l0 n (m0 + 1) := by
  funext v0 v1 H
  unfold strings_trimLeftByte.r_l0
  kernel_rfl
noncomputable def strings_trimLeftByte.r_l0_lp (bd : B3) (call : FuncId → List V → Heap → Option R) (n : Nat) (m : Nat) : V → V → Heap → Option R := Nat.rec (motive := fun _ => V → V → Heap → Option R) (fun _ _ _ => none) (fun _ self => strings_trimLeftByte.r_l0 bd call n self) m
theorem strings_trimLeftByte.r_l0_lp_e (n : Nat) : strings_trimLeftByte.r_l0_lp @bdI (callA C n) n = strings_trimLeftByte.l0 n := by
  funext m
  induction m with
  | zero => funext v0 v1 H; kernel_rfl
  | succ k ih => exact (congrArg (strings_trimLeftByte.r_l0 @bdI (callA C n) n) ih).trans (strings_trimLeftByte.r_l0_e n k)
noncomputable def strings_trimLeftByte.r (bd : B3) (call : FuncId → List V → Heap → Option R) (n : Nat) (v0 v1 : V) (H : Heap) : Option R :=
 (strings_trimLeftByte.r_l0_lp bd call n n v0 v1 H)
theorem strings_trimLeftByte.r_e (n : Nat) (v0 v1 : V) (H : Heap) : strings_trimLeftByte.r @bdI (callA C n) n v0 v1 H = E C n 21 [] (argsA 0 [v0, v1]) H (kR C 21) := by
  unfold strings_trimLeftByte.r
  rewrite [strings_trimLeftByte.r_l0_lp_e]
  kernel_rfl
noncomputable def strings_trimLeftByte.rf (bd : B3) (call : FuncId → List V → Heap → Option R) (n : Nat) (a : List V) (H : Heap) : Option R := (match a with | [v0, v1] => strings_trimLeftByte.r bd call n v0 v1 H | a => E C n 21 [] (argsA 0 a) H (kR C 21))
theorem strings_trimLeftByte.rf_b (n : Nat) (a : List V) (H : Heap) : (match a with | [v0, v1] => strings_trimLeftByte.r @bdI (callA C n) n v0 v1 H | a => E C n 21 [] (argsA 0 a) H (kR C 21)) = E C n 21 [] (argsA 0 a) H (kR C 21) := by
  split
  · exact strings_trimLeftByte.r_e n _ _ H
  · rfl
theorem strings_trimLeftByte.rf_e (n : Nat) (a : List V) (H : Heap) : strings_trimLeftByte.rf @bdI (callA C n) n a H = callA C (n + 1) 21 a H := by
  unfold strings_trimLeftByte.rf
  refine (strings_trimLeftByte.rf_b n a H).trans ?_
  kernel_rfl
@[irreducible] noncomputable def strings_trimRightByte.l0 (n m0 : Nat) (v0 v1 : V) (H : Heap) : Option R := Lp C n 22 [1, 0, 0, 0] m0 [(0, v0), (1, v1)] H (kB 0 (kC C n 22 [1, 1] (kR C 22)))
noncomputable def strings_trimRightByte.r_l0 (bd : B3) (call : FuncId → List V → Heap → Option R) (n : Nat) (s0 : V → V → Heap → Option R) (v0 v1 : V) (H : Heap) : Option R :=
 (bd (lenStr v0) fun t6_1 =>
 (bd (arA .gtr t6_1 (.int .i64 0)) fun t7_2 =>
 (bd (asB t7_2) fun b3 =>
 if b3 = true then
 (bd (lenStr v0) fun t11_4 =>
 (bd (arA .sub t11_4 (.int .i64 1)) fun t12_5 =>
 (bd (ixStr v0 t12_5) fun t13_6 =>
 (bd (arA .eql t13_6 v1) fun t15_7 =>
 (bd (asB t15_7) fun b8 =>
 if b8 = true then
 (bd (lenStr v0) fun t19_9 =>
 (bd (arA .sub t19_9 (.int .i64 1)) fun t20_10 =>
 (bd (slStr v0 none (some t20_10)) fun t21_11 =>
 (s0 t21_11 v1 H))))
 else
 (some (v0, H)))))))
 else
 (some (v0, H)))))
theorem strings_trimRightByte.r_l0_e (n m0 : Nat) : strings_trimRightByte.r_l0 @bdI (callA C n) n (strings_trimRightByte.l0 n m0) = strings_trimRightByte.l0 n (m0 + 1) := by
  funext v0 v1 H
  unfold strings_trimRightByte.r_l0
  kernel_rfl
noncomputable def strings_trimRightByte.r_l0_lp (bd : B3) (call : FuncId → List V → Heap → Option R) (n : Nat) (m : Nat) : V → V → Heap → Option R := Nat.rec (motive := fun _ => V → V → Heap → Option R) (fun _ _ _ => none) (fun _ self => strings_trimRightByte.r_l0 bd call n self) m
theorem strings_trimRightByte.r_l0_lp_e (n : Nat) : strings_trimRightByte.r_l0_lp @bdI (callA C n) n = strings_trimRightByte.l0 n := by
  funext m
  induction m with
  | zero => funext v0 v1 H; kernel_rfl
  | succ k ih => exact (congrArg (strings_trimRightByte.r_l0 @bdI (callA C n) n) ih).trans (strings_trimRightByte.r_l0_e n k)
noncomputable def strings_trimRightByte.r (bd : B3) (call : FuncId → List V → Heap → Option R) (n : Nat) (v0 v1 : V) (H : Heap) : Option R :=
 (strings_trimRightByte.r_l0_lp bd call n n v0 v1 H)
theorem strings_trimRightByte.r_e (n : Nat) (v0 v1 : V) (H : Heap) : strings_trimRightByte.r @bdI (callA C n) n v0 v1 H = E C n 22 [] (argsA 0 [v0, v1]) H (kR C 22) := by
  unfold strings_trimRightByte.r
  rewrite [strings_trimRightByte.r_l0_lp_e]
  kernel_rfl
noncomputable def strings_trimRightByte.rf (bd : B3) (call : FuncId → List V → Heap → Option R) (n : Nat) (a : List V) (H : Heap) : Option R := (match a with | [v0, v1] => strings_trimRightByte.r bd call n v0 v1 H | a => E C n 22 [] (argsA 0 a) H (kR C 22))
theorem strings_trimRightByte.rf_b (n : Nat) (a : List V) (H : Heap) : (match a with | [v0, v1] => strings_trimRightByte.r @bdI (callA C n) n v0 v1 H | a => E C n 22 [] (argsA 0 a) H (kR C 22)) = E C n 22 [] (argsA 0 a) H (kR C 22) := by
  split
  · exact strings_trimRightByte.r_e n _ _ H
  · rfl
theorem strings_trimRightByte.rf_e (n : Nat) (a : List V) (H : Heap) : strings_trimRightByte.rf @bdI (callA C n) n a H = callA C (n + 1) 22 a H := by
  unfold strings_trimRightByte.rf
  refine (strings_trimRightByte.rf_b n a H).trans ?_
  kernel_rfl
end Go.AM.L
end
section
set_option linter.unusedVariables false
set_option linter.unusedSimpArgs false
set_option maxRecDepth 1000000
set_option linter.unusedVariables false
namespace Go.AM.L
@[irreducible] noncomputable def lex_Number.p0 (n : Nat) (v0 v1 v9 : V) (H : Heap) : Option R := E C n 28 [1, 1, 1, 1] [(0, v0), (1, v1), (9, v9)] H (kR C 28)
@[irreducible] noncomputable def lex_Number.l1 (n m0 : Nat) (v0 v1 v9 v10 : V) (H : Heap) : Option R := Lp C n 28 [1, 1, 1, 1, 1, 1, 1, 0, 0, 0] m0 [(0, v0), (1, v1), (9, v9), (10, v10)] H (kB 0 (kC C n 28 [1, 1, 1, 1, 1, 1, 1, 1] (kR C 28)))
@[irreducible] noncomputable def lex_Number.p2 (n : Nat) (v1 v9 v10 : V) (H : Heap) : Option R := E C n 28 [1, 1, 1, 1, 1, 1, 1, 1] [(1, v1), (9, v9), (10, v10)] H (kR C 28)
noncomputable def lex_Number.r_p2 (bd : B3) (call : FuncId → List V → Heap → Option R) (n : Nat) (v1 v9 v10 : V) (H : Heap) : Option R :=
 (bd (asB v9) fun b1 =>
 if b1 = true then
 (bd (unA .neg v10) fun t86_2 =>
 (some (.tuple [t86_2, v1, (.bool true)], H)))
 else
 (some (.tuple [v10, v1, (.bool true)], H)))
theorem lex_Number.r_p2_e (n : Nat) : lex_Number.r_p2 @bdI (callA C n) n = lex_Number.p2 n := by
  funext v1 v9 v10 H
  unfold lex_Number.r_p2
  kernel_rfl
noncomputable def lex_Number.r_l1 (bd : B3) (call : FuncId → List V → Heap → Option R) (n : Nat) (s0 : V → V → V → V → Heap → Option R) (v0 v1 v9 v10 : V) (H : Heap) : Option R :=
 (bd (lenStr v0) fun t60_1 =>
 (bd (arA .lss v1 t60_1) fun t61_2 =>
 (bd (asB t61_2) fun b3 =>
 if b3 = true then
 (bd (ixStr v0 v1) fun t65_4 =>
 (bd (call 44 [t65_4] H) fun r5 =>
 (bd (asB r5.1) fun b6 =>
 if b6 = true then
 (bd (ixStr v0 v1) fun t70_7 =>
 (bd (arA .sub t70_7 (.int .u8 48)) fun t71_8 =>
 (bd (cvInt .i64 t71_8) fun t72_9 =>
 (bd (arA .sub (.int .i64 4611686018427387904) t72_9) fun t75_10 =>
 (bd (arA .quo t75_10 (.int .i64 10)) fun t76_11 =>
 (bd (arA .gtr v10 t76_11) fun t77_12 =>
 (bd (asB t77_12) fun b13 =>
 if b13 = true then
 (bd (arA .add v1 (.int .i64 1)) fun t83_14 =>
 (s0 v0 t83_14 v9 (.int .i64 4611686018427387904) r5.2))
 else
 (bd (arA .mul (.int .i64 10) v10) fun t79_15 =>
 (bd (arA .add t79_15 t72_9) fun t81_16 =>
 (bd (arA .add v1 (.int .i64 1)) fun t83_17 =>
 (s0 v0 t83_17 v9 t81_16 r5.2)))))))))))
 else
 (lex_Number.r_p2 bd call n v1 v9 v10 r5.2))))
 else
 (lex_Number.r_p2 bd call n v1 v9 v10 H))))
theorem lex_Number.r_l1_e (n m0 : Nat) : lex_Number.r_l1 @bdI (callA C n) n (lex_Number.l1 n m0) = lex_Number.l1 n (m0 + 1) := by
  funext v0 v1 v9 v10 H
  unfold lex_Number.r_l1
  rewrite [lex_Number.r_p2_e]
  kernel_rfl
noncomputable def lex_Number.r_l1_lp (bd : B3) (call : FuncId → List V → Heap → Option R) (n : Nat) (m : Nat) : V → V → V → V → Heap → Option R := Nat.rec (motive := fun _ => V → V → V → V → Heap → Option R) (fun _ _ _ _ _ => none) (fun _ self => lex_Number.r_l1 bd call n self) m
theorem lex_Number.r_l1_lp_e (n : Nat) : lex_Number.r_l1_lp @bdI (callA C n) n = lex_Number.l1 n := by
  funext m
  induction m with
  | zero => funext v0 v1 v9 v10 H; kernel_rfl
  | succ k ih => exact (congrArg (lex_Number.r_l1 @bdI (callA C n) n) ih).trans (lex_Number.r_l1_e n k)
noncomputable def lex_Number.r_p0 (bd : B3) (call : FuncId → List V → Heap → Option R) (n : Nat) (v0 v1 v9 : V) (H : Heap) : Option R :=
 (bd (lenStr v0) fun t33_1 =>
 (bd (arA .eql v1 t33_1) fun t34_2 =>
 (bd (asB t34_2) fun b3 =>
 if b3 = true then
 (some (.tuple [(.int .i64 0), v1, (.bool false)], H))
 else
 (bd (ixStr v0 v1) fun t38_4 =>
 (bd (call 44 [t38_4] H) fun r5 =>
 (bd (unA .not r5.1) fun t40_6 =>
 (bd (asB t40_6) fun b7 =>
 if b7 = true then
 (some (.tuple [(.int .i64 0), v1, (.bool false)], r5.2))
 else
 (bd (asB v9) fun b8 =>
 if b8 = true then
 (bd (ixStr v0 v1) fun t47_9 =>
 (bd (arA .eql t47_9 (.int .u8 48)) fun t48_10 =>
 (bd (asB t48_10) fun b11 =>
 if b11 = true then
 (some (.tuple [(.int .i64 0), v1, (.bool false)], r5.2))
 else
 (bd (ixStr v0 v1) fun t54_12 =>
 (bd (arA .eql t54_12 (.int .u8 48)) fun t55_13 =>
 (bd (asB t55_13) fun b14 =>
 if b14 = true then
 (bd (arA .add v1 (.int .i64 1)) fun t57_15 =>
 (some (.tuple [(.int .i64 0), t57_15, (.bool true)], r5.2)))
 else
 (lex_Number.r_l1_lp bd call n n v0 v1 v9 (.int .i64 0) r5.2)))))))
 else
 (bd (ixStr v0 v1) fun t54_16 =>
 (bd (arA .eql t54_16 (.int .u8 48)) fun t55_17 =>
 (bd (asB t55_17) fun b18 =>
 if b18 = true then
 (bd (arA .add v1 (.int .i64 1)) fun t57_19 =>
 (some (.tuple [(.int .i64 0), t57_19, (.bool true)], r5.2)))
 else
 (lex_Number.r_l1_lp bd call n n v0 v1 v9 (.int .i64 0) r5.2))))))))))))
theorem lex_Number.r_p0_e (n : Nat) : lex_Number.r_p0 @bdI (callA C n) n = lex_Number.p0 n := by
  funext v0 v1 v9 H
  unfold lex_Number.r_p0
  rewrite [lex_Number.r_l1_lp_e]
  kernel_rfl
noncomputable def lex_Number.r (bd : B3) (call : FuncId → List V → Heap → Option R) (n : Nat) (v0 v1 v2 : V) (H : Heap) : Option R :=
 (bd (call 43 [v0, v1] H) fun r1 =>
 (bd (asB v2) fun b2 =>
 if b2 = true then
 (bd (lenStr v0) fun t19_3 =>
 (bd (arA .lss r1.1 t19_3) fun t20_4 =>
 (bd (asB t20_4) fun b5 =>
 if b5 = true then
 (bd (ixStr v0 r1.1) fun t25_6 =>
 (bd (arA .eql t25_6 (.int .u8 45)) fun t26_7 =>
 (bd (asB t26_7) fun b8 =>
 if b8 = true then
 (bd (arA .add r1.1 (.int .i64 1)) fun t30_9 =>
 (lex_Number.r_p0 bd call n v0 t30_9 t26_7 r1.2))
 else
 (lex_Number.r_p0 bd call n v0 r1.1 t26_7 r1.2))))
 else
 (lex_Number.r_p0 bd call n v0 r1.1 (.bool false) r1.2))))
 else
 (lex_Number.r_p0 bd call n v0 r1.1 (.bool false) r1.2)))
theorem lex_Number.r_e (n : Nat) (v0 v1 v2 : V) (H : Heap) : lex_Number.r @bdI (callA C n) n v0 v1 v2 H = E C n 28 [] (argsA 0 [v0, v1, v2]) H (kR C 28) := by
  unfold lex_Number.r
  rewrite [lex_Number.r_p0_e]
  kernel_rfl
noncomputable def lex_Number.rf (bd : B3) (call : FuncId → List V → Heap → Option R) (n : Nat) (a : List V) (H : Heap) : Option R := pureA a H fun a => (match a with | [v0, v1, v2] => lex_Number.r bd call n v0 v1 v2 ⟨0, .nil⟩ | a => E C n 28 [] (argsA 0 a) ⟨0, .nil⟩ (kR C 28))
theorem lex_Number.rf_b (n : Nat) (a : List V) (H : Heap) : (match a with | [v0, v1, v2] => lex_Number.r @bdI (callA C n) n v0 v1 v2 H | a => E C n 28 [] (argsA 0 a) H (kR C 28)) = E C n 28 [] (argsA 0 a) H (kR C 28) := by
  split
  · exact lex_Number.r_e n _ _ _ H
  · rfl
theorem lex_Number.rf_e (n : Nat) (a : List V) (H : Heap) : lex_Number.rf @bdI (callA C n) n a H = callA C (n + 1) 28 a H := by
  unfold lex_Number.rf
  refine (congrArg (pureA a H) (funext fun a => lex_Number.rf_b n a ⟨0, .nil⟩)).trans ?_
  kernel_rfl
noncomputable def strings_Builder_WriteString.r (bd : B3) (call : FuncId → List V → Heap → Option R) (n : Nat) (v0 v1 : V) (H : Heap) : Option R :=
 (bd (call 45 [v0] H) fun r1 =>
 (bd (nilC v0) fun t10_2 =>
 (bd (faA 1 t10_2) fun t11_3 =>
 (bd (ld1 t11_3 r1.2) fun t12_4 =>
 (bd (appA 1 1 ty_uint8 t12_4 v1 r1.2) fun p5 =>
 (bd (nilC v0) fun t15_6 =>
 (bd (faA 1 t15_6) fun t16_7 =>
 (bd (stA 1 t16_7 p5.1 p5.2) fun H8 =>
 (bd (lenStr v1) fun t18_9 =>
 (some (.tuple [t18_9, .nilIface], H8)))))))))))
theorem strings_Builder_WriteString.r_e (n : Nat) (v0 v1 : V) (H : Heap) : strings_Builder_WriteString.r @bdI (callA C n) n v0 v1 H = E C n 29 [] (argsA 0 [v0, v1]) H (kR C 29) := by
  unfold strings_Builder_WriteString.r
  kernel_rfl
noncomputable def strings_Builder_WriteString.rf (bd : B3) (call : FuncId → List V → Heap → Option R) (n : Nat) (a : List V) (H : Heap) : Option R := (match a with | [v0, v1] => strings_Builder_WriteString.r bd call n v0 v1 H | a => E C n 29 [] (argsA 0 a) H (kR C 29))
theorem strings_Builder_WriteString.rf_b (n : Nat) (a : List V) (H : Heap) : (match a with | [v0, v1] => strings_Builder_WriteString.r @bdI (callA C n) n v0 v1 H | a => E C n 29 [] (argsA 0 a) H (kR C 29)) = E C n 29 [] (argsA 0 a) H (kR C 29) := by
  split
  · exact strings_Builder_WriteString.r_e n _ _ H
  · rfl
theorem strings_Builder_WriteString.rf_e (n : Nat) (a : List V) (H : Heap) : strings_Builder_WriteString.rf @bdI (callA C n) n a H = callA C (n + 1) 29 a H := by
  unfold strings_Builder_WriteString.rf
  refine (strings_Builder_WriteString.rf_b n a H).trans ?_
  kernel_rfl
@[irreducible] noncomputable def strings_Join.p0 (n : Nat) (v0 v1 v5 : V) (H : Heap) : Option R := E C n 30 [1, 1, 1, 0, 1, 0, 1] [(0, v0), (1, v1), (5, v5)] H (kC C n 30 [1, 1, 1, 1] (kR C 30))
@[irreducible] noncomputable def strings_Join.p1 (n : Nat) (v0 v1 v5 : V) (H : Heap) : Option R := E C n 30 [1, 1, 1, 1] [(0, v0), (1, v1), (5, v5)] H (kR C 30)
@[irreducible] noncomputable def strings_Join.l2 (n m0 : Nat) (v0 v1 v5 v39 v40 v41 : V) (H : Heap) : Option R := Lp C n 30 [1, 1, 1, 1, 0, 1, 0, 0] m0 [(0, v0), (1, v1), (5, v5), (39, v39), (40, v40), (41, v41)] H (kB 1 (kC C n 30 [1, 1, 1, 1, 1] (kR C 30)))
@[irreducible] noncomputable def strings_Join.p3 (n : Nat) (v0 v1 v5 : V) (H : Heap) : Option R := E C n 30 [1, 1, 1, 1, 1] [(0, v0), (1, v1), (5, v5)] H (kR C 30)
@[irreducible] noncomputable def strings_Join.l4 (n m0 : Nat) (v1 v8 v63 v64 v65 : V) (H : Heap) : Option R := Lp C n 30 [1, 1, 1, 1, 1, 1, 1, 1, 0, 1, 0, 0] m0 [(1, v1), (8, v8), (63, v63), (64, v64), (65, v65)] H (kB 3 (kC C n 30 [1, 1, 1, 1, 1, 1, 1, 1, 1] (kR C 30)))
noncomputable def strings_Join.r_l4 (bd : B3) (call : FuncId → List V → Heap → Option R) (n : Nat) (s0 : V → V → V → V → V → Heap → Option R) (v1 v8 v63 v64 v65 : V) (H : Heap) : Option R :=
 (bd (arA .lss v65 v64) fun t66_1 =>
 (bd (asB t66_1) fun b2 =>
 if b2 = true then
 (bd (idxS 1 v63 v65) fun t67_3 =>
 (bd (ld1 t67_3 H) fun t68_4 =>
 (bd (call 29 [v8, v1] H) fun r5 =>
 (bd (call 29 [v8, t68_4] r5.2) fun r6 =>
 (bd (arA .add v65 (.int .i64 1)) fun t73_7 =>
 (s0 v1 v8 v63 v64 t73_7 r6.2))))))
 else
 (bd (call 9 [v8] H) fun r8 =>
 (some (r8.1, r8.2)))))
theorem strings_Join.r_l4_e (n m0 : Nat) : strings_Join.r_l4 @bdI (callA C n) n (strings_Join.l4 n m0) = strings_Join.l4 n (m0 + 1) := by
  funext v1 v8 v63 v64 v65 H
  unfold strings_Join.r_l4
  kernel_rfl
noncomputable def strings_Join.r_l4_lp (bd : B3) (call : FuncId → List V → Heap → Option R) (n : Nat) (m : Nat) : V → V → V → V → V → Heap → Option R := Nat.rec (motive := fun _ => V → V → V → V → V → Heap → Option R) (fun _ _ _ _ _ _ => none) (fun _ self => strings_Join.r_l4 bd call n self) m
theorem strings_Join.r_l4_lp_e (n : Nat) : strings_Join.r_l4_lp @bdI (callA C n) n = strings_Join.l4 n := by
  funext m
  induction m with
  | zero => funext v1 v8 v63 v64 v65 H; kernel_rfl
  | succ k ih => exact (congrArg (strings_Join.r_l4 @bdI (callA C n) n) ih).trans (strings_Join.r_l4_e n k)
noncomputable def strings_Join.r_p3 (bd : B3) (call : FuncId → List V → Heap → Option R) (n : Nat) (v0 v1 v5 : V) (H : Heap) : Option R :=
 (bd (call 46 [(.ptr (some (H.n, 0))), v5] (H.push (.cells [(.ptr none), (.slice ⟨none, 0, 0, false⟩)] ty_strings_Builder false))) fun r1 =>
 (bd (idxS 1 v0 (.int .i64 0)) fun t59_2 =>
 (bd (ld1 t59_2 r1.2) fun t60_3 =>
 (bd (call 29 [(.ptr (some (H.n, 0))), t60_3] r1.2) fun r4 =>
 (bd (slSl 1 v0 (some (.int .i64 1)) none) fun t63_5 =>
 (bd (lenSl t63_5) fun t64_6 =>
 (strings_Join.r_l4_lp bd call n n v1 (.ptr (some (H.n, 0))) t63_5 t64_6 (.int .i64 0) r4.2)))))))
theorem strings_Join.r_p3_e (n : Nat) : strings_Join.r_p3 @bdI (callA C n) n = strings_Join.p3 n := by
  funext v0 v1 v5 H
  unfold strings_Join.r_p3
  rewrite [strings_Join.r_l4_lp_e]
  kernel_rfl
noncomputable def strings_Join.r_l2 (bd : B3) (call : FuncId → List V → Heap → Option R) (n : Nat) (s0 : V → V → V → V → V → V → Heap → Option R) (v0 v1 v5 v39 v40 v41 : V) (H : Heap) : Option R :=
 (bd (arA .lss v41 v40) fun t42_1 =>
 (bd (asB t42_1) fun b2 =>
 if b2 = true then
 (bd (idxS 1 v39 v41) fun t43_3 =>
 (bd (ld1 t43_3 H) fun t44_4 =>
 (bd (lenStr t44_4) fun t46_5 =>
 (bd (arA .sub (.int .i64 9223372036854775807) v5) fun t48_6 =>
 (bd (arA .gtr t46_5 t48_6) fun t49_7 =>
 (bd (asB t49_7) fun b8 =>
 if b8 = true then
 none
 else
 (bd (lenStr t44_4) fun t53_9 =>
 (bd (arA .add v5 t53_9) fun t54_10 =>
 (bd (arA .add v41 (.int .i64 1)) fun t55_11 =>
 (s0 v0 v1 t54_10 v39 v40 t55_11 H))))))))))
 else
 (strings_Join.r_p3 bd call n v0 v1 v5 H)))
theorem strings_Join.r_l2_e (n m0 : Nat) : strings_Join.r_l2 @bdI (callA C n) n (strings_Join.l2 n m0) = strings_Join.l2 n (m0 + 1) := by
  funext v0 v1 v5 v39 v40 v41 H
  unfold strings_Join.r_l2
  rewrite [strings_Join.r_p3_e]
  kernel_rfl
noncomputable def strings_Join.r_l2_lp (bd : B3) (call : FuncId → List V → Heap → Option R) (n : Nat) (m : Nat) : V → V → V → V → V → V → Heap → Option R := Nat.rec (motive := fun _ => V → V → V → V → V → V → Heap → Option R) (fun _ _ _ _ _ _ _ => none) (fun _ self => strings_Join.r_l2 bd call n self) m
theorem strings_Join.r_l2_lp_e (n : Nat) : strings_Join.r_l2_lp @bdI (callA C n) n = strings_Join.l2 n := by
  funext m
  induction m with
  | zero => funext v0 v1 v5 v39 v40 v41 H; kernel_rfl
  | succ k ih => exact (congrArg (strings_Join.r_l2 @bdI (callA C n) n) ih).trans (strings_Join.r_l2_e n k)
noncomputable def strings_Join.r_p1 (bd : B3) (call : FuncId → List V → Heap → Option R) (n : Nat) (v0 v1 v5 : V) (H : Heap) : Option R :=
 (bd (lenSl v0) fun t40_1 =>
 (strings_Join.r_l2_lp bd call n n v0 v1 v5 v0 t40_1 (.int .i64 0) H))
theorem strings_Join.r_p1_e (n : Nat) : strings_Join.r_p1 @bdI (callA C n) n = strings_Join.p1 n := by
  funext v0 v1 v5 H
  unfold strings_Join.r_p1
  rewrite [strings_Join.r_l2_lp_e]
  kernel_rfl
noncomputable def strings_Join.r_p0 (bd : B3) (call : FuncId → List V → Heap → Option R) (n : Nat) (v0 v1 v5 : V) (H : Heap) : Option R :=
 (bd (lenStr v1) fun t33_1 =>
 (bd (lenSl v0) fun t35_2 =>
 (bd (arA .sub t35_2 (.int .i64 1)) fun t36_3 =>
 (bd (arA .mul t33_1 t36_3) fun t37_4 =>
 (bd (arA .add v5 t37_4) fun t38_5 =>
 (strings_Join.r_p1 bd call n v0 v1 t38_5 H))))))
theorem strings_Join.r_p0_e (n : Nat) : strings_Join.r_p0 @bdI (callA C n) n = strings_Join.p0 n := by
  funext v0 v1 v5 H
  unfold strings_Join.r_p0
  rewrite [strings_Join.r_p1_e]
  kernel_rfl
noncomputable def strings_Join.r (bd : B3) (call : FuncId → List V → Heap → Option R) (n : Nat) (v0 v1 : V) (H : Heap) : Option R :=
 (bd (lenSl v0) fun t12_1 =>
 (bd (arA .eql t12_1 (.int .i64 0)) fun t14_2 =>
 (bd (asB t14_2) fun b3 =>
 if b3 = true then
 (some ((.str []), H))
 else
 (bd (arA .eql t12_1 (.int .i64 1)) fun t16_4 =>
 (bd (asB t16_4) fun b5 =>
 if b5 = true then
 (bd (idxS 1 v0 (.int .i64 0)) fun t18_6 =>
 (bd (ld1 t18_6 H) fun t19_7 =>
 (some (t19_7, H))))
 else
 (bd (lenStr v1) fun t21_8 =>
 (bd (arA .gtr t21_8 (.int .i64 0)) fun t22_9 =>
 (bd (asB t22_9) fun b10 =>
 if b10 = true then
 (bd (lenStr v1) fun t24_11 =>
 (bd (lenSl v0) fun t26_12 =>
 (bd (arA .sub t26_12 (.int .i64 1)) fun t27_13 =>
 (bd (arA .quo (.int .i64 9223372036854775807) t27_13) fun t28_14 =>
 (bd (arA .geq t24_11 t28_14) fun t29_15 =>
 (bd (asB t29_15) fun b16 =>
 if b16 = true then
 none
 else
 (strings_Join.r_p0 bd call n v0 v1 (.int .i64 0) H)))))))
 else
 (strings_Join.r_p1 bd call n v0 v1 (.int .i64 0) H)))))))))
theorem strings_Join.r_e (n : Nat) (v0 v1 : V) (H : Heap) : strings_Join.r @bdI (callA C n) n v0 v1 H = E C n 30 [] (argsA 0 [v0, v1]) H (kR C 30) := by
  unfold strings_Join.r
  rewrite [strings_Join.r_p0_e]
  rewrite [strings_Join.r_p1_e]
  kernel_rfl
noncomputable def strings_Join.rf (bd : B3) (call : FuncId → List V → Heap → Option R) (n : Nat) (a : List V) (H : Heap) : Option R := (match a with | [v0, v1] => strings_Join.r bd call n v0 v1 H | a => E C n 30 [] (argsA 0 a) H (kR C 30))
theorem strings_Join.rf_b (n : Nat) (a : List V) (H : Heap) : (match a with | [v0, v1] => strings_Join.r @bdI (callA C n) n v0 v1 H | a => E C n 30 [] (argsA 0 a) H (kR C 30)) = E C n 30 [] (argsA 0 a) H (kR C 30) := by
  split
  · exact strings_Join.r_e n _ _ H
  · rfl
theorem strings_Join.rf_e (n : Nat) (a : List V) (H : Heap) : strings_Join.rf @bdI (callA C n) n a H = callA C (n + 1) 30 a H := by
  unfold strings_Join.rf
  refine (strings_Join.rf_b n a H).trans ?_
  kernel_rfl
noncomputable def shell_shell_open.r (bd : B3) (call : FuncId → List V → Heap → Option R) (n : Nat) (v0 v1 : V) (H : Heap) : Option R :=
 (bd (idxS 1 v1 (.int .i64 0)) fun t8_1 =>
 (bd (ld1 t8_1 (H.more 0)) fun t9_2 =>
 (bd (idxS 1 v1 (.int .i64 1)) fun t11_3 =>
 (bd (ld1 t11_3 (H.more 0)) fun t12_4 =>
 (bd (call 47 [t9_2, t12_4] (H.more 0)) fun r5 =>
 (bd (extA r5.1 0) fun t14_6 =>
 (bd (extA r5.1 1) fun t15_7 =>
 (bd (arA .eql t15_7 (.int .i64 0)) fun t17_8 =>
 (bd (asB t17_8) fun b9 =>
 if b9 = true then
 (bd (nilC v0) fun t20_10 =>
 (bd (faA 2 t20_10) fun t21_11 =>
 (bd (stA 1 t21_11 t14_6 r5.2) fun H12 =>
 (bd (call 48 [v0, t15_7] H12) fun r13 =>
 (some (.tuple [], r13.2))))))
 else
 (bd (call 48 [v0, t15_7] r5.2) fun r14 =>
 (some (.tuple [], r14.2))))))))))))
theorem shell_shell_open.r_e (n : Nat) (v0 v1 : V) (H : Heap) : shell_shell_open.r @bdI (callA C n) n v0 v1 H = E C n 31 [] (argsA 0 [v0, v1]) H (kR C 31) := by
  unfold shell_shell_open.r
  kernel_rfl
noncomputable def shell_shell_open.rf (bd : B3) (call : FuncId → List V → Heap → Option R) (n : Nat) (a : List V) (H : Heap) : Option R := (match a with | [v0, v1] => shell_shell_open.r bd call n v0 v1 H | a => E C n 31 [] (argsA 0 a) H (kR C 31))
theorem shell_shell_open.rf_b (n : Nat) (a : List V) (H : Heap) : (match a with | [v0, v1] => shell_shell_open.r @bdI (callA C n) n v0 v1 H | a => E C n 31 [] (argsA 0 a) H (kR C 31)) = E C n 31 [] (argsA 0 a) H (kR C 31) := by
  split
  · exact shell_shell_open.r_e n _ _ H
  · rfl
theorem shell_shell_open.rf_e (n : Nat) (a : List V) (H : Heap) : shell_shell_open.rf @bdI (callA C n) n a H = callA C (n + 1) 31 a H := by
  unfold shell_shell_open.rf
  refine (shell_shell_open.rf_b n a H).trans ?_
  kernel_rfl
noncomputable def shell_shell_tell.r (bd : B3) (call : FuncId → List V → Heap → Option R) (n : Nat) (v0 v1 v2 : V) (H : Heap) : Option R :=
 (bd (arA .eql v1 (.str [101, 120, 112, 111, 114, 116])) fun t10_1 =>
 (bd (asB t10_1) fun b2 =>
 if b2 = true then
 (bd (nilC v0) fun t12_3 =>
 (bd (faA 2 t12_3) fun t13_4 =>
 (bd (ld1 t13_4 (H.more 1)) fun t14_5 =>
 (bd (idxS 1 v2 (.int .i64 0)) fun t16_6 =>
 (bd (ld1 t16_6 (H.more 1)) fun t17_7 =>
 (bd (idxS 1 v2 (.int .i64 1)) fun t19_8 =>
 (bd (ld1 t19_8 (H.more 1)) fun t20_9 =>
 (bd (flA [(0, 1), (1, 1), (2, 1), (3, 1), (4, 1)] [(.int .i64 0), (.int .i64 0), (.int .i64 0), (.int .i64 0), (.str [])] [(0, (.int .i64 7)), (1, t17_7), (2, t20_9)]) fun t21_10 =>
 (bd (call 49 [t14_5, t21_10] (H.more 1)) fun r11 =>
 (bd (stA 9 (.ptr (some ((H.n + 0), 0))) r11.1 (r11.2.set (H.n + 0) (.cells [(.int .i64 0), (.int .i64 0), (.bool false), (.str []), (.bool false), (.int .i64 0), (.int .i64 0), (.slice ⟨none, 0, 0, false⟩), (.slice ⟨none, 0, 0, false⟩)] ty_api_Ans false))) fun H12 =>
 (bd (faA 0 (.ptr (some ((H.n + 0), 0)))) fun t24_13 =>
 (bd (ld1 t24_13 H12) fun t25_14 =>
 (bd (call 51 [v0, t25_14] H12) fun r15 =>
 (bd (unA .not r15.1) fun t27_16 =>
 (bd (asB t27_16) fun b17 =>
 if b17 = true then
 (bd (nilC v0) fun t29_18 =>
 (bd (faA 0 t29_18) fun t30_19 =>
 (bd (faA 3 (.ptr (some ((H.n + 0), 0)))) fun t31_20 =>
 (bd (ld1 t31_20 (r15.2.more 0)) fun t32_21 =>
 (bd (call 29 [t30_19, t32_21] (r15.2.more 0)) fun r22 =>
 (some ((.bool true), r22.2)))))))
 else
 (some ((.bool true), r15.2)))))))))))))))))
 else
 (bd (arA .eql v1 (.str [115, 105, 116, 101, 115])) fun t35_23 =>
 (bd (asB t35_23) fun b24 =>
 if b24 = true then
 (bd (call 52 [v0] H) fun r25 =>
 (some ((.bool true), r25.2)))
 else
 (bd (arA .eql v1 (.str [102, 97, 99, 101, 115])) fun t39_26 =>
 (bd (asB t39_26) fun b27 =>
 if b27 = true then
 (bd (call 53 [v0] H) fun r28 =>
 (some ((.bool true), r28.2)))
 else
 (bd (arA .eql v1 (.str [115, 104, 101, 101, 116, 115])) fun t43_29 =>
 (bd (asB t43_29) fun b30 =>
 if b30 = true then
 (bd (nilC v0) fun t46_31 =>
 (bd (faA 2 t46_31) fun t47_32 =>
 (bd (ld1 t47_32 H) fun t48_33 =>
 (bd (flA [(0, 1), (1, 1), (2, 1), (3, 1), (4, 1)] [(.int .i64 0), (.int .i64 0), (.int .i64 0), (.int .i64 0), (.str [])] [(0, (.int .i64 12))]) fun t49_34 =>
 (bd (call 49 [t48_33, t49_34] H) fun r35 =>
 (bd (fd1 1 r35.1) fun t51_36 =>
 (bd (call 50 [t51_36] r35.2) fun r37 =>
 (bd (bSl 1 ty_string [(.str [])] 2 [(0, (.str [115, 104, 101, 101, 116, 115])), (1, r37.1)]) fun o38 =>
 (bd (call 15 [v0, (.slice ⟨some (r37.2.n, 0), 2, 1, false⟩)] (r37.2.push o38)) fun r39 =>
 (some ((.bool true), r39.2)))))))))))
 else
 (bd (arA .eql v1 (.str [110, 101, 97, 114])) fun t56_40 =>
 (bd (asB t56_40) fun b41 =>
 if b41 = true then
 (bd (idxS 1 v2 (.int .i64 0)) fun t59_42 =>
 (bd (ld1 t59_42 (H.more 0)) fun t60_43 =>
 (bd (idxS 1 v2 (.int .i64 1)) fun t62_44 =>
 (bd (ld1 t62_44 (H.more 0)) fun t63_45 =>
 (bd (call 54 [v0, t60_43, t63_45] (H.more 0)) fun r46 =>
 (some ((.bool true), r46.2)))))))
 else
 (bd (arA .eql v1 (.str [114, 101, 112, 111, 114, 116])) fun t66_47 =>
 (bd (asB t66_47) fun b48 =>
 if b48 = true then
 (bd (call 55 [v0] H) fun r49 =>
 (some ((.bool true), r49.2)))
 else
 (some ((.bool false), H))))))))))))))
theorem shell_shell_tell.r_e (n : Nat) (v0 v1 v2 : V) (H : Heap) : shell_shell_tell.r @bdI (callA C n) n v0 v1 v2 H = E C n 34 [] (argsA 0 [v0, v1, v2]) H (kR C 34) := by
  unfold shell_shell_tell.r
  kernel_rfl
noncomputable def shell_shell_tell.rf (bd : B3) (call : FuncId → List V → Heap → Option R) (n : Nat) (a : List V) (H : Heap) : Option R := (match a with | [v0, v1, v2] => shell_shell_tell.r bd call n v0 v1 v2 H | a => E C n 34 [] (argsA 0 a) H (kR C 34))
theorem shell_shell_tell.rf_b (n : Nat) (a : List V) (H : Heap) : (match a with | [v0, v1, v2] => shell_shell_tell.r @bdI (callA C n) n v0 v1 v2 H | a => E C n 34 [] (argsA 0 a) H (kR C 34)) = E C n 34 [] (argsA 0 a) H (kR C 34) := by
  split
  · exact shell_shell_tell.r_e n _ _ _ H
  · rfl
theorem shell_shell_tell.rf_e (n : Nat) (a : List V) (H : Heap) : shell_shell_tell.rf @bdI (callA C n) n a H = callA C (n + 1) 34 a H := by
  unfold shell_shell_tell.rf
  refine (shell_shell_tell.rf_b n a H).trans ?_
  kernel_rfl
noncomputable def shell_shell_change.r (bd : B3) (call : FuncId → List V → Heap → Option R) (n : Nat) (v0 v1 v2 : V) (H : Heap) : Option R :=
 (bd (bSl 1 ty_int [(.int .i64 0)] 3 [(0, (.int .i64 0)), (1, (.int .i64 0)), (2, (.int .i64 0))]) fun o1 =>
 (bd (appA 1 8 ty_int v2 (.slice ⟨some (H.n, 0), 3, 1, false⟩) (H.push o1)) fun p2 =>
 (bd (arA .eql v1 (.str [105, 110, 115, 101, 114, 116])) fun t19_3 =>
 (bd (asB t19_3) fun b4 =>
 if b4 = true then
 (bd (nilC v0) fun t21_5 =>
 (bd (faA 2 t21_5) fun t22_6 =>
 (bd (ld1 t22_6 (p2.2.more 1)) fun t23_7 =>
 (bd (idxS 1 p2.1 (.int .i64 0)) fun t25_8 =>
 (bd (ld1 t25_8 (p2.2.more 1)) fun t26_9 =>
 (bd (idxS 1 p2.1 (.int .i64 1)) fun t28_10 =>
 (bd (ld1 t28_10 (p2.2.more 1)) fun t29_11 =>
 (bd (flA [(0, 1), (1, 1), (2, 1), (3, 1), (4, 1)] [(.int .i64 0), (.int .i64 0), (.int .i64 0), (.int .i64 0), (.str [])] [(0, (.int .i64 1)), (1, t26_9), (2, t29_11)]) fun t30_12 =>
 (bd (call 49 [t23_7, t30_12] (p2.2.more 1)) fun r13 =>
 (bd (stA 9 (.ptr (some ((p2.2.n + 0), 0))) r13.1 (r13.2.set (p2.2.n + 0) (.cells [(.int .i64 0), (.int .i64 0), (.bool false), (.str []), (.bool false), (.int .i64 0), (.int .i64 0), (.slice ⟨none, 0, 0, false⟩), (.slice ⟨none, 0, 0, false⟩)] ty_api_Ans false))) fun H14 =>
 (bd (faA 0 (.ptr (some ((p2.2.n + 0), 0)))) fun t33_15 =>
 (bd (ld1 t33_15 H14) fun t34_16 =>
 (bd (call 51 [v0, t34_16] H14) fun r17 =>
 (bd (unA .not r17.1) fun t36_18 =>
 (bd (asB t36_18) fun b19 =>
 if b19 = true then
 (bd (faA 1 (.ptr (some ((p2.2.n + 0), 0)))) fun t38_20 =>
 (bd (ld1 t38_20 r17.2) fun t39_21 =>
 (bd (call 50 [t39_21] r17.2) fun r22 =>
 (bd (bSl 1 ty_string [(.str [])] 2 [(0, (.str [105, 100])), (1, r22.1)]) fun o23 =>
 (bd (call 15 [v0, (.slice ⟨some (r22.2.n, 0), 2, 1, false⟩)] (r22.2.push o23)) fun r24 =>
 (some (.tuple [], r24.2)))))))
 else
 (some (.tuple [], r17.2)))))))))))))))))
 else
 (bd (arA .eql v1 (.str [114, 101, 109, 111, 118, 101])) fun t44_25 =>
 (bd (asB t44_25) fun b26 =>
 if b26 = true then
 (bd (nilC v0) fun t47_27 =>
 (bd (faA 2 t47_27) fun t48_28 =>
 (bd (ld1 t48_28 (p2.2.more 0)) fun t49_29 =>
 (bd (idxS 1 p2.1 (.int .i64 0)) fun t51_30 =>
 (bd (ld1 t51_30 (p2.2.more 0)) fun t52_31 =>
 (bd (flA [(0, 1), (1, 1), (2, 1), (3, 1), (4, 1)] [(.int .i64 0), (.int .i64 0), (.int .i64 0), (.int .i64 0), (.str [])] [(0, (.int .i64 2)), (1, t52_31)]) fun t53_32 =>
 (bd (call 49 [t49_29, t53_32] (p2.2.more 0)) fun r33 =>
 (bd (fd1 0 r33.1) fun t55_34 =>
 (bd (call 48 [v0, t55_34] r33.2) fun r35 =>
 (some (.tuple [], r35.2)))))))))))
 else
 (bd (arA .eql v1 (.str [109, 111, 118, 101])) fun t58_36 =>
 (bd (asB t58_36) fun b37 =>
 if b37 = true then
 (bd (nilC v0) fun t61_38 =>
 (bd (faA 2 t61_38) fun t62_39 =>
 (bd (ld1 t62_39 (p2.2.more 0)) fun t63_40 =>
 (bd (idxS 1 p2.1 (.int .i64 0)) fun t65_41 =>
 (bd (ld1 t65_41 (p2.2.more 0)) fun t66_42 =>
 (bd (idxS 1 p2.1 (.int .i64 1)) fun t68_43 =>
 (bd (ld1 t68_43 (p2.2.more 0)) fun t69_44 =>
 (bd (idxS 1 p2.1 (.int .i64 2)) fun t71_45 =>
 (bd (ld1 t71_45 (p2.2.more 0)) fun t72_46 =>
 (bd (flA [(0, 1), (1, 1), (2, 1), (3, 1), (4, 1)] [(.int .i64 0), (.int .i64 0), (.int .i64 0), (.int .i64 0), (.str [])] [(0, (.int .i64 3)), (1, t66_42), (2, t69_44), (3, t72_46)]) fun t73_47 =>
 (bd (call 49 [t63_40, t73_47] (p2.2.more 0)) fun r48 =>
 (bd (fd1 0 r48.1) fun t75_49 =>
 (bd (call 48 [v0, t75_49] r48.2) fun r50 =>
 (some (.tuple [], r50.2)))))))))))))))
 else
 (bd (arA .eql v1 (.str [99, 108, 101, 97, 114])) fun t78_51 =>
 (bd (asB t78_51) fun b52 =>
 if b52 = true then
 (bd (nilC v0) fun t81_53 =>
 (bd (faA 2 t81_53) fun t82_54 =>
 (bd (ld1 t82_54 p2.2) fun t83_55 =>
 (bd (flA [(0, 1), (1, 1), (2, 1), (3, 1), (4, 1)] [(.int .i64 0), (.int .i64 0), (.int .i64 0), (.int .i64 0), (.str [])] [(0, (.int .i64 4))]) fun t84_56 =>
 (bd (call 49 [t83_55, t84_56] p2.2) fun r57 =>
 (bd (fd1 0 r57.1) fun t86_58 =>
 (bd (call 48 [v0, t86_58] r57.2) fun r59 =>
 (some (.tuple [], r59.2)))))))))
 else
 (bd (arA .eql v1 (.str [115, 116, 101, 112])) fun t89_60 =>
 (bd (asB t89_60) fun b61 =>
 if b61 = true then
 (bd (nilC v0) fun t91_62 =>
 (bd (faA 2 t91_62) fun t92_63 =>
 (bd (ld1 t92_63 p2.2) fun t93_64 =>
 (bd (flA [(0, 1), (1, 1), (2, 1), (3, 1), (4, 1)] [(.int .i64 0), (.int .i64 0), (.int .i64 0), (.int .i64 0), (.str [])] [(0, (.int .i64 5))]) fun t94_65 =>
 (bd (call 49 [t93_64, t94_65] p2.2) fun r66 =>
 (bd (stA 9 (.ptr (some (r66.2.n, 0))) r66.1 (r66.2.push (.cells [(.int .i64 0), (.int .i64 0), (.bool false), (.str []), (.bool false), (.int .i64 0), (.int .i64 0), (.slice ⟨none, 0, 0, false⟩), (.slice ⟨none, 0, 0, false⟩)] ty_api_Ans false))) fun H67 =>
 (bd (faA 1 (.ptr (some (r66.2.n, 0)))) fun t96_68 =>
 (bd (ld1 t96_68 H67) fun t97_69 =>
 (bd (call 50 [t97_69] H67) fun r70 =>
 (bd (bSl 1 ty_string [(.str [])] 2 [(0, (.str [109, 101, 114, 103, 101, 100])), (1, r70.1)]) fun o71 =>
 (bd (faA 2 (.ptr (some (r66.2.n, 0)))) fun t100_72 =>
 (bd (ld1 t100_72 (r70.2.push o71)) fun t101_73 =>
 (bd (asB t101_73) fun b74 =>
 if b74 = true then
 (bd (bSl 1 ty_string [(.str [])] 1 [(0, (.str [109, 111, 118, 101, 100]))]) fun o75 =>
 (bd (appA 1 16 ty_string (.slice ⟨some (r70.2.n, 0), 2, 1, false⟩) (.slice ⟨some ((r70.2.push o71).n, 0), 1, 1, false⟩) ((r70.2.push o71).push o75)) fun p76 =>
 (bd (call 15 [v0, p76.1] p76.2) fun r77 =>
 (some (.tuple [], r77.2)))))
 else
 (bd (call 15 [v0, (.slice ⟨some (r70.2.n, 0), 2, 1, false⟩)] (r70.2.push o71)) fun r78 =>
 (some (.tuple [], r78.2))))))))))))))))
 else
 (bd (idxS 1 p2.1 (.int .i64 0)) fun t15_79 =>
 (bd (ld1 t15_79 p2.2) fun t16_80 =>
 (bd (call 56 [v0, t16_80] p2.2) fun r81 =>
 (some (.tuple [], r81.2)))))))))))))))))
theorem shell_shell_change.r_e (n : Nat) (v0 v1 v2 : V) (H : Heap) : shell_shell_change.r @bdI (callA C n) n v0 v1 v2 H = E C n 35 [] (argsA 0 [v0, v1, v2]) H (kR C 35) := by
  unfold shell_shell_change.r
  kernel_rfl
noncomputable def shell_shell_change.rf (bd : B3) (call : FuncId → List V → Heap → Option R) (n : Nat) (a : List V) (H : Heap) : Option R := (match a with | [v0, v1, v2] => shell_shell_change.r bd call n v0 v1 v2 H | a => E C n 35 [] (argsA 0 a) H (kR C 35))
theorem shell_shell_change.rf_b (n : Nat) (a : List V) (H : Heap) : (match a with | [v0, v1, v2] => shell_shell_change.r @bdI (callA C n) n v0 v1 v2 H | a => E C n 35 [] (argsA 0 a) H (kR C 35)) = E C n 35 [] (argsA 0 a) H (kR C 35) := by
  split
  · exact shell_shell_change.r_e n _ _ _ H
  · rfl
theorem shell_shell_change.rf_e (n : Nat) (a : List V) (H : Heap) : shell_shell_change.rf @bdI (callA C n) n a H = callA C (n + 1) 35 a H := by
  unfold shell_shell_change.rf
  refine (shell_shell_change.rf_b n a H).trans ?_
  kernel_rfl
@[irreducible] noncomputable def internal_stringslite_Index.l0 (n m0 : Nat) (v0 v1 v5 v6 v7 v8 v9 v10 : V) (H : Heap) : Option R := Lp C n 39 [1, 1, 1, 1, 1, 1, 1, 1, 0, 0, 0] m0 [(0, v0), (1, v1), (5, v5), (6, v6), (7, v7), (8, v8), (9, v9), (10, v10)] H (kB 1 (kC C n 39 [1, 1, 1, 1, 1, 1, 1, 1, 1] (kR C 39)))
@[irreducible] noncomputable def internal_stringslite_Index.p1 (n m0 : Nat) (v0 v1 v5 v6 v7 v8 v9 v10 : V) (H : Heap) : Option R := E C n 39 [1, 1, 1, 1, 1, 1, 1, 1, 0, 0, 0, 1, 0, 1] [(0, v0), (1, v1), (5, v5), (6, v6), (7, v7), (8, v8), (9, v9), (10, v10)] H (kB 2 (kL C n 39 [1, 1, 1, 1, 1, 1, 1, 1, 0, 0, 0] m0 (kB 1 (kC C n 39 [1, 1, 1, 1, 1, 1, 1, 1, 1] (kR C 39)))))
noncomputable def internal_stringslite_Index.r_p1 (bd : B3) (call : FuncId → List V → Heap → Option R) (n : Nat) (s0 : V → V → V → V → V → V → V → V → Heap → Option R) (v0 v1 v5 v6 v7 v8 v9 v10 : V) (H : Heap) : Option R :=
 (bd (arA .add v8 (.int .i64 1)) fun t80_1 =>
 (bd (ixStr v0 t80_1) fun t81_2 =>
 (bd (arA .eql t81_2 v7) fun t83_3 =>
 (bd (asB t83_3) fun b4 =>
 if b4 = true then
 (bd (arA .add v8 v5) fun t89_5 =>
 (bd (slStr v0 (some v8) (some t89_5)) fun t90_6 =>
 (bd (arA .eql t90_6 v1) fun t92_7 =>
 (bd (asB t92_7) fun b8 =>
 if b8 = true then
 (some (v8, H))
 else
 (bd (arA .add v8 (.int .i64 1)) fun t96_9 =>
 (bd (arA .add v10 (.int .i64 1)) fun t98_10 =>
 (bd (ld1 .dead H) fun t100_11 =>
 (bd (arA .leq v5 t100_11) fun t101_12 =>
 (bd (asB t101_12) fun b13 =>
 if b13 = true then
 (bd (call 60 [t96_9] H) fun r14 =>
 (bd (arA .gtr t98_10 r14.1) fun t106_15 =>
 (bd (asB t106_15) fun b16 =>
 if b16 = true then
 (bd (slStr v0 (some t96_9) none) fun t110_17 =>
 (bd (call 59 [t110_17, v1] r14.2) fun r18 =>
 (bd (arA .geq r18.1 (.int .i64 0)) fun t114_19 =>
 (bd (asB t114_19) fun b20 =>
 if b20 = true then
 (bd (arA .add r18.1 t96_9) fun t117_21 =>
 (some (t117_21, r18.2)))
 else
 (some ((.int .i64 (-1)), r18.2))))))
 else
 (bd (ld1 .dead r14.2) fun t119_22 =>
 (bd (arA .gtr v5 t119_22) fun t120_23 =>
 (bd (asB t120_23) fun b24 =>
 if b24 = true then
 (bd (shA .shr t96_9 (.int .u64 4)) fun t124_25 =>
 (bd (arA .add (.int .i64 4) t124_25) fun t125_26 =>
 (bd (arA .geq t98_10 t125_26) fun t126_27 =>
 (bd (asB t126_27) fun b28 =>
 if b28 = true then
 (bd (arA .lss t96_9 v9) fun t131_29 =>
 (bd (asB t131_29) fun b30 =>
 if b30 = true then
 (bd (slStr v0 (some t96_9) none) fun t135_31 =>
 (bd (call 61 [t135_31, v1] r14.2) fun r32 =>
 (bd (arA .lss r32.1 (.int .i64 0)) fun t139_33 =>
 (bd (asB t139_33) fun b34 =>
 if b34 = true then
 (some ((.int .i64 (-1)), r32.2))
 else
 (bd (arA .add t96_9 r32.1) fun t142_35 =>
 (some (t142_35, r32.2)))))))
 else
 (s0 v0 v1 v5 v6 v7 t96_9 v9 t98_10 r14.2)))
 else
 (s0 v0 v1 v5 v6 v7 t96_9 v9 t98_10 r14.2)))))
 else
 (s0 v0 v1 v5 v6 v7 t96_9 v9 t98_10 r14.2)))))))
 else
 (bd (ld1 .dead H) fun t119_36 =>
 (bd (arA .gtr v5 t119_36) fun t120_37 =>
 (bd (asB t120_37) fun b38 =>
 if b38 = true then
 (bd (shA .shr t96_9 (.int .u64 4)) fun t124_39 =>
 (bd (arA .add (.int .i64 4) t124_39) fun t125_40 =>
 (bd (arA .geq t98_10 t125_40) fun t126_41 =>
 (bd (asB t126_41) fun b42 =>
 if b42 = true then
 (bd (arA .lss t96_9 v9) fun t131_43 =>
 (bd (asB t131_43) fun b44 =>
 if b44 = true then
 (bd (slStr v0 (some t96_9) none) fun t135_45 =>
 (bd (call 61 [t135_45, v1] H) fun r46 =>
 (bd (arA .lss r46.1 (.int .i64 0)) fun t139_47 =>
 (bd (asB t139_47) fun b48 =>
 if b48 = true then
 (some ((.int .i64 (-1)), r46.2))
 else
 (bd (arA .add t96_9 r46.1) fun t142_49 =>
 (some (t142_49, r46.2)))))))
 else
 (s0 v0 v1 v5 v6 v7 t96_9 v9 t98_10 H)))
 else
 (s0 v0 v1 v5 v6 v7 t96_9 v9 t98_10 H)))))
 else
 (s0 v0 v1 v5 v6 v7 t96_9 v9 t98_10 H)))))))))))))
 else
 (bd (arA .add v8 (.int .i64 1)) fun t96_50 =>
 (bd (arA .add v10 (.int .i64 1)) fun t98_51 =>
 (bd (ld1 .dead H) fun t100_52 =>
 (bd (arA .leq v5 t100_52) fun t101_53 =>
 (bd (asB t101_53) fun b54 =>
 if b54 = true then
 (bd (call 60 [t96_50] H) fun r55 =>
 (bd (arA .gtr t98_51 r55.1) fun t106_56 =>
 (bd (asB t106_56) fun b57 =>
 if b57 = true then
 (bd (slStr v0 (some t96_50) none) fun t110_58 =>
 (bd (call 59 [t110_58, v1] r55.2) fun r59 =>
 (bd (arA .geq r59.1 (.int .i64 0)) fun t114_60 =>
 (bd (asB t114_60) fun b61 =>
 if b61 = true then
 (bd (arA .add r59.1 t96_50) fun t117_62 =>
 (some (t117_62, r59.2)))
 else
 (some ((.int .i64 (-1)), r59.2))))))
 else
 (bd (ld1 .dead r55.2) fun t119_63 =>
 (bd (arA .gtr v5 t119_63) fun t120_64 =>
 (bd (asB t120_64) fun b65 =>
 if b65 = true then
 (bd (shA .shr t96_50 (.int .u64 4)) fun t124_66 =>
 (bd (arA .add (.int .i64 4) t124_66) fun t125_67 =>
 (bd (arA .geq t98_51 t125_67) fun t126_68 =>
 (bd (asB t126_68) fun b69 =>
 if b69 = true then
 (bd (arA .lss t96_50 v9) fun t131_70 =>
 (bd (asB t131_70) fun b71 =>
 if b71 = true then
 (bd (slStr v0 (some t96_50) none) fun t135_72 =>
 (bd (call 61 [t135_72, v1] r55.2) fun r73 =>
 (bd (arA .lss r73.1 (.int .i64 0)) fun t139_74 =>
 (bd (asB t139_74) fun b75 =>
 if b75 = true then
 (some ((.int .i64 (-1)), r73.2))
 else
 (bd (arA .add t96_50 r73.1) fun t142_76 =>
 (some (t142_76, r73.2)))))))
 else
 (s0 v0 v1 v5 v6 v7 t96_50 v9 t98_51 r55.2)))
 else
 (s0 v0 v1 v5 v6 v7 t96_50 v9 t98_51 r55.2)))))
 else
 (s0 v0 v1 v5 v6 v7 t96_50 v9 t98_51 r55.2)))))))
 else
 (bd (ld1 .dead H) fun t119_77 =>
 (bd (arA .gtr v5 t119_77) fun t120_78 =>
 (bd (asB t120_78) fun b79 =>
 if b79 = true then
 (bd (shA .shr t96_50 (.int .u64 4)) fun t124_80 =>
 (bd (arA .add (.int .i64 4) t124_80) fun t125_81 =>
 (bd (arA .geq t98_51 t125_81) fun t126_82 =>
 (bd (asB t126_82) fun b83 =>
 if b83 = true then
 (bd (arA .lss t96_50 v9) fun t131_84 =>
 (bd (asB t131_84) fun b85 =>
 if b85 = true then
 (bd (slStr v0 (some t96_50) none) fun t135_86 =>
 (bd (call 61 [t135_86, v1] H) fun r87 =>
 (bd (arA .lss r87.1 (.int .i64 0)) fun t139_88 =>
 (bd (asB t139_88) fun b89 =>
 if b89 = true then
 (some ((.int .i64 (-1)), r87.2))
 else
 (bd (arA .add t96_50 r87.1) fun t142_90 =>
 (some (t142_90, r87.2)))))))
 else
 (s0 v0 v1 v5 v6 v7 t96_50 v9 t98_51 H)))
 else
 (s0 v0 v1 v5 v6 v7 t96_50 v9 t98_51 H)))))
 else
 (s0 v0 v1 v5 v6 v7 t96_50 v9 t98_51 H)))))))))))))
theorem internal_stringslite_Index.r_p1_e (n : Nat) (m0 : Nat) : internal_stringslite_Index.r_p1 @bdI (callA C n) n (internal_stringslite_Index.l0 n m0) = internal_stringslite_Index.p1 n m0 := by
  funext v0 v1 v5 v6 v7 v8 v9 v10 H
  unfold internal_stringslite_Index.r_p1
  kernel_rfl
noncomputable def internal_stringslite_Index.r_l0 (bd : B3) (call : FuncId → List V → Heap → Option R) (n : Nat) (s0 : V → V → V → V → V → V → V → V → Heap → Option R) (v0 v1 v5 v6 v7 v8 v9 v10 : V) (H : Heap) : Option R :=
 (bd (arA .lss v8 v9) fun t59_1 =>
 (bd (asB t59_1) fun b2 =>
 if b2 = true then
 (bd (ixStr v0 v8) fun t62_3 =>
 (bd (arA .neq t62_3 v6) fun t64_4 =>
 (bd (asB t64_4) fun b5 =>
 if b5 = true then
 (bd (arA .add v8 (.int .i64 1)) fun t67_6 =>
 (bd (slStr v0 (some t67_6) (some v9)) fun t69_7 =>
 (bd (call 58 [t69_7, v6] H) fun r8 =>
 (bd (arA .lss r8.1 (.int .i64 0)) fun t73_9 =>
 (bd (asB t73_9) fun b10 =>
 if b10 = true then
 (some ((.int .i64 (-1)), r8.2))
 else
 (bd (arA .add r8.1 (.int .i64 1)) fun t76_11 =>
 (bd (arA .add v8 t76_11) fun t77_12 =>
 (internal_stringslite_Index.r_p1 bd call n s0 v0 v1 v5 v6 v7 t77_12 v9 v10 r8.2))))))))
 else
 (internal_stringslite_Index.r_p1 bd call n s0 v0 v1 v5 v6 v7 v8 v9 v10 H))))
 else
 (some ((.int .i64 (-1)), H))))
theorem internal_stringslite_Index.r_l0_e (n m0 : Nat) : internal_stringslite_Index.r_l0 @bdI (callA C n) n (internal_stringslite_Index.l0 n m0) = internal_stringslite_Index.l0 n (m0 + 1) := by
  funext v0 v1 v5 v6 v7 v8 v9 v10 H
  unfold internal_stringslite_Index.r_l0
  rewrite [internal_stringslite_Index.r_p1_e]
  kernel_rfl
noncomputable def internal_stringslite_Index.r_l0_lp (bd : B3) (call : FuncId → List V → Heap → Option R) (n : Nat) (m : Nat) : V → V → V → V → V → V → V → V → Heap → Option R := Nat.rec (motive := fun _ => V → V → V → V → V → V → V → V → Heap → Option R) (fun _ _ _ _ _ _ _ _ _ => none) (fun _ self => internal_stringslite_Index.r_l0 bd call n self) m
theorem internal_stringslite_Index.r_l0_lp_e (n : Nat) : internal_stringslite_Index.r_l0_lp @bdI (callA C n) n = internal_stringslite_Index.l0 n := by
  funext m
  induction m with
  | zero => funext v0 v1 v5 v6 v7 v8 v9 v10 H; kernel_rfl
  | succ k ih => exact (congrArg (internal_stringslite_Index.r_l0 @bdI (callA C n) n) ih).trans (internal_stringslite_Index.r_l0_e n k)
noncomputable def internal_stringslite_Index.r (bd : B3) (call : FuncId → List V → Heap → Option R) (n : Nat) (v0 v1 : V) (H : Heap) : Option R :=
 (bd (lenStr v1) fun t15_1 =>
 (bd (arA .eql t15_1 (.int .i64 0)) fun t18_2 =>
 (bd (asB t18_2) fun b3 =>
 if b3 = true then
 (some ((.int .i64 0), H))
 else
 (bd (arA .eql v1 v0) fun t22_4 =>
 (bd (asB t22_4) fun b5 =>
 if b5 = true then
 (some ((.int .i64 0), H))
 else
 (bd (arA .eql t15_1 (.int .i64 1)) fun t26_6 =>
 (bd (asB t26_6) fun b7 =>
 if b7 = true then
 (bd (ixStr v1 (.int .i64 0)) fun t29_8 =>
 (bd (call 58 [v0, t29_8] H) fun r9 =>
 (some (r9.1, r9.2))))
 else
 (bd (lenStr v0) fun t34_10 =>
 (bd (arA .geq t15_1 t34_10) fun t35_11 =>
 (bd (asB t35_11) fun b12 =>
 if b12 = true then
 (some ((.int .i64 (-1)), H))
 else
 (bd (ld1 .dead H) fun t38_13 =>
 (bd (arA .leq t15_1 t38_13) fun t39_14 =>
 (bd (asB t39_14) fun b15 =>
 if b15 = true then
 (bd (lenStr v0) fun t42_16 =>
 (bd (arA .leq t42_16 (.int .i64 64)) fun t43_17 =>
 (bd (asB t43_17) fun b18 =>
 if b18 = true then
 (bd (call 59 [v0, v1] H) fun r19 =>
 (some (r19.1, r19.2)))
 else
 (bd (ixStr v1 (.int .i64 0)) fun t49_20 =>
 (bd (ixStr v1 (.int .i64 1)) fun t51_21 =>
 (bd (lenStr v0) fun t53_22 =>
 (bd (arA .sub t53_22 t15_1) fun t55_23 =>
 (bd (arA .add t55_23 (.int .i64 1)) fun t56_24 =>
 (internal_stringslite_Index.r_l0_lp bd call n n v0 v1 t15_1 t49_20 t51_21 (.int .i64 0) t56_24 (.int .i64 0) H)))))))))
 else
 (bd (ixStr v1 (.int .i64 0)) fun t49_25 =>
 (bd (ixStr v1 (.int .i64 1)) fun t51_26 =>
 (bd (lenStr v0) fun t53_27 =>
 (bd (arA .sub t53_27 t15_1) fun t55_28 =>
 (bd (arA .add t55_28 (.int .i64 1)) fun t56_29 =>
 (internal_stringslite_Index.r_l0_lp bd call n n v0 v1 t15_1 t49_25 t51_26 (.int .i64 0) t56_29 (.int .i64 0) H)))))))))))))))))))
theorem internal_stringslite_Index.r_e (n : Nat) (v0 v1 : V) (H : Heap) : internal_stringslite_Index.r @bdI (callA C n) n v0 v1 H = E C n 39 [] (argsA 0 [v0, v1]) H (kR C 39) := by
  unfold internal_stringslite_Index.r
  rewrite [internal_stringslite_Index.r_l0_lp_e]
  kernel_rfl
noncomputable def internal_stringslite_Index.rf (bd : B3) (call : FuncId → List V → Heap → Option R) (n : Nat) (a : List V) (H : Heap) : Option R := (match a with | [v0, v1] => internal_stringslite_Index.r bd call n v0 v1 H | a => E C n 39 [] (argsA 0 a) H (kR C 39))
theorem internal_stringslite_Index.rf_b (n : Nat) (a : List V) (H : Heap) : (match a with | [v0, v1] => internal_stringslite_Index.r @bdI (callA C n) n v0 v1 H | a => E C n 39 [] (argsA 0 a) H (kR C 39)) = E C n 39 [] (argsA 0 a) H (kR C 39) := by
  split
  · exact internal_stringslite_Index.r_e n _ _ H
  · rfl
theorem internal_stringslite_Index.rf_e (n : Nat) (a : List V) (H : Heap) : internal_stringslite_Index.rf @bdI (callA C n) n a H = callA C (n + 1) 39 a H := by
  unfold internal_stringslite_Index.rf
  refine (internal_stringslite_Index.rf_b n a H).trans ?_
  kernel_rfl
end Go.AM.L
end
section
set_option linter.unusedVariables false
set_option linter.unusedSimpArgs false
set_option maxRecDepth 1000000
set_option linter.unusedVariables false
namespace Go.AM.L
noncomputable def lex_within.r (bd : B3) (call : FuncId → List V → Heap → Option R) (n : Nat) (v0 v1 : V) (H : Heap) : Option R :=
 (bd (lenStr v0) fun t7_1 =>
 (bd (mmA false [v1, t7_1]) fun t8_2 =>
 (bd (mmA true [t8_2, (.int .i64 0)]) fun t9_3 =>
 (some (t9_3, H)))))
theorem lex_within.r_e (n : Nat) (v0 v1 : V) (H : Heap) : lex_within.r @bdI (callA C n) n v0 v1 H = E C n 43 [] (argsA 0 [v0, v1]) H (kR C 43) := by
  unfold lex_within.r
  kernel_rfl
noncomputable def lex_within.rf (bd : B3) (call : FuncId → List V → Heap → Option R) (n : Nat) (a : List V) (H : Heap) : Option R := pureA a H fun a => (match a with | [v0, v1] => lex_within.r bd call n v0 v1 ⟨0, .nil⟩ | a => E C n 43 [] (argsA 0 a) ⟨0, .nil⟩ (kR C 43))
theorem lex_within.rf_b (n : Nat) (a : List V) (H : Heap) : (match a with | [v0, v1] => lex_within.r @bdI (callA C n) n v0 v1 H | a => E C n 43 [] (argsA 0 a) H (kR C 43)) = E C n 43 [] (argsA 0 a) H (kR C 43) := by
  split
  · exact lex_within.r_e n _ _ H
  · rfl
theorem lex_within.rf_e (n : Nat) (a : List V) (H : Heap) : lex_within.rf @bdI (callA C n) n a H = callA C (n + 1) 43 a H := by
  unfold lex_within.rf
  refine (congrArg (pureA a H) (funext fun a => lex_within.rf_b n a ⟨0, .nil⟩)).trans ?_
  kernel_rfl
noncomputable def lex_digit.r (bd : B3) (call : FuncId → List V → Heap → Option R) (n : Nat) (v0 : V) (H : Heap) : Option R :=
 (bd (arA .geq v0 (.int .u8 48)) fun t4_1 =>
 (bd (asB t4_1) fun b2 =>
 if b2 = true then
 (bd (arA .leq v0 (.int .u8 57)) fun t7_3 =>
 (some (t7_3, H)))
 else
 (some ((.bool false), H))))
theorem lex_digit.r_e (n : Nat) (v0 : V) (H : Heap) : lex_digit.r @bdI (callA C n) n v0 H = E C n 44 [] (argsA 0 [v0]) H (kR C 44) := by
  unfold lex_digit.r
  kernel_rfl
noncomputable def lex_digit.rf (bd : B3) (call : FuncId → List V → Heap → Option R) (n : Nat) (a : List V) (H : Heap) : Option R := pureA a H fun a => (match a with | [v0] => lex_digit.r bd call n v0 ⟨0, .nil⟩ | a => E C n 44 [] (argsA 0 a) ⟨0, .nil⟩ (kR C 44))
theorem lex_digit.rf_b (n : Nat) (a : List V) (H : Heap) : (match a with | [v0] => lex_digit.r @bdI (callA C n) n v0 H | a => E C n 44 [] (argsA 0 a) H (kR C 44)) = E C n 44 [] (argsA 0 a) H (kR C 44) := by
  split
  · exact lex_digit.r_e n _ H
  · rfl
theorem lex_digit.rf_e (n : Nat) (a : List V) (H : Heap) : lex_digit.rf @bdI (callA C n) n a H = callA C (n + 1) 44 a H := by
  unfold lex_digit.rf
  refine (congrArg (pureA a H) (funext fun a => lex_digit.rf_b n a ⟨0, .nil⟩)).trans ?_
  kernel_rfl
noncomputable def strings_Builder_copyCheck.r (bd : B3) (call : FuncId → List V → Heap → Option R) (n : Nat) (v0 : V) (H : Heap) : Option R :=
 (bd (nilC v0) fun t3_1 =>
 (bd (faA 0 t3_1) fun t4_2 =>
 (bd (ld1 t4_2 H) fun t5_3 =>
 (bd (eqlA P ty_p_strings_Builder t5_3 (.ptr none)) fun t6_4 =>
 (bd (asB t6_4) fun b5 =>
 if b5 = true then
 (bd (cvUp (some 2) v0 H) fun t9_6 =>
 (bd (call 64 [t9_6] H) fun r7 =>
 (bd (cvDn P ty_strings_Builder r7.1 r7.2) fun t11_8 =>
 (bd (nilC v0) fun t12_9 =>
 (bd (faA 0 t12_9) fun t13_10 =>
 (bd (stA 1 t13_10 t11_8 r7.2) fun H11 =>
 (some (.tuple [], H11))))))))
 else
 (bd (nilC v0) fun t15_12 =>
 (bd (faA 0 t15_12) fun t16_13 =>
 (bd (ld1 t16_13 H) fun t17_14 =>
 (bd (neqA P ty_p_strings_Builder t17_14 v0) fun t19_15 =>
 (bd (asB t19_15) fun b16 =>
 if b16 = true then
 none
 else
 (some (.tuple [], H))))))))))))
theorem strings_Builder_copyCheck.r_e (n : Nat) (v0 : V) (H : Heap) : strings_Builder_copyCheck.r @bdI (callA C n) n v0 H = E C n 45 [] (argsA 0 [v0]) H (kR C 45) := by
  unfold strings_Builder_copyCheck.r
  kernel_rfl
noncomputable def strings_Builder_copyCheck.rf (bd : B3) (call : FuncId → List V → Heap → Option R) (n : Nat) (a : List V) (H : Heap) : Option R := (match a with | [v0] => strings_Builder_copyCheck.r bd call n v0 H | a => E C n 45 [] (argsA 0 a) H (kR C 45))
theorem strings_Builder_copyCheck.rf_b (n : Nat) (a : List V) (H : Heap) : (match a with | [v0] => strings_Builder_copyCheck.r @bdI (callA C n) n v0 H | a => E C n 45 [] (argsA 0 a) H (kR C 45)) = E C n 45 [] (argsA 0 a) H (kR C 45) := by
  split
  · exact strings_Builder_copyCheck.r_e n _ H
  · rfl
theorem strings_Builder_copyCheck.rf_e (n : Nat) (a : List V) (H : Heap) : strings_Builder_copyCheck.rf @bdI (callA C n) n a H = callA C (n + 1) 45 a H := by
  unfold strings_Builder_copyCheck.rf
  refine (strings_Builder_copyCheck.rf_b n a H).trans ?_
  kernel_rfl
@[irreducible] noncomputable def strings_Builder_Grow.p0 (n : Nat) (v0 v1 : V) (H : Heap) : Option R := E C n 46 [1, 1] [(0, v0), (1, v1)] H (kR C 46)
noncomputable def strings_Builder_Grow.r_p0 (bd : B3) (call : FuncId → List V → Heap → Option R) (n : Nat) (v0 v1 : V) (H : Heap) : Option R :=
 (bd (nilC v0) fun t10_1 =>
 (bd (faA 1 t10_1) fun t11_2 =>
 (bd (ld1 t11_2 (H.more 0)) fun t12_3 =>
 (bd (capSl t12_3) fun t13_4 =>
 (bd (nilC v0) fun t15_5 =>
 (bd (faA 1 t15_5) fun t16_6 =>
 (bd (ld1 t16_6 (H.more 0)) fun t17_7 =>
 (bd (chk (ld1 t16_6 (H.more 0)) t17_7) fun _ =>
 (bd (lenSl t17_7) fun t18_8 =>
 (bd (arA .sub t13_4 t18_8) fun t19_9 =>
 (bd (arA .lss t19_9 v1) fun t21_10 =>
 (bd (asB t21_10) fun b11 =>
 if b11 = true then
 (bd (call 65 [v0, v1] (H.more 0)) fun r12 =>
 (some (.tuple [], r12.2)))
 else
 (some (.tuple [], (H.more 0)))))))))))))))
theorem strings_Builder_Grow.r_p0_e (n : Nat) : strings_Builder_Grow.r_p0 @bdI (callA C n) n = strings_Builder_Grow.p0 n := by
  funext v0 v1 H
  unfold strings_Builder_Grow.r_p0
  kernel_rfl
noncomputable def strings_Builder_Grow.r (bd : B3) (call : FuncId → List V → Heap → Option R) (n : Nat) (v0 v1 : V) (H : Heap) : Option R :=
 (bd (call 45 [v0] H) fun r1 =>
 (bd (arA .lss v1 (.int .i64 0)) fun t7_2 =>
 (bd (asB t7_2) fun b3 =>
 if b3 = true then
 none
 else
 (strings_Builder_Grow.r_p0 bd call n v0 v1 r1.2))))
theorem strings_Builder_Grow.r_e (n : Nat) (v0 v1 : V) (H : Heap) : strings_Builder_Grow.r @bdI (callA C n) n v0 v1 H = E C n 46 [] (argsA 0 [v0, v1]) H (kR C 46) := by
  unfold strings_Builder_Grow.r
  rewrite [strings_Builder_Grow.r_p0_e]
  kernel_rfl
noncomputable def strings_Builder_Grow.rf (bd : B3) (call : FuncId → List V → Heap → Option R) (n : Nat) (a : List V) (H : Heap) : Option R := (match a with | [v0, v1] => strings_Builder_Grow.r bd call n v0 v1 H | a => E C n 46 [] (argsA 0 a) H (kR C 46))
theorem strings_Builder_Grow.rf_b (n : Nat) (a : List V) (H : Heap) : (match a with | [v0, v1] => strings_Builder_Grow.r @bdI (callA C n) n v0 v1 H | a => E C n 46 [] (argsA 0 a) H (kR C 46)) = E C n 46 [] (argsA 0 a) H (kR C 46) := by
  split
  · exact strings_Builder_Grow.r_e n _ _ H
  · rfl
theorem strings_Builder_Grow.rf_e (n : Nat) (a : List V) (H : Heap) : strings_Builder_Grow.rf @bdI (callA C n) n a H = callA C (n + 1) 46 a H := by
  unfold strings_Builder_Grow.rf
  refine (strings_Builder_Grow.rf_b n a H).trans ?_
  kernel_rfl
noncomputable def session_Open.r (bd : B3) (call : FuncId → List V → Heap → Option R) (n : Nat) (v0 v1 : V) (H : Heap) : Option R :=
 (bd (call 66 [v0, v1] H) fun r1 =>
 (bd (extA r1.1 0) fun t9_2 =>
 (bd (extA r1.1 1) fun t10_3 =>
 (some (.tuple [t9_2, t10_3], r1.2)))))
theorem session_Open.r_e (n : Nat) (v0 v1 : V) (H : Heap) : session_Open.r @bdI (callA C n) n v0 v1 H = E C n 47 [] (argsA 0 [v0, v1]) H (kR C 47) := by
  unfold session_Open.r
  kernel_rfl
noncomputable def session_Open.rf (bd : B3) (call : FuncId → List V → Heap → Option R) (n : Nat) (a : List V) (H : Heap) : Option R := (match a with | [v0, v1] => session_Open.r bd call n v0 v1 H | a => E C n 47 [] (argsA 0 a) H (kR C 47))
theorem session_Open.rf_b (n : Nat) (a : List V) (H : Heap) : (match a with | [v0, v1] => session_Open.r @bdI (callA C n) n v0 v1 H | a => E C n 47 [] (argsA 0 a) H (kR C 47)) = E C n 47 [] (argsA 0 a) H (kR C 47) := by
  split
  · exact session_Open.r_e n _ _ H
  · rfl
theorem session_Open.rf_e (n : Nat) (a : List V) (H : Heap) : session_Open.rf @bdI (callA C n) n a H = callA C (n + 1) 47 a H := by
  unfold session_Open.rf
  refine (session_Open.rf_b n a H).trans ?_
  kernel_rfl
noncomputable def shell_shell_done.r (bd : B3) (call : FuncId → List V → Heap → Option R) (n : Nat) (v0 v1 : V) (H : Heap) : Option R :=
 (bd (call 51 [v0, v1] H) fun r1 =>
 (bd (unA .not r1.1) fun t7_2 =>
 (bd (asB t7_2) fun b3 =>
 if b3 = true then
 (bd (bSl 1 ty_string [(.str [])] 1 [(0, (.str [111, 107]))]) fun o4 =>
 (bd (call 15 [v0, (.slice ⟨some (r1.2.n, 0), 1, 1, false⟩)] (r1.2.push o4)) fun r5 =>
 (some (.tuple [], r5.2))))
 else
 (some (.tuple [], r1.2)))))
theorem shell_shell_done.r_e (n : Nat) (v0 v1 : V) (H : Heap) : shell_shell_done.r @bdI (callA C n) n v0 v1 H = E C n 48 [] (argsA 0 [v0, v1]) H (kR C 48) := by
  unfold shell_shell_done.r
  kernel_rfl
noncomputable def shell_shell_done.rf (bd : B3) (call : FuncId → List V → Heap → Option R) (n : Nat) (a : List V) (H : Heap) : Option R := (match a with | [v0, v1] => shell_shell_done.r bd call n v0 v1 H | a => E C n 48 [] (argsA 0 a) H (kR C 48))
theorem shell_shell_done.rf_b (n : Nat) (a : List V) (H : Heap) : (match a with | [v0, v1] => shell_shell_done.r @bdI (callA C n) n v0 v1 H | a => E C n 48 [] (argsA 0 a) H (kR C 48)) = E C n 48 [] (argsA 0 a) H (kR C 48) := by
  split
  · exact shell_shell_done.r_e n _ _ H
  · rfl
theorem shell_shell_done.rf_e (n : Nat) (a : List V) (H : Heap) : shell_shell_done.rf @bdI (callA C n) n a H = callA C (n + 1) 48 a H := by
  unfold shell_shell_done.rf
  refine (shell_shell_done.rf_b n a H).trans ?_
  kernel_rfl
noncomputable def session_Session_Do.r (bd : B3) (call : FuncId → List V → Heap → Option R) (n : Nat) (v0 v1 : V) (H : Heap) : Option R :=
 (bd (boxA ty_api_Cmd v1) fun o1 =>
 (bd (ldN 5 (.ptr (some (H.n, 0))) ((H.push o1).push (.cells [(.int .i64 0), (.int .i64 0), (.bool false), (.str []), (.bool false), (.int .i64 0), (.int .i64 0), (.slice ⟨none, 0, 0, false⟩), (.slice ⟨none, 0, 0, false⟩)] ty_api_Ans false))) fun t6_2 =>
 (bd (call 67 [v0, t6_2] ((H.push o1).push (.cells [(.int .i64 0), (.int .i64 0), (.bool false), (.str []), (.bool false), (.int .i64 0), (.int .i64 0), (.slice ⟨none, 0, 0, false⟩), (.slice ⟨none, 0, 0, false⟩)] ty_api_Ans false))) fun r3 =>
 (bd (stA 9 (.ptr (some ((H.push o1).n, 0))) r3.1 r3.2) fun H4 =>
 (bd (ldN 9 (.ptr (some ((H.push o1).n, 0))) H4) fun t5 =>
 (frzR t5 H4))))))
theorem session_Session_Do.r_e (n : Nat) (v0 v1 : V) (H : Heap) : session_Session_Do.r @bdI (callA C n) n v0 v1 H = E C n 49 [] (argsA 0 [v0, v1]) H (kR C 49) := by
  unfold session_Session_Do.r
  kernel_rfl
noncomputable def session_Session_Do.rf (bd : B3) (call : FuncId → List V → Heap → Option R) (n : Nat) (a : List V) (H : Heap) : Option R := (match a with | [v0, v1] => session_Session_Do.r bd call n v0 v1 H | a => E C n 49 [] (argsA 0 a) H (kR C 49))
theorem session_Session_Do.rf_b (n : Nat) (a : List V) (H : Heap) : (match a with | [v0, v1] => session_Session_Do.r @bdI (callA C n) n v0 v1 H | a => E C n 49 [] (argsA 0 a) H (kR C 49)) = E C n 49 [] (argsA 0 a) H (kR C 49) := by
  split
  · exact session_Session_Do.r_e n _ _ H
  · rfl
theorem session_Session_Do.rf_e (n : Nat) (a : List V) (H : Heap) : session_Session_Do.rf @bdI (callA C n) n a H = callA C (n + 1) 49 a H := by
  unfold session_Session_Do.rf
  refine (session_Session_Do.rf_b n a H).trans ?_
  kernel_rfl
noncomputable def shell_num.r (bd : B3) (call : FuncId → List V → Heap → Option R) (n : Nat) (v0 : V) (H : Heap) : Option R :=
 (bd (call 68 [v0] H) fun r1 =>
 (some (r1.1, r1.2)))
theorem shell_num.r_e (n : Nat) (v0 : V) (H : Heap) : shell_num.r @bdI (callA C n) n v0 H = E C n 50 [] (argsA 0 [v0]) H (kR C 50) := by
  unfold shell_num.r
  kernel_rfl
noncomputable def shell_num.rf (bd : B3) (call : FuncId → List V → Heap → Option R) (n : Nat) (a : List V) (H : Heap) : Option R := pureA a H fun a => (match a with | [v0] => shell_num.r bd call n v0 ⟨0, .nil⟩ | a => E C n 50 [] (argsA 0 a) ⟨0, .nil⟩ (kR C 50))
theorem shell_num.rf_b (n : Nat) (a : List V) (H : Heap) : (match a with | [v0] => shell_num.r @bdI (callA C n) n v0 H | a => E C n 50 [] (argsA 0 a) H (kR C 50)) = E C n 50 [] (argsA 0 a) H (kR C 50) := by
  split
  · exact shell_num.r_e n _ H
  · rfl
theorem shell_num.rf_e (n : Nat) (a : List V) (H : Heap) : shell_num.rf @bdI (callA C n) n a H = callA C (n + 1) 50 a H := by
  unfold shell_num.rf
  refine (congrArg (pureA a H) (funext fun a => shell_num.rf_b n a ⟨0, .nil⟩)).trans ?_
  kernel_rfl
noncomputable def shell_shell_fails.r (bd : B3) (call : FuncId → List V → Heap → Option R) (n : Nat) (v0 v1 : V) (H : Heap) : Option R :=
 (bd (arA .neq v1 (.int .i64 0)) fun t6_1 =>
 (bd (asB t6_1) fun b2 =>
 if b2 = true then
 (bd (call 50 [v1] H) fun r3 =>
 (bd (bSl 1 ty_string [(.str [])] 2 [(0, (.str [101, 114, 114, 111, 114])), (1, r3.1)]) fun o4 =>
 (bd (call 15 [v0, (.slice ⟨some (r3.2.n, 0), 2, 1, false⟩)] (r3.2.push o4)) fun r5 =>
 (bd (arA .neq v1 (.int .i64 0)) fun t13_6 =>
 (some (t13_6, r5.2))))))
 else
 (bd (arA .neq v1 (.int .i64 0)) fun t13_7 =>
 (some (t13_7, H)))))
theorem shell_shell_fails.r_e (n : Nat) (v0 v1 : V) (H : Heap) : shell_shell_fails.r @bdI (callA C n) n v0 v1 H = E C n 51 [] (argsA 0 [v0, v1]) H (kR C 51) := by
  unfold shell_shell_fails.r
  kernel_rfl
noncomputable def shell_shell_fails.rf (bd : B3) (call : FuncId → List V → Heap → Option R) (n : Nat) (a : List V) (H : Heap) : Option R := (match a with | [v0, v1] => shell_shell_fails.r bd call n v0 v1 H | a => E C n 51 [] (argsA 0 a) H (kR C 51))
theorem shell_shell_fails.rf_b (n : Nat) (a : List V) (H : Heap) : (match a with | [v0, v1] => shell_shell_fails.r @bdI (callA C n) n v0 v1 H | a => E C n 51 [] (argsA 0 a) H (kR C 51)) = E C n 51 [] (argsA 0 a) H (kR C 51) := by
  split
  · exact shell_shell_fails.r_e n _ _ H
  · rfl
theorem shell_shell_fails.rf_e (n : Nat) (a : List V) (H : Heap) : shell_shell_fails.rf @bdI (callA C n) n a H = callA C (n + 1) 51 a H := by
  unfold shell_shell_fails.rf
  refine (shell_shell_fails.rf_b n a H).trans ?_
  kernel_rfl
noncomputable def internal_stringslite_IndexByte.r (bd : B3) (call : FuncId → List V → Heap → Option R) (n : Nat) (v0 v1 : V) (H : Heap) : Option R :=
 (bd (call 77 [v0, v1] H) fun r1 =>
 (some (r1.1, r1.2)))
theorem internal_stringslite_IndexByte.r_e (n : Nat) (v0 v1 : V) (H : Heap) : internal_stringslite_IndexByte.r @bdI (callA C n) n v0 v1 H = E C n 58 [] (argsA 0 [v0, v1]) H (kR C 58) := by
  unfold internal_stringslite_IndexByte.r
  kernel_rfl
noncomputable def internal_stringslite_IndexByte.rf (bd : B3) (call : FuncId → List V → Heap → Option R) (n : Nat) (a : List V) (H : Heap) : Option R := (match a with | [v0, v1] => internal_stringslite_IndexByte.r bd call n v0 v1 H | a => E C n 58 [] (argsA 0 a) H (kR C 58))
theorem internal_stringslite_IndexByte.rf_b (n : Nat) (a : List V) (H : Heap) : (match a with | [v0, v1] => internal_stringslite_IndexByte.r @bdI (callA C n) n v0 v1 H | a => E C n 58 [] (argsA 0 a) H (kR C 58)) = E C n 58 [] (argsA 0 a) H (kR C 58) := by
  split
  · exact internal_stringslite_IndexByte.r_e n _ _ H
  · rfl
theorem internal_stringslite_IndexByte.rf_e (n : Nat) (a : List V) (H : Heap) : internal_stringslite_IndexByte.rf @bdI (callA C n) n a H = callA C (n + 1) 58 a H := by
  unfold internal_stringslite_IndexByte.rf
  refine (internal_stringslite_IndexByte.rf_b n a H).trans ?_
  kernel_rfl
noncomputable def strings_Builder_grow.r (bd : B3) (call : FuncId → List V → Heap → Option R) (n : Nat) (v0 v1 : V) (H : Heap) : Option R :=
 (bd (nilC v0) fun t6_1 =>
 (bd (faA 1 t6_1) fun t7_2 =>
 (bd (ld1 t7_2 (H.more 0)) fun t8_3 =>
 (bd (capSl t8_3) fun t9_4 =>
 (bd (arA .mul (.int .i64 2) t9_4) fun t10_5 =>
 (bd (arA .add t10_5 v1) fun t12_6 =>
 (bd (call 81 [t12_6] (H.more 0)) fun r7 =>
 (bd (nilC v0) fun t15_8 =>
 (bd (faA 1 t15_8) fun t16_9 =>
 (bd (ld1 t16_9 r7.2) fun t17_10 =>
 (bd (chk (ld1 t16_9 (H.more 0)) t17_10) fun _ =>
 (bd (chk (ld1 t16_9 (H.more 0)) t17_10) fun _ =>
 (bd (lenSl t17_10) fun t18_11 =>
 (bd (slSl 1 r7.1 none (some t18_11)) fun t19_12 =>
 (bd (nilC v0) fun t22_13 =>
 (bd (faA 1 t22_13) fun t23_14 =>
 (bd (ld1 t23_14 r7.2) fun t24_15 =>
 (bd (copyA 1 t19_12 t24_15 r7.2) fun p16 =>
 (bd (nilC v0) fun t28_17 =>
 (bd (faA 1 t28_17) fun t29_18 =>
 (bd (stA 1 t29_18 t19_12 p16.2) fun H19 =>
 (some (.tuple [], H19)))))))))))))))))))))))
theorem strings_Builder_grow.r_e (n : Nat) (v0 v1 : V) (H : Heap) : strings_Builder_grow.r @bdI (callA C n) n v0 v1 H = E C n 65 [] (argsA 0 [v0, v1]) H (kR C 65) := by
  unfold strings_Builder_grow.r
  kernel_rfl
noncomputable def strings_Builder_grow.rf (bd : B3) (call : FuncId → List V → Heap → Option R) (n : Nat) (a : List V) (H : Heap) : Option R := (match a with | [v0, v1] => strings_Builder_grow.r bd call n v0 v1 H | a => E C n 65 [] (argsA 0 a) H (kR C 65))
theorem strings_Builder_grow.rf_b (n : Nat) (a : List V) (H : Heap) : (match a with | [v0, v1] => strings_Builder_grow.r @bdI (callA C n) n v0 v1 H | a => E C n 65 [] (argsA 0 a) H (kR C 65)) = E C n 65 [] (argsA 0 a) H (kR C 65) := by
  split
  · exact strings_Builder_grow.r_e n _ _ H
  · rfl
theorem strings_Builder_grow.rf_e (n : Nat) (a : List V) (H : Heap) : strings_Builder_grow.rf @bdI (callA C n) n a H = callA C (n + 1) 65 a H := by
  unfold strings_Builder_grow.rf
  refine (strings_Builder_grow.rf_b n a H).trans ?_
  kernel_rfl
noncomputable def session_open.r (bd : B3) (call : FuncId → List V → Heap → Option R) (n : Nat) (v0 v1 : V) (H : Heap) : Option R :=
 (bd (call 82 [v0, v1] H) fun r1 =>
 (bd (extA r1.1 0) fun t12_2 =>
 (bd (extA r1.1 1) fun t13_3 =>
 (bd (arA .neq t13_3 (.int .i64 0)) fun t15_4 =>
 (bd (asB t15_4) fun b5 =>
 if b5 = true then
 (some (.tuple [(.ptr none), t13_3], r1.2))
 else
 (bd (flA [(0, 1)] [(.ptr none)] [(0, t12_2)]) fun t18_6 =>
 (bd (boxA ty_session_Session t18_6) fun o7 =>
 (some (.tuple [(.ptr (some (r1.2.n, 0))), (.int .i64 0)], (r1.2.push o7))))))))))
theorem session_open.r_e (n : Nat) (v0 v1 : V) (H : Heap) : session_open.r @bdI (callA C n) n v0 v1 H = E C n 66 [] (argsA 0 [v0, v1]) H (kR C 66) := by
  unfold session_open.r
  kernel_rfl
noncomputable def session_open.rf (bd : B3) (call : FuncId → List V → Heap → Option R) (n : Nat) (a : List V) (H : Heap) : Option R := (match a with | [v0, v1] => session_open.r bd call n v0 v1 H | a => E C n 66 [] (argsA 0 a) H (kR C 66))
theorem session_open.rf_b (n : Nat) (a : List V) (H : Heap) : (match a with | [v0, v1] => session_open.r @bdI (callA C n) n v0 v1 H | a => E C n 66 [] (argsA 0 a) H (kR C 66)) = E C n 66 [] (argsA 0 a) H (kR C 66) := by
  split
  · exact session_open.r_e n _ _ H
  · rfl
theorem session_open.rf_e (n : Nat) (a : List V) (H : Heap) : session_open.rf @bdI (callA C n) n a H = callA C (n + 1) 66 a H := by
  unfold session_open.rf
  refine (session_open.rf_b n a H).trans ?_
  kernel_rfl
noncomputable def session_Session_do.r (bd : B3) (call : FuncId → List V → Heap → Option R) (n : Nat) (v0 v1 : V) (H : Heap) : Option R :=
 (bd (boxA ty_api_Cmd v1) fun o1 =>
 (bd (eqlA P ty_p_session_Session v0 (.ptr none)) fun t8_2 =>
 (bd (asB t8_2) fun b3 =>
 if b3 = true then
 (bd (flA [(0, 1), (1, 1), (2, 1), (3, 1), (4, 3), (7, 1), (8, 1)] [(.int .i64 0), (.int .i64 0), (.bool false), (.str []), (.bool false), (.int .i64 0), (.int .i64 0), (.slice ⟨none, 0, 0, false⟩), (.slice ⟨none, 0, 0, false⟩)] [(0, (.int .i64 10))]) fun t9_4 =>
 (bd (stA 9 (.ptr (some ((H.push o1).n, 0))) t9_4 ((H.push o1).push (.cells [(.int .i64 0), (.int .i64 0), (.bool false), (.str []), (.bool false), (.int .i64 0), (.int .i64 0), (.slice ⟨none, 0, 0, false⟩), (.slice ⟨none, 0, 0, false⟩)] ty_api_Ans false))) fun H5 =>
 (bd (ldN 9 (.ptr (some ((H.push o1).n, 0))) H5) fun t6 =>
 (frzR t6 H5))))
 else
 (bd (ldN 5 (.ptr (some (H.n, 0))) ((H.push o1).push (.cells [(.int .i64 0), (.int .i64 0), (.bool false), (.str []), (.bool false), (.int .i64 0), (.int .i64 0), (.slice ⟨none, 0, 0, false⟩), (.slice ⟨none, 0, 0, false⟩)] ty_api_Ans false))) fun t10_7 =>
 (bd (call 83 [t10_7] ((H.push o1).push (.cells [(.int .i64 0), (.int .i64 0), (.bool false), (.str []), (.bool false), (.int .i64 0), (.int .i64 0), (.slice ⟨none, 0, 0, false⟩), (.slice ⟨none, 0, 0, false⟩)] ty_api_Ans false))) fun r8 =>
 (bd (neqA P ty_interface r8.1 .nilIface) fun t13_9 =>
 (bd (asB t13_9) fun b10 =>
 if b10 = true then
 (bd (call 84 [v0, r8.1] r8.2) fun r11 =>
 (bd (stA 9 (.ptr (some ((H.push o1).n, 0))) r11.1 r11.2) fun H12 =>
 (bd (ldN 9 (.ptr (some ((H.push o1).n, 0))) H12) fun t13 =>
 (frzR t13 H12))))
 else
 (bd (ldN 5 (.ptr (some (H.n, 0))) r8.2) fun t17_14 =>
 (bd (call 85 [t17_14] r8.2) fun r15 =>
 (bd (neqA P ty_interface r15.1 .nilIface) fun t20_16 =>
 (bd (asB t20_16) fun b17 =>
 if b17 = true then
 (bd (call 86 [v0, r15.1] r15.2) fun r18 =>
 (bd (stA 9 (.ptr (some ((H.push o1).n, 0))) r18.1 r18.2) fun H19 =>
 (bd (ldN 9 (.ptr (some ((H.push o1).n, 0))) H19) fun t20 =>
 (frzR t20 H19))))
 else
 (bd (flA [(0, 1), (1, 1), (2, 1), (3, 1), (4, 3), (7, 1), (8, 1)] [(.int .i64 0), (.int .i64 0), (.bool false), (.str []), (.bool false), (.int .i64 0), (.int .i64 0), (.slice ⟨none, 0, 0, false⟩), (.slice ⟨none, 0, 0, false⟩)] [(0, (.int .i64 1))]) fun t24_21 =>
 (bd (stA 9 (.ptr (some ((H.push o1).n, 0))) t24_21 r15.2) fun H22 =>
 (bd (ldN 9 (.ptr (some ((H.push o1).n, 0))) H22) fun t23 =>
 (frzR t23 H22)))))))))))))))
theorem session_Session_do.r_e (n : Nat) (v0 v1 : V) (H : Heap) : session_Session_do.r @bdI (callA C n) n v0 v1 H = E C n 67 [] (argsA 0 [v0, v1]) H (kR C 67) := by
  unfold session_Session_do.r
  kernel_rfl
noncomputable def session_Session_do.rf (bd : B3) (call : FuncId → List V → Heap → Option R) (n : Nat) (a : List V) (H : Heap) : Option R := (match a with | [v0, v1] => session_Session_do.r bd call n v0 v1 H | a => E C n 67 [] (argsA 0 a) H (kR C 67))
theorem session_Session_do.rf_b (n : Nat) (a : List V) (H : Heap) : (match a with | [v0, v1] => session_Session_do.r @bdI (callA C n) n v0 v1 H | a => E C n 67 [] (argsA 0 a) H (kR C 67)) = E C n 67 [] (argsA 0 a) H (kR C 67) := by
  split
  · exact session_Session_do.r_e n _ _ H
  · rfl
theorem session_Session_do.rf_e (n : Nat) (a : List V) (H : Heap) : session_Session_do.rf @bdI (callA C n) n a H = callA C (n + 1) 67 a H := by
  unfold session_Session_do.rf
  refine (session_Session_do.rf_b n a H).trans ?_
  kernel_rfl
noncomputable def strconv_Itoa.r (bd : B3) (call : FuncId → List V → Heap → Option R) (n : Nat) (v0 : V) (H : Heap) : Option R :=
 (bd (call 87 [v0] H) fun r1 =>
 (some (r1.1, r1.2)))
theorem strconv_Itoa.r_e (n : Nat) (v0 : V) (H : Heap) : strconv_Itoa.r @bdI (callA C n) n v0 H = E C n 68 [] (argsA 0 [v0]) H (kR C 68) := by
  unfold strconv_Itoa.r
  kernel_rfl
noncomputable def strconv_Itoa.rf (bd : B3) (call : FuncId → List V → Heap → Option R) (n : Nat) (a : List V) (H : Heap) : Option R := (match a with | [v0] => strconv_Itoa.r bd call n v0 H | a => E C n 68 [] (argsA 0 a) H (kR C 68))
theorem strconv_Itoa.rf_b (n : Nat) (a : List V) (H : Heap) : (match a with | [v0] => strconv_Itoa.r @bdI (callA C n) n v0 H | a => E C n 68 [] (argsA 0 a) H (kR C 68)) = E C n 68 [] (argsA 0 a) H (kR C 68) := by
  split
  · exact strconv_Itoa.r_e n _ H
  · rfl
theorem strconv_Itoa.rf_e (n : Nat) (a : List V) (H : Heap) : strconv_Itoa.rf @bdI (callA C n) n a H = callA C (n + 1) 68 a H := by
  unfold strconv_Itoa.rf
  refine (strconv_Itoa.rf_b n a H).trans ?_
  kernel_rfl
noncomputable def pdt_Open.r (bd : B3) (call : FuncId → List V → Heap → Option R) (n : Nat) (v0 v1 : V) (H : Heap) : Option R :=
 (bd (arA .lss v0 (.int .i64 1)) fun t8_1 =>
 (bd (asB t8_1) fun b2 =>
 if b2 = true then
 (some (.tuple [(.ptr none), (.int .i64 10)], H))
 else
 (bd (arA .gtr v0 (.int .i64 1073741824)) fun t11_3 =>
 (bd (asB t11_3) fun b4 =>
 if b4 = true then
 (some (.tuple [(.ptr none), (.int .i64 10)], H))
 else
 (bd (arA .lss v1 (.int .i64 1)) fun t15_5 =>
 (bd (asB t15_5) fun b6 =>
 if b6 = true then
 (some (.tuple [(.ptr none), (.int .i64 10)], H))
 else
 (bd (arA .gtr v1 (.int .i64 16777216)) fun t19_7 =>
 (bd (asB t19_7) fun b8 =>
 if b8 = true then
 (some (.tuple [(.ptr none), (.int .i64 10)], H))
 else
 (bd (flA [(0, 1), (1, 1), (2, 1), (3, 1), (4, 1), (5, 1), (6, 1)] [(.int .i64 0), (.int .i64 0), (.map none), (.map none), (.int .i64 0), (.int .i64 0), (.ptr none)] [(0, v0), (1, v1), (2, (.map (some H.n))), (3, (.map (some (H.push (.map [] 0)).n)))]) fun t25_9 =>
 (bd (boxA ty_pdt_Engine t25_9) fun o10 =>
 (bd (call 100 [(.ptr (some (((H.push (.map [] 0)).push (.map [] 0)).n, 0)))] (((H.push (.map [] 0)).push (.map [] 0)).push o10)) fun r11 =>
 (some (.tuple [(.ptr (some (((H.push (.map [] 0)).push (.map [] 0)).n, 0))), (.int .i64 0)], r11.2)))))))))))))
theorem pdt_Open.r_e (n : Nat) (v0 v1 : V) (H : Heap) : pdt_Open.r @bdI (callA C n) n v0 v1 H = E C n 82 [] (argsA 0 [v0, v1]) H (kR C 82) := by
  unfold pdt_Open.r
  kernel_rfl
noncomputable def pdt_Open.rf (bd : B3) (call : FuncId → List V → Heap → Option R) (n : Nat) (a : List V) (H : Heap) : Option R := (match a with | [v0, v1] => pdt_Open.r bd call n v0 v1 H | a => E C n 82 [] (argsA 0 a) H (kR C 82))
theorem pdt_Open.rf_b (n : Nat) (a : List V) (H : Heap) : (match a with | [v0, v1] => pdt_Open.r @bdI (callA C n) n v0 v1 H | a => E C n 82 [] (argsA 0 a) H (kR C 82)) = E C n 82 [] (argsA 0 a) H (kR C 82) := by
  split
  · exact pdt_Open.r_e n _ _ H
  · rfl
theorem pdt_Open.rf_e (n : Nat) (a : List V) (H : Heap) : pdt_Open.rf @bdI (callA C n) n a H = callA C (n + 1) 82 a H := by
  unfold pdt_Open.rf
  refine (pdt_Open.rf_b n a H).trans ?_
  kernel_rfl
noncomputable def session_change.r (bd : B3) (call : FuncId → List V → Heap → Option R) (n : Nat) (v0 : V) (H : Heap) : Option R :=
 (bd (boxA ty_api_Cmd v0) fun o1 =>
 (bd (faA 0 (.ptr (some (H.n, 0)))) fun t3_2 =>
 (bd (ld1 t3_2 (H.push o1)) fun t4_3 =>
 (bd (arA .eql t4_3 (.int .i64 1)) fun t6_4 =>
 (bd (asB t6_4) fun b5 =>
 if b5 = true then
 (bd (faA 1 (.ptr (some (H.n, 0)))) fun t7_6 =>
 (bd (ld1 t7_6 (H.push o1)) fun t8_7 =>
 (bd (faA 2 (.ptr (some (H.n, 0)))) fun t9_8 =>
 (bd (ld1 t9_8 (H.push o1)) fun t10_9 =>
 (bd (call 101 [t8_7, t10_9] (H.push o1)) fun r10 =>
 (bd (flA [(0, 2)] [(.int .i64 0), (.int .i64 0)] [(0, r10.1)]) fun t12_11 =>
 (some ((.iface ty_session_insert t12_11), r10.2))))))))
 else
 (bd (arA .eql t4_3 (.int .i64 2)) fun t15_12 =>
 (bd (asB t15_12) fun b13 =>
 if b13 = true then
 (bd (faA 1 (.ptr (some (H.n, 0)))) fun t16_14 =>
 (bd (ld1 t16_14 (H.push o1)) fun t17_15 =>
 (bd (flA [(0, 1)] [(.int .i64 0)] [(0, t17_15)]) fun t18_16 =>
 (some ((.iface ty_session_remove t18_16), (H.push o1))))))
 else
 (bd (arA .eql t4_3 (.int .i64 3)) fun t21_17 =>
 (bd (asB t21_17) fun b18 =>
 if b18 = true then
 (bd (faA 2 (.ptr (some (H.n, 0)))) fun t24_19 =>
 (bd (ld1 t24_19 ((H.push o1).more 0)) fun t25_20 =>
 (bd (faA 3 (.ptr (some (H.n, 0)))) fun t26_21 =>
 (bd (ld1 t26_21 ((H.push o1).more 0)) fun t27_22 =>
 (bd (call 101 [t25_20, t27_22] ((H.push o1).more 0)) fun r23 =>
 (bd (faA 1 (.ptr (some (H.n, 0)))) fun t22_24 =>
 (bd (ld1 t22_24 r23.2) fun t23_25 =>
 (bd (chk (ld1 t22_24 ((H.push o1).more 0)) t23_25) fun _ =>
 (bd (flA [(0, 1), (1, 2)] [(.int .i64 0), (.int .i64 0), (.int .i64 0)] [(0, t23_25), (1, r23.1)]) fun t29_26 =>
 (some ((.iface ty_session_move t29_26), r23.2)))))))))))
 else
 (bd (arA .eql t4_3 (.int .i64 4)) fun t32_27 =>
 (bd (asB t32_27) fun b28 =>
 if b28 = true then
 (bd (flA [] [] []) fun t33_29 =>
 (some ((.iface ty_session_wipe t33_29), (H.push o1))))
 else
 (bd (arA .eql t4_3 (.int .i64 5)) fun t36_30 =>
 (bd (asB t36_30) fun b31 =>
 if b31 = true then
 (bd (flA [] [] []) fun t37_32 =>
 (some ((.iface ty_session_step t37_32), (H.push o1))))
 else
 (bd (arA .eql t4_3 (.int .i64 6)) fun t40_33 =>
 (bd (asB t40_33) fun b34 =>
 if b34 = true then
 (bd (faA 1 (.ptr (some (H.n, 0)))) fun t41_35 =>
 (bd (ld1 t41_35 (H.push o1)) fun t42_36 =>
 (bd (flA [(0, 1)] [(.int .i64 0)] [(0, t42_36)]) fun t43_37 =>
 (some ((.iface ty_session_run t43_37), (H.push o1))))))
 else
 (bd (arA .eql t4_3 (.int .i64 9)) fun t46_38 =>
 (bd (asB t46_38) fun b39 =>
 if b39 = true then
 (bd (faA 4 (.ptr (some (H.n, 0)))) fun t47_40 =>
 (bd (ld1 t47_40 (H.push o1)) fun t48_41 =>
 (bd (flA [(0, 1)] [(.str [])] [(0, t48_41)]) fun t49_42 =>
 (some ((.iface ty_session_replace t49_42), (H.push o1))))))
 else
 (some (.nilIface, (H.push o1))))))))))))))))))))
theorem session_change.r_e (n : Nat) (v0 : V) (H : Heap) : session_change.r @bdI (callA C n) n v0 H = E C n 83 [] (argsA 0 [v0]) H (kR C 83) := by
  unfold session_change.r
  kernel_rfl
noncomputable def session_change.rf (bd : B3) (call : FuncId → List V → Heap → Option R) (n : Nat) (a : List V) (H : Heap) : Option R := (match a with | [v0] => session_change.r bd call n v0 H | a => E C n 83 [] (argsA 0 a) H (kR C 83))
theorem session_change.rf_b (n : Nat) (a : List V) (H : Heap) : (match a with | [v0] => session_change.r @bdI (callA C n) n v0 H | a => E C n 83 [] (argsA 0 a) H (kR C 83)) = E C n 83 [] (argsA 0 a) H (kR C 83) := by
  split
  · exact session_change.r_e n _ H
  · rfl
theorem session_change.rf_e (n : Nat) (a : List V) (H : Heap) : session_change.rf @bdI (callA C n) n a H = callA C (n + 1) 83 a H := by
  unfold session_change.rf
  refine (session_change.rf_b n a H).trans ?_
  kernel_rfl
end Go.AM.L
end
section
set_option linter.unusedVariables false
set_option linter.unusedSimpArgs false
set_option maxRecDepth 1000000
set_option linter.unusedVariables false
namespace Go.AM.L
noncomputable def session_Session_changed.r (bd : B3) (call : FuncId → List V → Heap → Option R) (n : Nat) (v0 v1 : V) (H : Heap) : Option R :=
 (bd (asOk ty_session_insert (.agg [(.int .i64 0), (.int .i64 0)]) v1) fun t26_1 =>
 (bd (extA t26_1 1) fun t27_2 =>
 (bd (extA t26_1 0) fun t28_3 =>
 (bd (asB t27_2) fun b4 =>
 if b4 = true then
 (bd (stA 2 (.ptr (some ((H.push (.cells [(.int .i64 0), (.int .i64 0), (.bool false), (.str []), (.bool false), (.int .i64 0), (.int .i64 0), (.slice ⟨none, 0, 0, false⟩), (.slice ⟨none, 0, 0, false⟩)] ty_api_Ans false)).n, 0))) t28_3 ((H.push (.cells [(.int .i64 0), (.int .i64 0), (.bool false), (.str []), (.bool false), (.int .i64 0), (.int .i64 0), (.slice ⟨none, 0, 0, false⟩), (.slice ⟨none, 0, 0, false⟩)] ty_api_Ans false)).push (.cells [(.int .i64 0), (.int .i64 0)] ty_session_insert false))) fun H5 =>
 (bd (nilC v0) fun t31_6 =>
 (bd (faA 0 t31_6) fun t32_7 =>
 (bd (ld1 t32_7 (H5.more 0)) fun t33_8 =>
 (bd (faA 0 (.ptr (some ((H.push (.cells [(.int .i64 0), (.int .i64 0), (.bool false), (.str []), (.bool false), (.int .i64 0), (.int .i64 0), (.slice ⟨none, 0, 0, false⟩), (.slice ⟨none, 0, 0, false⟩)] ty_api_Ans false)).n, 0)))) fun t34_9 =>
 (bd (ldN 2 t34_9 (H5.more 0)) fun t35_10 =>
 (bd (call 102 [t33_8, t35_10] (H5.more 0)) fun r11 =>
 (bd (extA r11.1 0) fun t37_12 =>
 (bd (faA 1 (.ptr (some (H.n, 0)))) fun t39_13 =>
 (bd (stA 1 t39_13 t37_12 r11.2) fun H14 =>
 (bd (extA r11.1 1) fun t38_15 =>
 (bd (faA 0 (.ptr (some (H.n, 0)))) fun t40_16 =>
 (bd (stA 1 t40_16 t38_15 H14) fun H17 =>
 (bd (faA 1 (.ptr (some (H.n, 0)))) fun t41_18 =>
 (bd (ld1 t41_18 H17) fun t42_19 =>
 (bd (mmA true [t42_19, (.int .i64 0)]) fun t43_20 =>
 (bd (faA 1 (.ptr (some (H.n, 0)))) fun t44_21 =>
 (bd (stA 1 t44_21 t43_20 H17) fun H22 =>
 (bd (ldN 9 (.ptr (some (H.n, 0))) H22) fun t105_23 =>
 (bd (stA 9 (.ptr (some (H.n, 0))) t105_23 H22) fun H24 =>
 (bd (ldN 9 (.ptr (some (H.n, 0))) H24) fun t25 =>
 (frzR t25 H24))))))))))))))))))))))
 else
 (bd (asOk ty_session_remove (.agg [(.int .i64 0)]) v1) fun t45_26 =>
 (bd (extA t45_26 1) fun t46_27 =>
 (bd (extA t45_26 0) fun t47_28 =>
 (bd (asB t46_27) fun b29 =>
 if b29 = true then
 (bd (stA 1 (.ptr (some ((H.push (.cells [(.int .i64 0), (.int .i64 0), (.bool false), (.str []), (.bool false), (.int .i64 0), (.int .i64 0), (.slice ⟨none, 0, 0, false⟩), (.slice ⟨none, 0, 0, false⟩)] ty_api_Ans false)).n, 0))) t47_28 ((H.push (.cells [(.int .i64 0), (.int .i64 0), (.bool false), (.str []), (.bool false), (.int .i64 0), (.int .i64 0), (.slice ⟨none, 0, 0, false⟩), (.slice ⟨none, 0, 0, false⟩)] ty_api_Ans false)).push (.cells [(.int .i64 0)] ty_session_remove false))) fun H30 =>
 (bd (nilC v0) fun t49_31 =>
 (bd (faA 0 t49_31) fun t50_32 =>
 (bd (ld1 t50_32 (H30.more 0)) fun t51_33 =>
 (bd (faA 0 (.ptr (some ((H.push (.cells [(.int .i64 0), (.int .i64 0), (.bool false), (.str []), (.bool false), (.int .i64 0), (.int .i64 0), (.slice ⟨none, 0, 0, false⟩), (.slice ⟨none, 0, 0, false⟩)] ty_api_Ans false)).n, 0)))) fun t52_34 =>
 (bd (ld1 t52_34 (H30.more 0)) fun t53_35 =>
 (bd (call 103 [t51_33, t53_35] (H30.more 0)) fun r36 =>
 (bd (faA 0 (.ptr (some (H.n, 0)))) fun t55_37 =>
 (bd (stA 1 t55_37 r36.1 r36.2) fun H38 =>
 (bd (ldN 9 (.ptr (some (H.n, 0))) H38) fun t105_39 =>
 (bd (stA 9 (.ptr (some (H.n, 0))) t105_39 H38) fun H40 =>
 (bd (ldN 9 (.ptr (some (H.n, 0))) H40) fun t41 =>
 (frzR t41 H40)))))))))))))
 else
 (bd (asOk ty_session_move (.agg [(.int .i64 0), (.int .i64 0), (.int .i64 0)]) v1) fun t56_42 =>
 (bd (extA t56_42 1) fun t57_43 =>
 (bd (extA t56_42 0) fun t58_44 =>
 (bd (asB t57_43) fun b45 =>
 if b45 = true then
 (bd (stA 3 (.ptr (some ((H.push (.cells [(.int .i64 0), (.int .i64 0), (.bool false), (.str []), (.bool false), (.int .i64 0), (.int .i64 0), (.slice ⟨none, 0, 0, false⟩), (.slice ⟨none, 0, 0, false⟩)] ty_api_Ans false)).n, 0))) t58_44 ((H.push (.cells [(.int .i64 0), (.int .i64 0), (.bool false), (.str []), (.bool false), (.int .i64 0), (.int .i64 0), (.slice ⟨none, 0, 0, false⟩), (.slice ⟨none, 0, 0, false⟩)] ty_api_Ans false)).push (.cells [(.int .i64 0), (.int .i64 0), (.int .i64 0)] ty_session_move false))) fun H46 =>
 (bd (nilC v0) fun t60_47 =>
 (bd (faA 0 t60_47) fun t61_48 =>
 (bd (ld1 t61_48 (H46.more 0)) fun t62_49 =>
 (bd (faA 0 (.ptr (some ((H.push (.cells [(.int .i64 0), (.int .i64 0), (.bool false), (.str []), (.bool false), (.int .i64 0), (.int .i64 0), (.slice ⟨none, 0, 0, false⟩), (.slice ⟨none, 0, 0, false⟩)] ty_api_Ans false)).n, 0)))) fun t63_50 =>
 (bd (ld1 t63_50 (H46.more 0)) fun t64_51 =>
 (bd (faA 1 (.ptr (some ((H.push (.cells [(.int .i64 0), (.int .i64 0), (.bool false), (.str []), (.bool false), (.int .i64 0), (.int .i64 0), (.slice ⟨none, 0, 0, false⟩), (.slice ⟨none, 0, 0, false⟩)] ty_api_Ans false)).n, 0)))) fun t65_52 =>
 (bd (ldN 2 t65_52 (H46.more 0)) fun t66_53 =>
 (bd (call 104 [t62_49, t64_51, t66_53] (H46.more 0)) fun r54 =>
 (bd (faA 0 (.ptr (some (H.n, 0)))) fun t68_55 =>
 (bd (stA 1 t68_55 r54.1 r54.2) fun H56 =>
 (bd (ldN 9 (.ptr (some (H.n, 0))) H56) fun t105_57 =>
 (bd (stA 9 (.ptr (some (H.n, 0))) t105_57 H56) fun H58 =>
 (bd (ldN 9 (.ptr (some (H.n, 0))) H58) fun t59 =>
 (frzR t59 H58)))))))))))))))
 else
 (bd (asOk ty_session_wipe (.agg []) v1) fun t69_60 =>
 (bd (extA t69_60 1) fun t70_61 =>
 (bd (extA t69_60 0) fun t71_62 =>
 (bd (asB t70_61) fun b63 =>
 if b63 = true then
 (bd (stA 0 (.ptr (some ((H.push (.cells [(.int .i64 0), (.int .i64 0), (.bool false), (.str []), (.bool false), (.int .i64 0), (.int .i64 0), (.slice ⟨none, 0, 0, false⟩), (.slice ⟨none, 0, 0, false⟩)] ty_api_Ans false)).n, 0))) t71_62 ((H.push (.cells [(.int .i64 0), (.int .i64 0), (.bool false), (.str []), (.bool false), (.int .i64 0), (.int .i64 0), (.slice ⟨none, 0, 0, false⟩), (.slice ⟨none, 0, 0, false⟩)] ty_api_Ans false)).push (.cells [] ty_session_wipe false))) fun H64 =>
 (bd (nilC v0) fun t73_65 =>
 (bd (faA 0 t73_65) fun t74_66 =>
 (bd (ld1 t74_66 H64) fun t75_67 =>
 (bd (call 105 [t75_67] H64) fun r68 =>
 (bd (ldN 9 (.ptr (some (H.n, 0))) r68.2) fun t105_69 =>
 (bd (stA 9 (.ptr (some (H.n, 0))) t105_69 r68.2) fun H70 =>
 (bd (ldN 9 (.ptr (some (H.n, 0))) H70) fun t71 =>
 (frzR t71 H70)))))))))
 else
 (bd (asOk ty_session_step (.agg []) v1) fun t77_72 =>
 (bd (extA t77_72 1) fun t78_73 =>
 (bd (extA t77_72 0) fun t79_74 =>
 (bd (asB t78_73) fun b75 =>
 if b75 = true then
 (bd (stA 0 (.ptr (some ((H.push (.cells [(.int .i64 0), (.int .i64 0), (.bool false), (.str []), (.bool false), (.int .i64 0), (.int .i64 0), (.slice ⟨none, 0, 0, false⟩), (.slice ⟨none, 0, 0, false⟩)] ty_api_Ans false)).n, 0))) t79_74 ((H.push (.cells [(.int .i64 0), (.int .i64 0), (.bool false), (.str []), (.bool false), (.int .i64 0), (.int .i64 0), (.slice ⟨none, 0, 0, false⟩), (.slice ⟨none, 0, 0, false⟩)] ty_api_Ans false)).push (.cells [] ty_session_step false))) fun H76 =>
 (bd (nilC v0) fun t82_77 =>
 (bd (faA 0 t82_77) fun t83_78 =>
 (bd (ld1 t83_78 H76) fun t84_79 =>
 (bd (call 106 [t84_79] H76) fun r80 =>
 (bd (extA r80.1 0) fun t86_81 =>
 (bd (extA r80.1 1) fun t87_82 =>
 (bd (faA 1 (.ptr (some (H.n, 0)))) fun t88_83 =>
 (bd (stA 1 t88_83 t86_81 r80.2) fun H84 =>
 (bd (faA 2 (.ptr (some (H.n, 0)))) fun t89_85 =>
 (bd (stA 1 t89_85 t87_82 H84) fun H86 =>
 (bd (ldN 9 (.ptr (some (H.n, 0))) H86) fun t105_87 =>
 (bd (stA 9 (.ptr (some (H.n, 0))) t105_87 H86) fun H88 =>
 (bd (ldN 9 (.ptr (some (H.n, 0))) H88) fun t89 =>
 (frzR t89 H88)))))))))))))))
 else
 (bd (asOk ty_session_run (.agg [(.int .i64 0)]) v1) fun t90_90 =>
 (bd (extA t90_90 1) fun t91_91 =>
 (bd (extA t90_90 0) fun t92_92 =>
 (bd (asB t91_91) fun b93 =>
 if b93 = true then
 (bd (stA 1 (.ptr (some ((H.push (.cells [(.int .i64 0), (.int .i64 0), (.bool false), (.str []), (.bool false), (.int .i64 0), (.int .i64 0), (.slice ⟨none, 0, 0, false⟩), (.slice ⟨none, 0, 0, false⟩)] ty_api_Ans false)).n, 0))) t92_92 ((H.push (.cells [(.int .i64 0), (.int .i64 0), (.bool false), (.str []), (.bool false), (.int .i64 0), (.int .i64 0), (.slice ⟨none, 0, 0, false⟩), (.slice ⟨none, 0, 0, false⟩)] ty_api_Ans false)).push (.cells [(.int .i64 0)] ty_session_run false))) fun H94 =>
 (bd (nilC v0) fun t95_95 =>
 (bd (faA 0 t95_95) fun t96_96 =>
 (bd (ld1 t96_96 (H94.more 0)) fun t97_97 =>
 (bd (faA 0 (.ptr (some ((H.push (.cells [(.int .i64 0), (.int .i64 0), (.bool false), (.str []), (.bool false), (.int .i64 0), (.int .i64 0), (.slice ⟨none, 0, 0, false⟩), (.slice ⟨none, 0, 0, false⟩)] ty_api_Ans false)).n, 0)))) fun t98_98 =>
 (bd (ld1 t98_98 (H94.more 0)) fun t99_99 =>
 (bd (call 107 [t97_97, t99_99] (H94.more 0)) fun r100 =>
 (bd (extA r100.1 0) fun t101_101 =>
 (bd (faA 4 (.ptr (some (H.n, 0)))) fun t103_102 =>
 (bd (stA 3 t103_102 t101_101 r100.2) fun H103 =>
 (bd (extA r100.1 1) fun t102_104 =>
 (bd (faA 0 (.ptr (some (H.n, 0)))) fun t104_105 =>
 (bd (stA 1 t104_105 t102_104 H103) fun H106 =>
 (bd (ldN 9 (.ptr (some (H.n, 0))) H106) fun t105_107 =>
 (bd (stA 9 (.ptr (some (H.n, 0))) t105_107 H106) fun H108 =>
 (bd (ldN 9 (.ptr (some (H.n, 0))) H108) fun t109 =>
 (frzR t109 H108)))))))))))))))))
 else
 (bd (nilC v0) fun t15_110 =>
 (bd (faA 0 t15_110) fun t16_111 =>
 (bd (ld1 t16_111 ((H.push (.cells [(.int .i64 0), (.int .i64 0), (.bool false), (.str []), (.bool false), (.int .i64 0), (.int .i64 0), (.slice ⟨none, 0, 0, false⟩), (.slice ⟨none, 0, 0, false⟩)] ty_api_Ans false)).more 0)) fun t17_112 =>
 (bd (asIs ty_session_replace v1) fun t19_113 =>
 (bd (fd1 0 t19_113) fun t20_114 =>
 (bd (call 108 [t17_112, t20_114] ((H.push (.cells [(.int .i64 0), (.int .i64 0), (.bool false), (.str []), (.bool false), (.int .i64 0), (.int .i64 0), (.slice ⟨none, 0, 0, false⟩), (.slice ⟨none, 0, 0, false⟩)] ty_api_Ans false)).more 0)) fun r115 =>
 (bd (extA r115.1 0) fun t22_116 =>
 (bd (faA 1 (.ptr (some (H.n, 0)))) fun t24_117 =>
 (bd (stA 1 t24_117 t22_116 r115.2) fun H118 =>
 (bd (extA r115.1 1) fun t23_119 =>
 (bd (faA 0 (.ptr (some (H.n, 0)))) fun t25_120 =>
 (bd (stA 1 t25_120 t23_119 H118) fun H121 =>
 (bd (ldN 9 (.ptr (some (H.n, 0))) H121) fun t105_122 =>
 (bd (stA 9 (.ptr (some (H.n, 0))) t105_122 H121) fun H123 =>
 (bd (ldN 9 (.ptr (some (H.n, 0))) H123) fun t124 =>
 (frzR t124 H123))))))))))))))))))))))))))))))))))))))))
theorem session_Session_changed.r_e (n : Nat) (v0 v1 : V) (H : Heap) : session_Session_changed.r @bdI (callA C n) n v0 v1 H = E C n 84 [] (argsA 0 [v0, v1]) H (kR C 84) := by
  unfold session_Session_changed.r
  kernel_rfl
noncomputable def session_Session_changed.rf (bd : B3) (call : FuncId → List V → Heap → Option R) (n : Nat) (a : List V) (H : Heap) : Option R := (match a with | [v0, v1] => session_Session_changed.r bd call n v0 v1 H | a => E C n 84 [] (argsA 0 a) H (kR C 84))
theorem session_Session_changed.rf_b (n : Nat) (a : List V) (H : Heap) : (match a with | [v0, v1] => session_Session_changed.r @bdI (callA C n) n v0 v1 H | a => E C n 84 [] (argsA 0 a) H (kR C 84)) = E C n 84 [] (argsA 0 a) H (kR C 84) := by
  split
  · exact session_Session_changed.r_e n _ _ H
  · rfl
theorem session_Session_changed.rf_e (n : Nat) (a : List V) (H : Heap) : session_Session_changed.rf @bdI (callA C n) n a H = callA C (n + 1) 84 a H := by
  unfold session_Session_changed.rf
  refine (session_Session_changed.rf_b n a H).trans ?_
  kernel_rfl
noncomputable def session_look.r (bd : B3) (call : FuncId → List V → Heap → Option R) (n : Nat) (v0 : V) (H : Heap) : Option R :=
 (bd (boxA ty_api_Cmd v0) fun o1 =>
 (bd (faA 0 (.ptr (some (H.n, 0)))) fun t3_2 =>
 (bd (ld1 t3_2 (H.push o1)) fun t4_3 =>
 (bd (arA .eql t4_3 (.int .i64 7)) fun t6_4 =>
 (bd (asB t6_4) fun b5 =>
 if b5 = true then
 (bd (faA 1 (.ptr (some (H.n, 0)))) fun t7_6 =>
 (bd (ld1 t7_6 (H.push o1)) fun t8_7 =>
 (bd (faA 2 (.ptr (some (H.n, 0)))) fun t9_8 =>
 (bd (ld1 t9_8 (H.push o1)) fun t10_9 =>
 (bd (flA [(0, 1), (1, 1)] [(.int .i64 0), (.int .i64 0)] [(0, t8_7), (1, t10_9)]) fun t11_10 =>
 (some ((.iface ty_session_export t11_10), (H.push o1))))))))
 else
 (bd (arA .eql t4_3 (.int .i64 8)) fun t14_11 =>
 (bd (asB t14_11) fun b12 =>
 if b12 = true then
 (bd (faA 4 (.ptr (some (H.n, 0)))) fun t15_13 =>
 (bd (ld1 t15_13 (H.push o1)) fun t16_14 =>
 (bd (flA [(0, 1)] [(.str [])] [(0, t16_14)]) fun t17_15 =>
 (some ((.iface ty_session_judge t17_15), (H.push o1))))))
 else
 (bd (arA .eql t4_3 (.int .i64 10)) fun t20_16 =>
 (bd (asB t20_16) fun b17 =>
 if b17 = true then
 (bd (flA [] [] []) fun t21_18 =>
 (some ((.iface ty_session_sites t21_18), (H.push o1))))
 else
 (bd (arA .eql t4_3 (.int .i64 11)) fun t24_19 =>
 (bd (asB t24_19) fun b20 =>
 if b20 = true then
 (bd (flA [] [] []) fun t25_21 =>
 (some ((.iface ty_session_faces t25_21), (H.push o1))))
 else
 (bd (arA .eql t4_3 (.int .i64 12)) fun t28_22 =>
 (bd (asB t28_22) fun b23 =>
 if b23 = true then
 (bd (flA [] [] []) fun t29_24 =>
 (some ((.iface ty_session_sheets t29_24), (H.push o1))))
 else
 (some (.nilIface, (H.push o1))))))))))))))))
theorem session_look.r_e (n : Nat) (v0 : V) (H : Heap) : session_look.r @bdI (callA C n) n v0 H = E C n 85 [] (argsA 0 [v0]) H (kR C 85) := by
  unfold session_look.r
  kernel_rfl
noncomputable def session_look.rf (bd : B3) (call : FuncId → List V → Heap → Option R) (n : Nat) (a : List V) (H : Heap) : Option R := (match a with | [v0] => session_look.r bd call n v0 H | a => E C n 85 [] (argsA 0 a) H (kR C 85))
theorem session_look.rf_b (n : Nat) (a : List V) (H : Heap) : (match a with | [v0] => session_look.r @bdI (callA C n) n v0 H | a => E C n 85 [] (argsA 0 a) H (kR C 85)) = E C n 85 [] (argsA 0 a) H (kR C 85) := by
  split
  · exact session_look.r_e n _ H
  · rfl
theorem session_look.rf_e (n : Nat) (a : List V) (H : Heap) : session_look.rf @bdI (callA C n) n a H = callA C (n + 1) 85 a H := by
  unfold session_look.rf
  refine (session_look.rf_b n a H).trans ?_
  kernel_rfl
noncomputable def session_Session_told.r (bd : B3) (call : FuncId → List V → Heap → Option R) (n : Nat) (v0 v1 : V) (H : Heap) : Option R :=
 (bd (asOk ty_session_export (.agg [(.int .i64 0), (.int .i64 0)]) v1) fun t15_1 =>
 (bd (extA t15_1 0) fun t16_2 =>
 (bd (extA t15_1 1) fun t17_3 =>
 (bd (stA 2 (.ptr (some ((H.push (.cells [(.int .i64 0), (.int .i64 0), (.bool false), (.str []), (.bool false), (.int .i64 0), (.int .i64 0), (.slice ⟨none, 0, 0, false⟩), (.slice ⟨none, 0, 0, false⟩)] ty_api_Ans false)).n, 0))) t16_2 ((H.push (.cells [(.int .i64 0), (.int .i64 0), (.bool false), (.str []), (.bool false), (.int .i64 0), (.int .i64 0), (.slice ⟨none, 0, 0, false⟩), (.slice ⟨none, 0, 0, false⟩)] ty_api_Ans false)).push (.cells [(.int .i64 0), (.int .i64 0)] ty_session_export false))) fun H4 =>
 (bd (asB t17_3) fun b5 =>
 if b5 = true then
 (bd (nilC v0) fun t21_6 =>
 (bd (faA 0 t21_6) fun t22_7 =>
 (bd (ld1 t22_7 (H4.more 0)) fun t23_8 =>
 (bd (faA 0 (.ptr (some ((H.push (.cells [(.int .i64 0), (.int .i64 0), (.bool false), (.str []), (.bool false), (.int .i64 0), (.int .i64 0), (.slice ⟨none, 0, 0, false⟩), (.slice ⟨none, 0, 0, false⟩)] ty_api_Ans false)).n, 0)))) fun t24_9 =>
 (bd (ld1 t24_9 (H4.more 0)) fun t25_10 =>
 (bd (faA 1 (.ptr (some ((H.push (.cells [(.int .i64 0), (.int .i64 0), (.bool false), (.str []), (.bool false), (.int .i64 0), (.int .i64 0), (.slice ⟨none, 0, 0, false⟩), (.slice ⟨none, 0, 0, false⟩)] ty_api_Ans false)).n, 0)))) fun t26_11 =>
 (bd (ld1 t26_11 (H4.more 0)) fun t27_12 =>
 (bd (call 109 [t23_8, t25_10, t27_12] (H4.more 0)) fun r13 =>
 (bd (extA r13.1 0) fun t29_14 =>
 (bd (faA 3 (.ptr (some (H.n, 0)))) fun t31_15 =>
 (bd (stA 1 t31_15 t29_14 r13.2) fun H16 =>
 (bd (extA r13.1 1) fun t30_17 =>
 (bd (faA 0 (.ptr (some (H.n, 0)))) fun t32_18 =>
 (bd (stA 1 t32_18 t30_17 H16) fun H19 =>
 (bd (ldN 9 (.ptr (some (H.n, 0))) H19) fun t33_20 =>
 (bd (stA 9 (.ptr (some (H.n, 0))) t33_20 H19) fun H21 =>
 (bd (ldN 9 (.ptr (some (H.n, 0))) H21) fun t22 =>
 (frzR t22 H21))))))))))))))))))
 else
 (bd (asOk ty_session_judge (.agg [(.str [])]) v1) fun t36_23 =>
 (bd (extA t36_23 0) fun t37_24 =>
 (bd (extA t36_23 1) fun t38_25 =>
 (bd (stA 1 (.ptr (some (H4.n, 0))) t37_24 (H4.push (.cells [(.str [])] ty_session_judge false))) fun H26 =>
 (bd (asB t38_25) fun b27 =>
 if b27 = true then
 (bd (faA 0 (.ptr (some (H4.n, 0)))) fun t41_28 =>
 (bd (ld1 t41_28 H26) fun t42_29 =>
 (bd (call 110 [t42_29] H26) fun r30 =>
 (bd (extA r30.1 0) fun t44_31 =>
 (bd (extA r30.1 1) fun t45_32 =>
 (bd (faA 1 (.ptr (some (H.n, 0)))) fun t46_33 =>
 (bd (stA 1 t46_33 t44_31 r30.2) fun H34 =>
 (bd (faA 0 (.ptr (some (H.n, 0)))) fun t47_35 =>
 (bd (stA 1 t47_35 t45_32 H34) fun H36 =>
 (bd (ldN 9 (.ptr (some (H.n, 0))) H36) fun t48_37 =>
 (bd (stA 9 (.ptr (some (H.n, 0))) t48_37 H36) fun H38 =>
 (bd (ldN 9 (.ptr (some (H.n, 0))) H38) fun t39 =>
 (frzR t39 H38)))))))))))))
 else
 (bd (asOk ty_session_sites (.agg []) v1) fun t51_40 =>
 (bd (extA t51_40 0) fun t52_41 =>
 (bd (extA t51_40 1) fun t53_42 =>
 (bd (stA 0 (.ptr (some (H26.n, 0))) t52_41 (H26.push (.cells [] ty_session_sites false))) fun H43 =>
 (bd (asB t53_42) fun b44 =>
 if b44 = true then
 (bd (nilC v0) fun t56_45 =>
 (bd (faA 0 t56_45) fun t57_46 =>
 (bd (ld1 t57_46 H43) fun t58_47 =>
 (bd (call 70 [t58_47] H43) fun r48 =>
 (bd (faA 7 (.ptr (some (H.n, 0)))) fun t60_49 =>
 (bd (stA 1 t60_49 r48.1 r48.2) fun H50 =>
 (bd (ldN 9 (.ptr (some (H.n, 0))) H50) fun t61_51 =>
 (bd (stA 9 (.ptr (some (H.n, 0))) t61_51 H50) fun H52 =>
 (bd (ldN 9 (.ptr (some (H.n, 0))) H52) fun t53 =>
 (frzR t53 H52))))))))))
 else
 (bd (asOk ty_session_sheets (.agg []) v1) fun t64_54 =>
 (bd (extA t64_54 0) fun t65_55 =>
 (bd (extA t64_54 1) fun t66_56 =>
 (bd (stA 0 (.ptr (some (H43.n, 0))) t65_55 (H43.push (.cells [] ty_session_sheets false))) fun H57 =>
 (bd (asB t66_56) fun b58 =>
 if b58 = true then
 (bd (nilC v0) fun t69_59 =>
 (bd (faA 0 t69_59) fun t70_60 =>
 (bd (ld1 t70_60 H57) fun t71_61 =>
 (bd (call 111 [t71_61] H57) fun r62 =>
 (bd (faA 1 (.ptr (some (H.n, 0)))) fun t73_63 =>
 (bd (stA 1 t73_63 r62.1 r62.2) fun H64 =>
 (bd (ldN 9 (.ptr (some (H.n, 0))) H64) fun t74_65 =>
 (bd (stA 9 (.ptr (some (H.n, 0))) t74_65 H64) fun H66 =>
 (bd (ldN 9 (.ptr (some (H.n, 0))) H66) fun t67 =>
 (frzR t67 H66))))))))))
 else
 (bd (nilC v0) fun t77_68 =>
 (bd (faA 0 t77_68) fun t78_69 =>
 (bd (ld1 t78_69 (H57.more 0)) fun t79_70 =>
 (bd (call 91 [t79_70] (H57.more 0)) fun r71 =>
 (bd (nilC v0) fun t82_72 =>
 (bd (faA 0 t82_72) fun t83_73 =>
 (bd (ld1 t83_73 r71.2) fun t84_74 =>
 (bd (chk (ld1 t83_73 (H57.more 0)) t84_74) fun _ =>
 (bd (call 92 [t84_74] r71.2) fun r75 =>
 (bd (call 90 [r71.1, r75.1] r75.2) fun r76 =>
 (bd (extA r76.1 0) fun t87_77 =>
 (bd (faA 8 (.ptr (some (H.n, 0)))) fun t89_78 =>
 (bd (stA 1 t89_78 t87_77 r76.2) fun H79 =>
 (bd (extA r76.1 1) fun t88_80 =>
 (bd (ldN 9 (.ptr (some (H.n, 0))) H79) fun t90_81 =>
 (bd (stA 9 (.ptr (some (H.n, 0))) t90_81 H79) fun H82 =>
 (bd (ldN 9 (.ptr (some (H.n, 0))) H82) fun t83 =>
 (frzR t83 H82))))))))))))))))))))))))))))))))))))))
theorem session_Session_told.r_e (n : Nat) (v0 v1 : V) (H : Heap) : session_Session_told.r @bdI (callA C n) n v0 v1 H = E C n 86 [] (argsA 0 [v0, v1]) H (kR C 86) := by
  unfold session_Session_told.r
  kernel_rfl
noncomputable def session_Session_told.rf (bd : B3) (call : FuncId → List V → Heap → Option R) (n : Nat) (a : List V) (H : Heap) : Option R := (match a with | [v0, v1] => session_Session_told.r bd call n v0 v1 H | a => E C n 86 [] (argsA 0 a) H (kR C 86))
theorem session_Session_told.rf_b (n : Nat) (a : List V) (H : Heap) : (match a with | [v0, v1] => session_Session_told.r @bdI (callA C n) n v0 v1 H | a => E C n 86 [] (argsA 0 a) H (kR C 86)) = E C n 86 [] (argsA 0 a) H (kR C 86) := by
  split
  · exact session_Session_told.r_e n _ _ H
  · rfl
theorem session_Session_told.rf_e (n : Nat) (a : List V) (H : Heap) : session_Session_told.rf @bdI (callA C n) n a H = callA C (n + 1) 86 a H := by
  unfold session_Session_told.rf
  refine (session_Session_told.rf_b n a H).trans ?_
  kernel_rfl
noncomputable def internal_strconv_Itoa.r (bd : B3) (call : FuncId → List V → Heap → Option R) (n : Nat) (v0 : V) (H : Heap) : Option R :=
 (bd (call 112 [v0, (.int .i64 10)] H) fun r1 =>
 (some (r1.1, r1.2)))
theorem internal_strconv_Itoa.r_e (n : Nat) (v0 : V) (H : Heap) : internal_strconv_Itoa.r @bdI (callA C n) n v0 H = E C n 87 [] (argsA 0 [v0]) H (kR C 87) := by
  unfold internal_strconv_Itoa.r
  kernel_rfl
noncomputable def internal_strconv_Itoa.rf (bd : B3) (call : FuncId → List V → Heap → Option R) (n : Nat) (a : List V) (H : Heap) : Option R := (match a with | [v0] => internal_strconv_Itoa.r bd call n v0 H | a => E C n 87 [] (argsA 0 a) H (kR C 87))
theorem internal_strconv_Itoa.rf_b (n : Nat) (a : List V) (H : Heap) : (match a with | [v0] => internal_strconv_Itoa.r @bdI (callA C n) n v0 H | a => E C n 87 [] (argsA 0 a) H (kR C 87)) = E C n 87 [] (argsA 0 a) H (kR C 87) := by
  split
  · exact internal_strconv_Itoa.r_e n _ H
  · rfl
theorem internal_strconv_Itoa.rf_e (n : Nat) (a : List V) (H : Heap) : internal_strconv_Itoa.rf @bdI (callA C n) n a H = callA C (n + 1) 87 a H := by
  unfold internal_strconv_Itoa.rf
  refine (internal_strconv_Itoa.rf_b n a H).trans ?_
  kernel_rfl
noncomputable def pdt_Engine_clear.r (bd : B3) (call : FuncId → List V → Heap → Option R) (n : Nat) (v0 : V) (H : Heap) : Option R :=
 (bd (nilC v0) fun t3_1 =>
 (bd (faA 2 t3_1) fun t4_2 =>
 (bd (ld1 t4_2 H) fun t5_3 =>
 (bd (clrM t5_3 H) fun H4 =>
 (bd (nilC v0) fun t7_5 =>
 (bd (faA 3 t7_5) fun t8_6 =>
 (bd (ld1 t8_6 H4) fun t9_7 =>
 (bd (clrM t9_7 H4) fun H8 =>
 (bd (nilC v0) fun t11_9 =>
 (bd (faA 4 t11_9) fun t12_10 =>
 (bd (stA 1 t12_10 (.int .i64 0) H8) fun H11 =>
 (bd (nilC v0) fun t16_12 =>
 (bd (faA 0 t16_12) fun t17_13 =>
 (bd (ld1 t17_13 (H11.more 0)) fun t18_14 =>
 (bd (call 134 [t18_14] (H11.more 0)) fun r15 =>
 (bd (nilC v0) fun t21_16 =>
 (bd (faA 0 t21_16) fun t22_17 =>
 (bd (ld1 t22_17 r15.2) fun t23_18 =>
 (bd (chk (ld1 t22_17 (H11.more 0)) t23_18) fun _ =>
 (bd (call 133 [r15.1, t23_18] r15.2) fun r19 =>
 (bd (nilC v0) fun t25_20 =>
 (bd (faA 5 t25_20) fun t26_21 =>
 (bd (stA 1 t26_21 (.int .i64 0) r19.2) fun H22 =>
 (bd (nilC v0) fun t27_23 =>
 (bd (faA 6 t27_23) fun t28_24 =>
 (bd (stA 1 t28_24 r19.1 H22) fun H25 =>
 (some (.tuple [], H25))))))))))))))))))))))))))))
theorem pdt_Engine_clear.r_e (n : Nat) (v0 : V) (H : Heap) : pdt_Engine_clear.r @bdI (callA C n) n v0 H = E C n 100 [] (argsA 0 [v0]) H (kR C 100) := by
  unfold pdt_Engine_clear.r
  kernel_rfl
noncomputable def pdt_Engine_clear.rf (bd : B3) (call : FuncId → List V → Heap → Option R) (n : Nat) (a : List V) (H : Heap) : Option R := (match a with | [v0] => pdt_Engine_clear.r bd call n v0 H | a => E C n 100 [] (argsA 0 a) H (kR C 100))
theorem pdt_Engine_clear.rf_b (n : Nat) (a : List V) (H : Heap) : (match a with | [v0] => pdt_Engine_clear.r @bdI (callA C n) n v0 H | a => E C n 100 [] (argsA 0 a) H (kR C 100)) = E C n 100 [] (argsA 0 a) H (kR C 100) := by
  split
  · exact pdt_Engine_clear.r_e n _ H
  · rfl
theorem pdt_Engine_clear.rf_e (n : Nat) (a : List V) (H : Heap) : pdt_Engine_clear.rf @bdI (callA C n) n a H = callA C (n + 1) 100 a H := by
  unfold pdt_Engine_clear.rf
  refine (pdt_Engine_clear.rf_b n a H).trans ?_
  kernel_rfl
noncomputable def session_point.r (bd : B3) (call : FuncId → List V → Heap → Option R) (n : Nat) (v0 v1 : V) (H : Heap) : Option R :=
 (bd (flA [(0, 1), (1, 1)] [(.int .i64 0), (.int .i64 0)] [(0, v0), (1, v1)]) fun t7_1 =>
 (bd (stA 2 (.ptr (some (H.n, 0))) t7_1 (H.push (.cells [(.int .i64 0), (.int .i64 0)] ty_api_Point false))) fun H2 =>
 (bd (ldN 2 (.ptr (some (H.n, 0))) H2) fun t3 =>
 (some (t3, H2)))))
theorem session_point.r_e (n : Nat) (v0 v1 : V) (H : Heap) : session_point.r @bdI (callA C n) n v0 v1 H = E C n 101 [] (argsA 0 [v0, v1]) H (kR C 101) := by
  unfold session_point.r
  kernel_rfl
noncomputable def session_point.rf (bd : B3) (call : FuncId → List V → Heap → Option R) (n : Nat) (a : List V) (H : Heap) : Option R := pureA a H fun a => (match a with | [v0, v1] => session_point.r bd call n v0 v1 ⟨0, .nil⟩ | a => E C n 101 [] (argsA 0 a) ⟨0, .nil⟩ (kR C 101))
theorem session_point.rf_b (n : Nat) (a : List V) (H : Heap) : (match a with | [v0, v1] => session_point.r @bdI (callA C n) n v0 v1 H | a => E C n 101 [] (argsA 0 a) H (kR C 101)) = E C n 101 [] (argsA 0 a) H (kR C 101) := by
  split
  · exact session_point.r_e n _ _ H
  · rfl
theorem session_point.rf_e (n : Nat) (a : List V) (H : Heap) : session_point.rf @bdI (callA C n) n a H = callA C (n + 1) 101 a H := by
  unfold session_point.rf
  refine (congrArg (pureA a H) (funext fun a => session_point.rf_b n a ⟨0, .nil⟩)).trans ?_
  kernel_rfl
@[irreducible] noncomputable def pdt_Engine_Insert.l0 (n m0 : Nat) (v0 v3 v8 v9 v10 : V) (H : Heap) : Option R := Lp C n 102 [1, 1, 1, 1, 1, 0, 1, 0, 0] m0 [(0, v0), (3, v3), (8, v8), (9, v9), (10, v10)] H (kB 1 (kC C n 102 [1, 1, 1, 1, 1, 1] (kR C 102)))
@[irreducible] noncomputable def pdt_Engine_Insert.p1 (n : Nat) (v0 v3 v8 : V) (H : Heap) : Option R := E C n 102 [1, 1, 1, 1, 1, 1] [(0, v0), (3, v3), (8, v8)] H (kR C 102)
noncomputable def pdt_Engine_Insert.r_p1 (bd : B3) (call : FuncId → List V → Heap → Option R) (n : Nat) (v0 v3 v8 : V) (H : Heap) : Option R :=
 (bd (arA .add v8 (.int .i64 1)) fun t67_1 =>
 (bd (nilC v0) fun t68_2 =>
 (bd (faA 4 t68_2) fun t69_3 =>
 (bd (stA 1 t69_3 t67_1 H) fun H4 =>
 (bd (ldN 2 v3 H4) fun t72_5 =>
 (bd (call 136 [v0, v8, t72_5] H4) fun r6 =>
 (some (.tuple [v8, (.int .i64 0)], r6.2))))))))
theorem pdt_Engine_Insert.r_p1_e (n : Nat) : pdt_Engine_Insert.r_p1 @bdI (callA C n) n = pdt_Engine_Insert.p1 n := by
  funext v0 v3 v8 H
  unfold pdt_Engine_Insert.r_p1
  kernel_rfl
noncomputable def pdt_Engine_Insert.r_l0 (bd : B3) (call : FuncId → List V → Heap → Option R) (n : Nat) (s0 : V → V → V → V → V → Heap → Option R) (v0 v3 v8 v9 v10 : V) (H : Heap) : Option R :=
 (bd (asB v10) fun b1 =>
 if b1 = true then
 (bd (arA .add v8 (.int .i64 1)) fun t63_2 =>
 (bd (ldN 2 v9 H) fun t64_3 =>
 (bd (stA 2 (.ptr (some (H.n, 0))) t64_3 (H.push (.cells [(.int .i64 0), (.int .i64 0)] ty_api_Point false))) fun H4 =>
 (bd (nilC v0) fun t55_5 =>
 (bd (faA 2 t55_5) fun t56_6 =>
 (bd (ld1 t56_6 H4) fun t57_7 =>
 (bd (lookM P ty_int (.agg [(.int .i64 0), (.int .i64 0)]) t57_7 t63_2 true H4) fun t59_8 =>
 (bd (extA t59_8 0) fun t60_9 =>
 (bd (extA t59_8 1) fun t61_10 =>
 (s0 v0 v3 t63_2 (.ptr (some (H.n, 0))) t61_10 H4))))))))))
 else
 (pdt_Engine_Insert.r_p1 bd call n v0 v3 v8 H))
theorem pdt_Engine_Insert.r_l0_e (n m0 : Nat) : pdt_Engine_Insert.r_l0 @bdI (callA C n) n (pdt_Engine_Insert.l0 n m0) = pdt_Engine_Insert.l0 n (m0 + 1) := by
  funext v0 v3 v8 v9 v10 H
  unfold pdt_Engine_Insert.r_l0
  rewrite [pdt_Engine_Insert.r_p1_e]
  kernel_rfl
noncomputable def pdt_Engine_Insert.r_l0_lp (bd : B3) (call : FuncId → List V → Heap → Option R) (n : Nat) (m : Nat) : V → V → V → V → V → Heap → Option R := Nat.rec (motive := fun _ => V → V → V → V → V → Heap → Option R) (fun _ _ _ _ _ _ => none) (fun _ self => pdt_Engine_Insert.r_l0 bd call n self) m
theorem pdt_Engine_Insert.r_l0_lp_e (n : Nat) : pdt_Engine_Insert.r_l0_lp @bdI (callA C n) n = pdt_Engine_Insert.l0 n := by
  funext m
  induction m with
  | zero => funext v0 v3 v8 v9 v10 H; kernel_rfl
  | succ k ih => exact (congrArg (pdt_Engine_Insert.r_l0 @bdI (callA C n) n) ih).trans (pdt_Engine_Insert.r_l0_e n k)
noncomputable def pdt_Engine_Insert.r (bd : B3) (call : FuncId → List V → Heap → Option R) (n : Nat) (v0 v1 : V) (H : Heap) : Option R :=
 (bd (boxA ty_api_Point v1) fun o1 =>
 (bd (eqlA P ty_p_pdt_Engine v0 (.ptr none)) fun t13_2 =>
 (bd (asB t13_2) fun b3 =>
 if b3 = true then
 (some (.tuple [(.int .i64 (-1)), (.int .i64 10)], (H.push o1)))
 else
 (bd (ldN 2 (.ptr (some (H.n, 0))) (H.push o1)) fun t16_4 =>
 (bd (call 135 [v0, t16_4] (H.push o1)) fun r5 =>
 (bd (unA .not r5.1) fun t18_6 =>
 (bd (asB t18_6) fun b7 =>
 if b7 = true then
 (some (.tuple [(.int .i64 (-1)), (.int .i64 11)], r5.2))
 else
 (bd (nilC v0) fun t21_8 =>
 (bd (faA 3 t21_8) fun t22_9 =>
 (bd (ld1 t22_9 (r5.2.more 0)) fun t23_10 =>
 (bd (ldN 2 (.ptr (some (H.n, 0))) (r5.2.more 0)) fun t24_11 =>
 (bd (lookM P ty_api_Point (.int .i64 0) t23_10 t24_11 true (r5.2.more 0)) fun t25_12 =>
 (bd (extA t25_12 0) fun t26_13 =>
 (bd (extA t25_12 1) fun t27_14 =>
 (bd (asB t27_14) fun b15 =>
 if b15 = true then
 (some (.tuple [(.int .i64 (-1)), (.int .i64 12)], (r5.2.more 0)))
 else
 (bd (nilC v0) fun t30_16 =>
 (bd (faA 2 t30_16) fun t31_17 =>
 (bd (ld1 t31_17 ((r5.2.more 0).more 0)) fun t32_18 =>
 (bd (lenMap t32_18 ((r5.2.more 0).more 0)) fun t33_19 =>
 (bd (nilC v0) fun t35_20 =>
 (bd (faA 1 t35_20) fun t36_21 =>
 (bd (ld1 t36_21 ((r5.2.more 0).more 0)) fun t37_22 =>
 (bd (arA .geq t33_19 t37_22) fun t38_23 =>
 (bd (asB t38_23) fun b24 =>
 if b24 = true then
 (some (.tuple [(.int .i64 (-1)), (.int .i64 13)], ((r5.2.more 0).more 0)))
 else
 (bd (nilC v0) fun t40_25 =>
 (bd (faA 4 t40_25) fun t41_26 =>
 (bd (ld1 t41_26 ((r5.2.more 0).more 0)) fun t42_27 =>
 (bd (nilC v0) fun t45_28 =>
 (bd (faA 2 t45_28) fun t46_29 =>
 (bd (ld1 t46_29 ((r5.2.more 0).more 0)) fun t47_30 =>
 (bd (lookM P ty_int (.agg [(.int .i64 0), (.int .i64 0)]) t47_30 t42_27 true ((r5.2.more 0).more 0)) fun t49_31 =>
 (bd (extA t49_31 0) fun t50_32 =>
 (bd (extA t49_31 1) fun t51_33 =>
 (bd (stA 2 (.ptr (some (((r5.2.more 0).more 0).n, 0))) t50_32 (((r5.2.more 0).more 0).push (.cells [(.int .i64 0), (.int .i64 0)] ty_api_Point false))) fun H34 =>
 (pdt_Engine_Insert.r_l0_lp bd call n n v0 (.ptr (some (H.n, 0))) t42_27 (.ptr (some (((r5.2.more 0).more 0).n, 0))) t51_33 H34)))))))))))))))))))))))))))))))))))
theorem pdt_Engine_Insert.r_e (n : Nat) (v0 v1 : V) (H : Heap) : pdt_Engine_Insert.r @bdI (callA C n) n v0 v1 H = E C n 102 [] (argsA 0 [v0, v1]) H (kR C 102) := by
  unfold pdt_Engine_Insert.r
  rewrite [pdt_Engine_Insert.r_l0_lp_e]
  kernel_rfl
noncomputable def pdt_Engine_Insert.rf (bd : B3) (call : FuncId → List V → Heap → Option R) (n : Nat) (a : List V) (H : Heap) : Option R := (match a with | [v0, v1] => pdt_Engine_Insert.r bd call n v0 v1 H | a => E C n 102 [] (argsA 0 a) H (kR C 102))
theorem pdt_Engine_Insert.rf_b (n : Nat) (a : List V) (H : Heap) : (match a with | [v0, v1] => pdt_Engine_Insert.r @bdI (callA C n) n v0 v1 H | a => E C n 102 [] (argsA 0 a) H (kR C 102)) = E C n 102 [] (argsA 0 a) H (kR C 102) := by
  split
  · exact pdt_Engine_Insert.r_e n _ _ H
  · rfl
theorem pdt_Engine_Insert.rf_e (n : Nat) (a : List V) (H : Heap) : pdt_Engine_Insert.rf @bdI (callA C n) n a H = callA C (n + 1) 102 a H := by
  unfold pdt_Engine_Insert.rf
  refine (pdt_Engine_Insert.rf_b n a H).trans ?_
  kernel_rfl
noncomputable def pdt_Engine_Sheets.r (bd : B3) (call : FuncId → List V → Heap → Option R) (n : Nat) (v0 : V) (H : Heap) : Option R :=
 (bd (eqlA P ty_p_pdt_Engine v0 (.ptr none)) fun t4_1 =>
 (bd (asB t4_1) fun b2 =>
 if b2 = true then
 (some ((.int .i64 0), H))
 else
 (bd (nilC v0) fun t6_3 =>
 (bd (faA 5 t6_3) fun t7_4 =>
 (bd (ld1 t7_4 H) fun t8_5 =>
 (some (t8_5, H)))))))
theorem pdt_Engine_Sheets.r_e (n : Nat) (v0 : V) (H : Heap) : pdt_Engine_Sheets.r @bdI (callA C n) n v0 H = E C n 111 [] (argsA 0 [v0]) H (kR C 111) := by
  unfold pdt_Engine_Sheets.r
  kernel_rfl
noncomputable def pdt_Engine_Sheets.rf (bd : B3) (call : FuncId → List V → Heap → Option R) (n : Nat) (a : List V) (H : Heap) : Option R := (match a with | [v0] => pdt_Engine_Sheets.r bd call n v0 H | a => E C n 111 [] (argsA 0 a) H (kR C 111))
theorem pdt_Engine_Sheets.rf_b (n : Nat) (a : List V) (H : Heap) : (match a with | [v0] => pdt_Engine_Sheets.r @bdI (callA C n) n v0 H | a => E C n 111 [] (argsA 0 a) H (kR C 111)) = E C n 111 [] (argsA 0 a) H (kR C 111) := by
  split
  · exact pdt_Engine_Sheets.r_e n _ H
  · rfl
theorem pdt_Engine_Sheets.rf_e (n : Nat) (a : List V) (H : Heap) : pdt_Engine_Sheets.rf @bdI (callA C n) n a H = callA C (n + 1) 111 a H := by
  unfold pdt_Engine_Sheets.rf
  refine (pdt_Engine_Sheets.rf_b n a H).trans ?_
  kernel_rfl
end Go.AM.L
end
section
set_option linter.unusedVariables false
set_option linter.unusedSimpArgs false
set_option maxRecDepth 1000000
set_option linter.unusedVariables false
namespace Go.AM.L
@[irreducible] noncomputable def mesh_Mesh_Dump.l0 (n m0 : Nat) (v0 v2 v3 v20 v21 v22 : V) (H : Heap) : Option R := Lp C n 120 [1, 1, 1, 0, 1, 0, 0] m0 [(0, v0), (2, v2), (3, v3), (20, v20), (21, v21), (22, v22)] H (kB 0 (kC C n 120 [1, 1, 1, 1] (kR C 120)))
@[irreducible] noncomputable def mesh_Mesh_Dump.p1 (n : Nat) (v0 v2 v3 : V) (H : Heap) : Option R := E C n 120 [1, 1, 1, 1] [(0, v0), (2, v2), (3, v3)] H (kR C 120)
@[irreducible] noncomputable def mesh_Mesh_Dump.l2 (n m0 : Nat) (v0 v2 v3 v43 v44 v45 : V) (H : Heap) : Option R := Lp C n 120 [1, 1, 1, 1, 0, 1, 0, 0] m0 [(0, v0), (2, v2), (3, v3), (43, v43), (44, v44), (45, v45)] H (kB 2 (kC C n 120 [1, 1, 1, 1, 1] (kR C 120)))
noncomputable def mesh_Mesh_Dump.r_l2 (bd : B3) (call : FuncId → List V → Heap → Option R) (n : Nat) (s0 : V → V → V → V → V → V → Heap → Option R) (v0 v2 v3 v43 v44 v45 : V) (H : Heap) : Option R :=
 (bd (arA .lss v45 v44) fun t46_1 =>
 (bd (asB t46_1) fun b2 =>
 if b2 = true then
 (bd (idxS 1 v43 v45) fun t47_3 =>
 (bd (ld1 t47_3 H) fun t48_4 =>
 (bd (faA 2 v3) fun t49_5 =>
 (bd (ld1 t49_5 (H.more 1)) fun t50_6 =>
 (bd (nilC v0) fun t53_7 =>
 (bd (faA 4 t53_7) fun t54_8 =>
 (bd (ld1 t54_8 (H.more 1)) fun t55_9 =>
 (bd (idxS 9 t55_9 t48_4) fun t57_10 =>
 (bd (ldN 9 t57_10 (H.more 1)) fun t58_11 =>
 (bd (flA [(0, 1), (1, 9)] [(.int .i64 0), (.int .i64 0), (.int .i64 0), (.int .i64 0), (.int .i64 0), (.int .i64 0), (.int .i64 0), (.int .i64 0), (.int .i64 0), (.int .i64 0)] [(0, t48_4), (1, t58_11)]) fun t59_12 =>
 (bd (bSl 10 ty_api_Cell [(.int .i64 0), (.int .i64 0), (.int .i64 0), (.int .i64 0), (.int .i64 0), (.int .i64 0), (.int .i64 0), (.int .i64 0), (.int .i64 0), (.int .i64 0)] 1 [(0, t59_12)]) fun o13 =>
 (bd (appA 10 80 ty_api_Cell t50_6 (.slice ⟨some ((H.n + 0), 0), 1, 10, false⟩) ((H.more 1).set (H.n + 0) o13)) fun p14 =>
 (bd (faA 2 v3) fun t62_15 =>
 (bd (stA 1 t62_15 p14.1 p14.2) fun H16 =>
 (bd (arA .add v45 (.int .i64 1)) fun t63_17 =>
 (s0 v0 v2 v3 v43 v44 t63_17 H16))))))))))))))))
 else
 (bd (ldN 3 v3 H) fun t64_18 =>
 (bd (stA 3 v2 t64_18 H) fun H19 =>
 (bd (ldN 3 v2 H19) fun t20 =>
 (frzR t20 H19))))))
theorem mesh_Mesh_Dump.r_l2_e (n m0 : Nat) : mesh_Mesh_Dump.r_l2 @bdI (callA C n) n (mesh_Mesh_Dump.l2 n m0) = mesh_Mesh_Dump.l2 n (m0 + 1) := by
  funext v0 v2 v3 v43 v44 v45 H
  unfold mesh_Mesh_Dump.r_l2
  kernel_rfl
noncomputable def mesh_Mesh_Dump.r_l2_lp (bd : B3) (call : FuncId → List V → Heap → Option R) (n : Nat) (m : Nat) : V → V → V → V → V → V → Heap → Option R := Nat.rec (motive := fun _ => V → V → V → V → V → V → Heap → Option R) (fun _ _ _ _ _ _ _ => none) (fun _ self => mesh_Mesh_Dump.r_l2 bd call n self) m
theorem mesh_Mesh_Dump.r_l2_lp_e (n : Nat) : mesh_Mesh_Dump.r_l2_lp @bdI (callA C n) n = mesh_Mesh_Dump.l2 n := by
  funext m
  induction m with
  | zero => funext v0 v2 v3 v43 v44 v45 H; kernel_rfl
  | succ k ih => exact (congrArg (mesh_Mesh_Dump.r_l2 @bdI (callA C n) n) ih).trans (mesh_Mesh_Dump.r_l2_e n k)
noncomputable def mesh_Mesh_Dump.r_p1 (bd : B3) (call : FuncId → List V → Heap → Option R) (n : Nat) (v0 v2 v3 : V) (H : Heap) : Option R :=
 (bd (nilC v0) fun t40_1 =>
 (bd (faA 2 t40_1) fun t41_2 =>
 (bd (ld1 t41_2 H) fun t42_3 =>
 (bd (call 164 [t42_3] H) fun r4 =>
 (bd (lenSl r4.1) fun t44_5 =>
 (mesh_Mesh_Dump.r_l2_lp bd call n n v0 v2 v3 r4.1 t44_5 (.int .i64 0) r4.2))))))
theorem mesh_Mesh_Dump.r_p1_e (n : Nat) : mesh_Mesh_Dump.r_p1 @bdI (callA C n) n = mesh_Mesh_Dump.p1 n := by
  funext v0 v2 v3 H
  unfold mesh_Mesh_Dump.r_p1
  rewrite [mesh_Mesh_Dump.r_l2_lp_e]
  kernel_rfl
noncomputable def mesh_Mesh_Dump.r_l0 (bd : B3) (call : FuncId → List V → Heap → Option R) (n : Nat) (s0 : V → V → V → V → V → V → Heap → Option R) (v0 v2 v3 v20 v21 v22 : V) (H : Heap) : Option R :=
 (bd (arA .lss v22 v21) fun t23_1 =>
 (bd (asB t23_1) fun b2 =>
 if b2 = true then
 (bd (idxS 1 v20 v22) fun t24_3 =>
 (bd (ld1 t24_3 H) fun t25_4 =>
 (bd (faA 1 v3) fun t26_5 =>
 (bd (ld1 t26_5 (H.more 1)) fun t27_6 =>
 (bd (nilC v0) fun t29_7 =>
 (bd (faA 3 t29_7) fun t30_8 =>
 (bd (ld1 t30_8 (H.more 1)) fun t31_9 =>
 (bd (idxS 4 t31_9 t25_4) fun t33_10 =>
 (bd (ldN 4 t33_10 (H.more 1)) fun t34_11 =>
 (bd (bSl 4 ty_api_Vert [(.int .i64 0), (.int .i64 0), (.int .i64 0), (.int .i64 0)] 1 [(0, t34_11)]) fun o12 =>
 (bd (appA 4 32 ty_api_Vert t27_6 (.slice ⟨some ((H.n + 0), 0), 1, 4, false⟩) ((H.more 1).set (H.n + 0) o12)) fun p13 =>
 (bd (faA 1 v3) fun t37_14 =>
 (bd (stA 1 t37_14 p13.1 p13.2) fun H15 =>
 (bd (arA .add v22 (.int .i64 1)) fun t38_16 =>
 (s0 v0 v2 v3 v20 v21 t38_16 H15)))))))))))))))
 else
 (mesh_Mesh_Dump.r_p1 bd call n v0 v2 v3 H)))
theorem mesh_Mesh_Dump.r_l0_e (n m0 : Nat) : mesh_Mesh_Dump.r_l0 @bdI (callA C n) n (mesh_Mesh_Dump.l0 n m0) = mesh_Mesh_Dump.l0 n (m0 + 1) := by
  funext v0 v2 v3 v20 v21 v22 H
  unfold mesh_Mesh_Dump.r_l0
  rewrite [mesh_Mesh_Dump.r_p1_e]
  kernel_rfl
noncomputable def mesh_Mesh_Dump.r_l0_lp (bd : B3) (call : FuncId → List V → Heap → Option R) (n : Nat) (m : Nat) : V → V → V → V → V → V → Heap → Option R := Nat.rec (motive := fun _ => V → V → V → V → V → V → Heap → Option R) (fun _ _ _ _ _ _ _ => none) (fun _ self => mesh_Mesh_Dump.r_l0 bd call n self) m
theorem mesh_Mesh_Dump.r_l0_lp_e (n : Nat) : mesh_Mesh_Dump.r_l0_lp @bdI (callA C n) n = mesh_Mesh_Dump.l0 n := by
  funext m
  induction m with
  | zero => funext v0 v2 v3 v20 v21 v22 H; kernel_rfl
  | succ k ih => exact (congrArg (mesh_Mesh_Dump.r_l0 @bdI (callA C n) n) ih).trans (mesh_Mesh_Dump.r_l0_e n k)
noncomputable def mesh_Mesh_Dump.r (bd : B3) (call : FuncId → List V → Heap → Option R) (n : Nat) (v0 : V) (H : Heap) : Option R :=
 (bd (eqlA P ty_p_mesh_Mesh v0 (.ptr none)) fun t9_1 =>
 (bd (asB t9_1) fun b2 =>
 if b2 = true then
 (bd (flA [(0, 1), (1, 1), (2, 1)] [(.int .i64 0), (.slice ⟨none, 0, 0, false⟩), (.slice ⟨none, 0, 0, false⟩)] []) fun t10_3 =>
 (bd (stA 3 (.ptr (some (H.n, 0))) t10_3 (H.push (.cells [(.int .i64 0), (.slice ⟨none, 0, 0, false⟩), (.slice ⟨none, 0, 0, false⟩)] ty_api_Dump false))) fun H4 =>
 (bd (ldN 3 (.ptr (some (H.n, 0))) H4) fun t5 =>
 (frzR t5 H4))))
 else
 (bd (nilC v0) fun t12_6 =>
 (bd (faA 0 t12_6) fun t13_7 =>
 (bd (ld1 t13_7 (H.push (.cells [(.int .i64 0), (.slice ⟨none, 0, 0, false⟩), (.slice ⟨none, 0, 0, false⟩)] ty_api_Dump false))) fun t14_8 =>
 (bd (flA [(0, 1), (1, 1), (2, 1)] [(.int .i64 0), (.slice ⟨none, 0, 0, false⟩), (.slice ⟨none, 0, 0, false⟩)] [(0, t14_8)]) fun t15_9 =>
 (bd (stA 3 (.ptr (some ((H.push (.cells [(.int .i64 0), (.slice ⟨none, 0, 0, false⟩), (.slice ⟨none, 0, 0, false⟩)] ty_api_Dump false)).n, 0))) t15_9 ((H.push (.cells [(.int .i64 0), (.slice ⟨none, 0, 0, false⟩), (.slice ⟨none, 0, 0, false⟩)] ty_api_Dump false)).push (.cells [(.int .i64 0), (.slice ⟨none, 0, 0, false⟩), (.slice ⟨none, 0, 0, false⟩)] ty_api_Dump false))) fun H10 =>
 (bd (nilC v0) fun t17_11 =>
 (bd (faA 1 t17_11) fun t18_12 =>
 (bd (ld1 t18_12 H10) fun t19_13 =>
 (bd (call 164 [t19_13] H10) fun r14 =>
 (bd (lenSl r14.1) fun t21_15 =>
 (mesh_Mesh_Dump.r_l0_lp bd call n n v0 (.ptr (some (H.n, 0))) (.ptr (some ((H.push (.cells [(.int .i64 0), (.slice ⟨none, 0, 0, false⟩), (.slice ⟨none, 0, 0, false⟩)] ty_api_Dump false)).n, 0))) r14.1 t21_15 (.int .i64 0) r14.2)))))))))))))
theorem mesh_Mesh_Dump.r_e (n : Nat) (v0 : V) (H : Heap) : mesh_Mesh_Dump.r @bdI (callA C n) n v0 H = E C n 120 [] (argsA 0 [v0]) H (kR C 120) := by
  unfold mesh_Mesh_Dump.r
  rewrite [mesh_Mesh_Dump.r_l0_lp_e]
  kernel_rfl
noncomputable def mesh_Mesh_Dump.rf (bd : B3) (call : FuncId → List V → Heap → Option R) (n : Nat) (a : List V) (H : Heap) : Option R := (match a with | [v0] => mesh_Mesh_Dump.r bd call n v0 H | a => E C n 120 [] (argsA 0 a) H (kR C 120))
theorem mesh_Mesh_Dump.rf_b (n : Nat) (a : List V) (H : Heap) : (match a with | [v0] => mesh_Mesh_Dump.r @bdI (callA C n) n v0 H | a => E C n 120 [] (argsA 0 a) H (kR C 120)) = E C n 120 [] (argsA 0 a) H (kR C 120) := by
  split
  · exact mesh_Mesh_Dump.r_e n _ H
  · rfl
theorem mesh_Mesh_Dump.rf_e (n : Nat) (a : List V) (H : Heap) : mesh_Mesh_Dump.rf @bdI (callA C n) n a H = callA C (n + 1) 120 a H := by
  unfold mesh_Mesh_Dump.rf
  refine (mesh_Mesh_Dump.rf_b n a H).trans ?_
  kernel_rfl
noncomputable def lift_Home.r (bd : B3) (call : FuncId → List V → Heap → Option R) (n : Nat) (v0 v1 : V) (H : Heap) : Option R :=
 (bd (boxA ty_api_Point v0) fun o1 =>
 (bd (call 165 [v1] (((H.push o1).push (.cells [(.int .i64 0), (.int .i64 0)] ty_api_Point false)).push (.cells [(.int .i64 0), (.int .i64 0)] ty_api_Off false))) fun r2 =>
 (bd (unA .not r2.1) fun t13_3 =>
 (bd (asB t13_3) fun b4 =>
 if b4 = true then
 (bd (flA [(0, 1), (1, 1)] [(.int .i64 0), (.int .i64 0)] []) fun t19_5 =>
 (bd (flA [(0, 1), (1, 1)] [(.int .i64 0), (.int .i64 0)] []) fun t20_6 =>
 (bd (stA 2 (.ptr (some ((H.push o1).n, 0))) t19_5 r2.2) fun H7 =>
 (bd (stA 2 (.ptr (some (((H.push o1).push (.cells [(.int .i64 0), (.int .i64 0)] ty_api_Point false)).n, 0))) t20_6 H7) fun H8 =>
 (bd (ldN 2 (.ptr (some ((H.push o1).n, 0))) H8) fun t9 =>
 (bd (ldN 2 (.ptr (some (((H.push o1).push (.cells [(.int .i64 0), (.int .i64 0)] ty_api_Point false)).n, 0))) H8) fun t10 =>
 (some (.tuple [t9, t10, (.bool false)], H8))))))))
 else
 (bd (ldN 2 (.ptr (some (H.n, 0))) r2.2) fun t15_11 =>
 (bd (call 166 [t15_11] r2.2) fun r12 =>
 (bd (unA .not r12.1) fun t17_13 =>
 (bd (asB t17_13) fun b14 =>
 if b14 = true then
 (bd (flA [(0, 1), (1, 1)] [(.int .i64 0), (.int .i64 0)] []) fun t19_15 =>
 (bd (flA [(0, 1), (1, 1)] [(.int .i64 0), (.int .i64 0)] []) fun t20_16 =>
 (bd (stA 2 (.ptr (some ((H.push o1).n, 0))) t19_15 r12.2) fun H17 =>
 (bd (stA 2 (.ptr (some (((H.push o1).push (.cells [(.int .i64 0), (.int .i64 0)] ty_api_Point false)).n, 0))) t20_16 H17) fun H18 =>
 (bd (ldN 2 (.ptr (some ((H.push o1).n, 0))) H18) fun t19 =>
 (bd (ldN 2 (.ptr (some (((H.push o1).push (.cells [(.int .i64 0), (.int .i64 0)] ty_api_Point false)).n, 0))) H18) fun t20 =>
 (some (.tuple [t19, t20, (.bool false)], H18))))))))
 else
 (bd (faA 0 (.ptr (some (H.n, 0)))) fun t22_21 =>
 (bd (ld1 t22_21 r12.2) fun t23_22 =>
 (bd (call 167 [t23_22, v1] r12.2) fun r23 =>
 (bd (extA r23.1 0) fun t26_24 =>
 (bd (extA r23.1 1) fun t27_25 =>
 (bd (faA 1 (.ptr (some (H.n, 0)))) fun t29_26 =>
 (bd (ld1 t29_26 r23.2) fun t30_27 =>
 (bd (call 167 [t30_27, v1] r23.2) fun r28 =>
 (bd (extA r28.1 0) fun t33_29 =>
 (bd (extA r28.1 1) fun t34_30 =>
 (bd (flA [(0, 1), (1, 1)] [(.int .i64 0), (.int .i64 0)] [(0, t26_24), (1, t33_29)]) fun t37_31 =>
 (bd (flA [(0, 1), (1, 1)] [(.int .i64 0), (.int .i64 0)] [(0, t27_25), (1, t34_30)]) fun t40_32 =>
 (bd (stA 2 (.ptr (some ((H.push o1).n, 0))) t37_31 r28.2) fun H33 =>
 (bd (stA 2 (.ptr (some (((H.push o1).push (.cells [(.int .i64 0), (.int .i64 0)] ty_api_Point false)).n, 0))) t40_32 H33) fun H34 =>
 (bd (ldN 2 (.ptr (some ((H.push o1).n, 0))) H34) fun t35 =>
 (bd (ldN 2 (.ptr (some (((H.push o1).push (.cells [(.int .i64 0), (.int .i64 0)] ty_api_Point false)).n, 0))) H34) fun t36 =>
 (some (.tuple [t35, t36, (.bool true)], H34))))))))))))))))))))))))))
theorem lift_Home.r_e (n : Nat) (v0 v1 : V) (H : Heap) : lift_Home.r @bdI (callA C n) n v0 v1 H = E C n 121 [] (argsA 0 [v0, v1]) H (kR C 121) := by
  unfold lift_Home.r
  kernel_rfl
noncomputable def lift_Home.rf (bd : B3) (call : FuncId → List V → Heap → Option R) (n : Nat) (a : List V) (H : Heap) : Option R := pureA a H fun a => (match a with | [v0, v1] => lift_Home.r bd call n v0 v1 ⟨0, .nil⟩ | a => E C n 121 [] (argsA 0 a) ⟨0, .nil⟩ (kR C 121))
theorem lift_Home.rf_b (n : Nat) (a : List V) (H : Heap) : (match a with | [v0, v1] => lift_Home.r @bdI (callA C n) n v0 v1 H | a => E C n 121 [] (argsA 0 a) H (kR C 121)) = E C n 121 [] (argsA 0 a) H (kR C 121) := by
  split
  · exact lift_Home.r_e n _ _ H
  · rfl
theorem lift_Home.rf_e (n : Nat) (a : List V) (H : Heap) : lift_Home.rf @bdI (callA C n) n a H = callA C (n + 1) 121 a H := by
  unfold lift_Home.rf
  refine (congrArg (pureA a H) (funext fun a => lift_Home.rf_b n a ⟨0, .nil⟩)).trans ?_
  kernel_rfl
noncomputable def pred_Dist2.r (bd : B3) (call : FuncId → List V → Heap → Option R) (n : Nat) (v0 v1 : V) (H : Heap) : Option R :=
 (bd (boxA ty_api_Point v0) fun o1 =>
 (bd (boxA ty_api_Point v1) fun o2 =>
 (bd (ldN 2 (.ptr (some (H.n, 0))) (((H.push o1).push o2).push (.cells [(.int .i64 0), (.int .u64 0)] ty_api_Wide false))) fun t5_3 =>
 (bd (ldN 2 (.ptr (some ((H.push o1).n, 0))) (((H.push o1).push o2).push (.cells [(.int .i64 0), (.int .u64 0)] ty_api_Wide false))) fun t6_4 =>
 (bd (bSl 2 ty_api_Point [(.int .i64 0), (.int .i64 0)] 2 [(0, t5_3), (1, t6_4)]) fun o5 =>
 (bd (call 169 [(.slice ⟨some ((((H.push o1).push o2).push (.cells [(.int .i64 0), (.int .u64 0)] ty_api_Wide false)).n, 0), 2, 2, false⟩)] ((((H.push o1).push o2).push (.cells [(.int .i64 0), (.int .u64 0)] ty_api_Wide false)).push o5)) fun r6 =>
 (bd (unA .not r6.1) fun t9_7 =>
 (bd (asB t9_7) fun b8 =>
 if b8 = true then
 (bd (flA [(0, 1), (1, 1)] [(.int .i64 0), (.int .u64 0)] []) fun t10_9 =>
 (bd (stA 2 (.ptr (some (((H.push o1).push o2).n, 0))) t10_9 r6.2) fun H10 =>
 (bd (ldN 2 (.ptr (some (((H.push o1).push o2).n, 0))) H10) fun t11 =>
 (some (t11, H10)))))
 else
 (bd (ldN 2 (.ptr (some (H.n, 0))) r6.2) fun t11_12 =>
 (bd (ldN 2 (.ptr (some ((H.push o1).n, 0))) r6.2) fun t12_13 =>
 (bd (call 171 [t11_12, t12_13] r6.2) fun r14 =>
 (bd (call 170 [r14.1] r14.2) fun r15 =>
 (bd (stA 2 (.ptr (some (((H.push o1).push o2).n, 0))) r15.1 r15.2) fun H16 =>
 (bd (ldN 2 (.ptr (some (((H.push o1).push o2).n, 0))) H16) fun t17 =>
 (some (t17, H16))))))))))))))))
theorem pred_Dist2.r_e (n : Nat) (v0 v1 : V) (H : Heap) : pred_Dist2.r @bdI (callA C n) n v0 v1 H = E C n 123 [] (argsA 0 [v0, v1]) H (kR C 123) := by
  unfold pred_Dist2.r
  kernel_rfl
noncomputable def pred_Dist2.rf (bd : B3) (call : FuncId → List V → Heap → Option R) (n : Nat) (a : List V) (H : Heap) : Option R := pureA a H fun a => (match a with | [v0, v1] => pred_Dist2.r bd call n v0 v1 ⟨0, .nil⟩ | a => E C n 123 [] (argsA 0 a) ⟨0, .nil⟩ (kR C 123))
theorem pred_Dist2.rf_b (n : Nat) (a : List V) (H : Heap) : (match a with | [v0, v1] => pred_Dist2.r @bdI (callA C n) n v0 v1 H | a => E C n 123 [] (argsA 0 a) H (kR C 123)) = E C n 123 [] (argsA 0 a) H (kR C 123) := by
  split
  · exact pred_Dist2.r_e n _ _ H
  · rfl
theorem pred_Dist2.rf_e (n : Nat) (a : List V) (H : Heap) : pred_Dist2.rf @bdI (callA C n) n a H = callA C (n + 1) 123 a H := by
  unfold pred_Dist2.rf
  refine (congrArg (pureA a H) (funext fun a => pred_Dist2.rf_b n a ⟨0, .nil⟩)).trans ?_
  kernel_rfl
noncomputable def wide_sub.r (bd : B3) (call : FuncId → List V → Heap → Option R) (n : Nat) (v0 v1 : V) (H : Heap) : Option R :=
 (bd (boxA ty_api_Wide v0) fun o1 =>
 (bd (boxA ty_api_Wide v1) fun o2 =>
 (bd (faA 1 (.ptr (some (H.n, 0)))) fun t10_3 =>
 (bd (ld1 t10_3 (((H.push o1).push o2).push (.cells [(.int .i64 0), (.int .u64 0)] ty_api_Wide false))) fun t11_4 =>
 (bd (faA 1 (.ptr (some ((H.push o1).n, 0)))) fun t12_5 =>
 (bd (ld1 t12_5 (((H.push o1).push o2).push (.cells [(.int .i64 0), (.int .u64 0)] ty_api_Wide false))) fun t13_6 =>
 (bd (call 172 [t11_4, t13_6, (.int .u64 0)] (((H.push o1).push o2).push (.cells [(.int .i64 0), (.int .u64 0)] ty_api_Wide false))) fun r7 =>
 (bd (extA r7.1 0) fun t15_8 =>
 (bd (extA r7.1 1) fun t16_9 =>
 (bd (faA 0 (.ptr (some (H.n, 0)))) fun t18_10 =>
 (bd (ld1 t18_10 r7.2) fun t19_11 =>
 (bd (cvInt .u64 t19_11) fun t20_12 =>
 (bd (faA 0 (.ptr (some ((H.push o1).n, 0)))) fun t21_13 =>
 (bd (ld1 t21_13 r7.2) fun t22_14 =>
 (bd (cvInt .u64 t22_14) fun t23_15 =>
 (bd (call 172 [t20_12, t23_15, t16_9] r7.2) fun r16 =>
 (bd (extA r16.1 0) fun t26_17 =>
 (bd (extA r16.1 1) fun t27_18 =>
 (bd (cvInt .i64 t26_17) fun t29_19 =>
 (bd (flA [(0, 1), (1, 1)] [(.int .i64 0), (.int .u64 0)] [(0, t29_19), (1, t15_8)]) fun t31_20 =>
 (bd (stA 2 (.ptr (some (((H.push o1).push o2).n, 0))) t31_20 r16.2) fun H21 =>
 (bd (ldN 2 (.ptr (some (((H.push o1).push o2).n, 0))) H21) fun t22 =>
 (some (t22, H21))))))))))))))))))))))))
theorem wide_sub.r_e (n : Nat) (v0 v1 : V) (H : Heap) : wide_sub.r @bdI (callA C n) n v0 v1 H = E C n 124 [] (argsA 0 [v0, v1]) H (kR C 124) := by
  unfold wide_sub.r
  kernel_rfl
noncomputable def wide_sub.rf (bd : B3) (call : FuncId → List V → Heap → Option R) (n : Nat) (a : List V) (H : Heap) : Option R := pureA a H fun a => (match a with | [v0, v1] => wide_sub.r bd call n v0 v1 ⟨0, .nil⟩ | a => E C n 124 [] (argsA 0 a) ⟨0, .nil⟩ (kR C 124))
theorem wide_sub.rf_b (n : Nat) (a : List V) (H : Heap) : (match a with | [v0, v1] => wide_sub.r @bdI (callA C n) n v0 v1 H | a => E C n 124 [] (argsA 0 a) H (kR C 124)) = E C n 124 [] (argsA 0 a) H (kR C 124) := by
  split
  · exact wide_sub.r_e n _ _ H
  · rfl
theorem wide_sub.rf_e (n : Nat) (a : List V) (H : Heap) : wide_sub.rf @bdI (callA C n) n a H = callA C (n + 1) 124 a H := by
  unfold wide_sub.rf
  refine (congrArg (pureA a H) (funext fun a => wide_sub.rf_b n a ⟨0, .nil⟩)).trans ?_
  kernel_rfl
@[irreducible] noncomputable def pdt_lay.l0 (n m0 : Nat) (v5 v6 v23 v24 v25 : V) (H : Heap) : Option R := Lp C n 133 [1, 1, 1, 0, 1, 0, 0] m0 [(5, v5), (6, v6), (23, v23), (24, v24), (25, v25)] H (kB 0 (kC C n 133 [1, 1, 1, 1] (kR C 133)))
@[irreducible] noncomputable def pdt_lay.p1 (n : Nat) (v5 v6 : V) (H : Heap) : Option R := E C n 133 [1, 1, 1, 1] [(5, v5), (6, v6)] H (kR C 133)
@[irreducible] noncomputable def pdt_lay.l2 (n m0 : Nat) (v5 v57 v58 v59 : V) (H : Heap) : Option R := Lp C n 133 [1, 1, 1, 1, 0, 1, 0, 0] m0 [(5, v5), (57, v57), (58, v58), (59, v59)] H (kB 2 (kC C n 133 [1, 1, 1, 1, 1] (kR C 133)))
noncomputable def pdt_lay.r_l2 (bd : B3) (call : FuncId → List V → Heap → Option R) (n : Nat) (s0 : V → V → V → V → Heap → Option R) (v5 v57 v58 v59 : V) (H : Heap) : Option R :=
 (bd (arA .lss v59 v58) fun t60_1 =>
 (bd (asB t60_1) fun b2 =>
 if b2 = true then
 (bd (idxS 10 v57 v59) fun t61_3 =>
 (bd (ldN 10 t61_3 H) fun t62_4 =>
 (bd (stA 10 (.ptr (some (H.n, 0))) t62_4 (H.push (.cells [(.int .i64 0), (.int .i64 0), (.int .i64 0), (.int .i64 0), (.int .i64 0), (.int .i64 0), (.int .i64 0), (.int .i64 0), (.int .i64 0), (.int .i64 0)] ty_api_Cell false))) fun H5 =>
 (bd (faA 0 (.ptr (some (H.n, 0)))) fun t64_6 =>
 (bd (ld1 t64_6 H5) fun t65_7 =>
 (bd (bSl 1 ty_int [(.int .i64 0)] 1 [(0, t65_7)]) fun o8 =>
 (bd (call 195 [v5, (.slice ⟨some (H5.n, 0), 1, 1, false⟩)] (H5.push o8)) fun r9 =>
 (bd (arA .add v59 (.int .i64 1)) fun t68_10 =>
 (s0 v5 v57 v58 t68_10 r9.2)))))))))
 else
 (some (v5, H))))
theorem pdt_lay.r_l2_e (n m0 : Nat) : pdt_lay.r_l2 @bdI (callA C n) n (pdt_lay.l2 n m0) = pdt_lay.l2 n (m0 + 1) := by
  funext v5 v57 v58 v59 H
  unfold pdt_lay.r_l2
  kernel_rfl
noncomputable def pdt_lay.r_l2_lp (bd : B3) (call : FuncId → List V → Heap → Option R) (n : Nat) (m : Nat) : V → V → V → V → Heap → Option R := Nat.rec (motive := fun _ => V → V → V → V → Heap → Option R) (fun _ _ _ _ _ => none) (fun _ self => pdt_lay.r_l2 bd call n self) m
theorem pdt_lay.r_l2_lp_e (n : Nat) : pdt_lay.r_l2_lp @bdI (callA C n) n = pdt_lay.l2 n := by
  funext m
  induction m with
  | zero => funext v5 v57 v58 v59 H; kernel_rfl
  | succ k ih => exact (congrArg (pdt_lay.r_l2 @bdI (callA C n) n) ih).trans (pdt_lay.r_l2_e n k)
noncomputable def pdt_lay.r_p1 (bd : B3) (call : FuncId → List V → Heap → Option R) (n : Nat) (v5 v6 : V) (H : Heap) : Option R :=
 (bd (faA 2 v6) fun t56_1 =>
 (bd (ld1 t56_1 H) fun t57_2 =>
 (bd (lenSl t57_2) fun t58_3 =>
 (pdt_lay.r_l2_lp bd call n n v5 t57_2 t58_3 (.int .i64 0) H))))
theorem pdt_lay.r_p1_e (n : Nat) : pdt_lay.r_p1 @bdI (callA C n) n = pdt_lay.p1 n := by
  funext v5 v6 H
  unfold pdt_lay.r_p1
  rewrite [pdt_lay.r_l2_lp_e]
  kernel_rfl
noncomputable def pdt_lay.r_l0 (bd : B3) (call : FuncId → List V → Heap → Option R) (n : Nat) (s0 : V → V → V → V → V → Heap → Option R) (v5 v6 v23 v24 v25 : V) (H : Heap) : Option R :=
 (bd (arA .lss v25 v24) fun t26_1 =>
 (bd (asB t26_1) fun b2 =>
 if b2 = true then
 (bd (idxS 4 v23 v25) fun t27_3 =>
 (bd (ldN 4 t27_3 H) fun t28_4 =>
 (bd (stA 4 (.ptr (some (H.n, 0))) t28_4 (H.push (.cells [(.int .i64 0), (.int .i64 0), (.int .i64 0), (.int .i64 0)] ty_api_Vert false))) fun H5 =>
 (bd (nilC v5) fun t30_6 =>
 (bd (faA 1 t30_6) fun t31_7 =>
 (bd (ld1 t31_7 (H5.more 0)) fun t32_8 =>
 (bd (faA 0 (.ptr (some (H.n, 0)))) fun t33_9 =>
 (bd (ld1 t33_9 (H5.more 0)) fun t34_10 =>
 (bd (faA 1 (.ptr (some (H.n, 0)))) fun t35_11 =>
 (bd (ldN 2 t35_11 (H5.more 0)) fun t36_12 =>
 (bd (call 194 [t32_8, t34_10, t36_12] (H5.more 0)) fun r13 =>
 (bd (nilC v5) fun t45_14 =>
 (bd (faA 4 t45_14) fun t46_15 =>
 (bd (ld1 t46_15 (r13.2.more 1)) fun t47_16 =>
 (bd (faA 3 (.ptr (some (H.n, 0)))) fun t48_17 =>
 (bd (ld1 t48_17 (r13.2.more 1)) fun t49_18 =>
 (bd (lookM P ty_int (.slice ⟨none, 0, 0, false⟩) t47_16 t49_18 false (r13.2.more 1)) fun t50_19 =>
 (bd (faA 0 (.ptr (some (H.n, 0)))) fun t51_20 =>
 (bd (ld1 t51_20 (r13.2.more 1)) fun t52_21 =>
 (bd (bSl 1 ty_int [(.int .i64 0)] 1 [(0, t52_21)]) fun o22 =>
 (bd (appA 1 8 ty_int t50_19 (.slice ⟨some ((r13.2.n + 0), 0), 1, 1, false⟩) ((r13.2.more 1).set (r13.2.n + 0) o22)) fun p23 =>
 (bd (nilC v5) fun t39_24 =>
 (bd (faA 4 t39_24) fun t40_25 =>
 (bd (ld1 t40_25 p23.2) fun t41_26 =>
 (bd (chk (ld1 t40_25 (r13.2.more 1)) t41_26) fun _ =>
 (bd (faA 3 (.ptr (some (H.n, 0)))) fun t42_27 =>
 (bd (ld1 t42_27 p23.2) fun t43_28 =>
 (bd (chk (ld1 t42_27 (r13.2.more 1)) t43_28) fun _ =>
 (bd (updM P ty_int t41_26 t43_28 p23.1 p23.2) fun H29 =>
 (bd (arA .add v25 (.int .i64 1)) fun t55_30 =>
 (s0 v5 v6 v23 v24 t55_30 H29)))))))))))))))))))))))))))))))
 else
 (pdt_lay.r_p1 bd call n v5 v6 H)))
theorem pdt_lay.r_l0_e (n m0 : Nat) : pdt_lay.r_l0 @bdI (callA C n) n (pdt_lay.l0 n m0) = pdt_lay.l0 n (m0 + 1) := by
  funext v5 v6 v23 v24 v25 H
  unfold pdt_lay.r_l0
  rewrite [pdt_lay.r_p1_e]
  kernel_rfl
noncomputable def pdt_lay.r_l0_lp (bd : B3) (call : FuncId → List V → Heap → Option R) (n : Nat) (m : Nat) : V → V → V → V → V → Heap → Option R := Nat.rec (motive := fun _ => V → V → V → V → V → Heap → Option R) (fun _ _ _ _ _ _ => none) (fun _ self => pdt_lay.r_l0 bd call n self) m
theorem pdt_lay.r_l0_lp_e (n : Nat) : pdt_lay.r_l0_lp @bdI (callA C n) n = pdt_lay.l0 n := by
  funext m
  induction m with
  | zero => funext v5 v6 v23 v24 v25 H; kernel_rfl
  | succ k ih => exact (congrArg (pdt_lay.r_l0 @bdI (callA C n) n) ih).trans (pdt_lay.r_l0_e n k)
noncomputable def pdt_lay.r (bd : B3) (call : FuncId → List V → Heap → Option R) (n : Nat) (v0 v1 : V) (H : Heap) : Option R :=
 (bd (call 193 [v0] H) fun r1 =>
 (bd (call 192 [r1.1, (.int .i64 16)] r1.2) fun r2 =>
 (bd (flA [(0, 1), (1, 1), (2, 1), (3, 1), (4, 1)] [(.ptr none), (.ptr none), (.int .i64 0), (.map none), (.map none)] [(0, v0), (1, r2.1), (2, v1), (3, (.map (some r2.2.n))), (4, (.map (some (r2.2.push (.map [] 0)).n)))]) fun t18_3 =>
 (bd (boxA ty_pdt_sheet t18_3) fun o4 =>
 (bd (call 120 [v0] (((r2.2.push (.map [] 0)).push (.map [] 0)).push o4)) fun r5 =>
 (bd (stA 3 (.ptr (some (r5.2.n, 0))) r5.1 (r5.2.push (.cells [(.int .i64 0), (.slice ⟨none, 0, 0, false⟩), (.slice ⟨none, 0, 0, false⟩)] ty_api_Dump false))) fun H6 =>
 (bd (faA 1 (.ptr (some (r5.2.n, 0)))) fun t22_7 =>
 (bd (ld1 t22_7 H6) fun t23_8 =>
 (bd (lenSl t23_8) fun t24_9 =>
 (pdt_lay.r_l0_lp bd call n n (.ptr (some (((r2.2.push (.map [] 0)).push (.map [] 0)).n, 0))) (.ptr (some (r5.2.n, 0))) t23_8 t24_9 (.int .i64 0) H6))))))))))
theorem pdt_lay.r_e (n : Nat) (v0 v1 : V) (H : Heap) : pdt_lay.r @bdI (callA C n) n v0 v1 H = E C n 133 [] (argsA 0 [v0, v1]) H (kR C 133) := by
  unfold pdt_lay.r
  rewrite [pdt_lay.r_l0_lp_e]
  kernel_rfl
noncomputable def pdt_lay.rf (bd : B3) (call : FuncId → List V → Heap → Option R) (n : Nat) (a : List V) (H : Heap) : Option R := (match a with | [v0, v1] => pdt_lay.r bd call n v0 v1 H | a => E C n 133 [] (argsA 0 a) H (kR C 133))
theorem pdt_lay.rf_b (n : Nat) (a : List V) (H : Heap) : (match a with | [v0, v1] => pdt_lay.r @bdI (callA C n) n v0 v1 H | a => E C n 133 [] (argsA 0 a) H (kR C 133)) = E C n 133 [] (argsA 0 a) H (kR C 133) := by
  split
  · exact pdt_lay.r_e n _ _ H
  · rfl
theorem pdt_lay.rf_e (n : Nat) (a : List V) (H : Heap) : pdt_lay.rf @bdI (callA C n) n a H = callA C (n + 1) 133 a H := by
  unfold pdt_lay.rf
  refine (pdt_lay.rf_b n a H).trans ?_
  kernel_rfl
noncomputable def mesh_New.r (bd : B3) (call : FuncId → List V → Heap → Option R) (n : Nat) (v0 : V) (H : Heap) : Option R :=
 (bd (arA .lss v0 (.int .i64 1)) fun t4_1 =>
 (bd (asB t4_1) fun b2 =>
 if b2 = true then
 (some ((.ptr none), H))
 else
 (bd (arA .gtr v0 (.int .i64 17179869184)) fun t7_3 =>
 (bd (asB t7_3) fun b4 =>
 if b4 = true then
 (some ((.ptr none), H))
 else
 (bd (call 196 [] H) fun r5 =>
 (bd (call 196 [] r5.2) fun r6 =>
 (bd (flA [(0, 1), (1, 1), (2, 1), (3, 1), (4, 1), (5, 1), (6, 1)] [(.int .i64 0), (.ptr none), (.ptr none), (.slice ⟨none, 0, 0, false⟩), (.slice ⟨none, 0, 0, false⟩), (.map none), (.map none)] [(0, v0), (1, r5.1), (2, r6.1), (5, (.map (some r6.2.n))), (6, (.map (some (r6.2.push (.map [] 0)).n)))]) fun t14_7 =>
 (bd (boxA ty_mesh_Mesh t14_7) fun o8 =>
 (some ((.ptr (some (((r6.2.push (.map [] 0)).push (.map [] 0)).n, 0))), (((r6.2.push (.map [] 0)).push (.map [] 0)).push o8)))))))))))
theorem mesh_New.r_e (n : Nat) (v0 : V) (H : Heap) : mesh_New.r @bdI (callA C n) n v0 H = E C n 134 [] (argsA 0 [v0]) H (kR C 134) := by
  unfold mesh_New.r
  kernel_rfl
noncomputable def mesh_New.rf (bd : B3) (call : FuncId → List V → Heap → Option R) (n : Nat) (a : List V) (H : Heap) : Option R := (match a with | [v0] => mesh_New.r bd call n v0 H | a => E C n 134 [] (argsA 0 a) H (kR C 134))
theorem mesh_New.rf_b (n : Nat) (a : List V) (H : Heap) : (match a with | [v0] => mesh_New.r @bdI (callA C n) n v0 H | a => E C n 134 [] (argsA 0 a) H (kR C 134)) = E C n 134 [] (argsA 0 a) H (kR C 134) := by
  split
  · exact mesh_New.r_e n _ H
  · rfl
theorem mesh_New.rf_e (n : Nat) (a : List V) (H : Heap) : mesh_New.rf @bdI (callA C n) n a H = callA C (n + 1) 134 a H := by
  unfold mesh_New.rf
  refine (mesh_New.rf_b n a H).trans ?_
  kernel_rfl
noncomputable def pdt_Engine_site.r (bd : B3) (call : FuncId → List V → Heap → Option R) (n : Nat) (v0 v1 : V) (H : Heap) : Option R :=
 (bd (boxA ty_api_Point v1) fun o1 =>
 (bd (faA 0 (.ptr (some (H.n, 0)))) fun t5_2 =>
 (bd (ld1 t5_2 ((H.push o1).more 0)) fun t6_3 =>
 (bd (arA .geq t6_3 (.int .i64 0)) fun t7_4 =>
 (bd (asB t7_4) fun b5 =>
 if b5 = true then
 (bd (faA 0 (.ptr (some (H.n, 0)))) fun t9_6 =>
 (bd (ld1 t9_6 ((H.push o1).more 0)) fun t10_7 =>
 (bd (nilC v0) fun t12_8 =>
 (bd (faA 0 t12_8) fun t13_9 =>
 (bd (ld1 t13_9 ((H.push o1).more 0)) fun t14_10 =>
 (bd (arA .lss t10_7 t14_10) fun t15_11 =>
 (bd (asB t15_11) fun b12 =>
 if b12 = true then
 (bd (faA 1 (.ptr (some (H.n, 0)))) fun t18_13 =>
 (bd (ld1 t18_13 ((H.push o1).more 0)) fun t19_14 =>
 (bd (arA .geq t19_14 (.int .i64 0)) fun t20_15 =>
 (bd (asB t20_15) fun b16 =>
 if b16 = true then
 (bd (faA 1 (.ptr (some (H.n, 0)))) fun t23_17 =>
 (bd (ld1 t23_17 ((H.push o1).more 0)) fun t24_18 =>
 (bd (nilC v0) fun t26_19 =>
 (bd (faA 0 t26_19) fun t27_20 =>
 (bd (ld1 t27_20 ((H.push o1).more 0)) fun t28_21 =>
 (bd (arA .lss t24_18 t28_21) fun t29_22 =>
 (some (t29_22, ((H.push o1).more 0)))))))))
 else
 (some ((.bool false), ((H.push o1).more 0)))))))
 else
 (some ((.bool false), ((H.push o1).more 0))))))))))
 else
 (some ((.bool false), ((H.push o1).more 0))))))))
theorem pdt_Engine_site.r_e (n : Nat) (v0 v1 : V) (H : Heap) : pdt_Engine_site.r @bdI (callA C n) n v0 v1 H = E C n 135 [] (argsA 0 [v0, v1]) H (kR C 135) := by
  unfold pdt_Engine_site.r
  kernel_rfl
noncomputable def pdt_Engine_site.rf (bd : B3) (call : FuncId → List V → Heap → Option R) (n : Nat) (a : List V) (H : Heap) : Option R := (match a with | [v0, v1] => pdt_Engine_site.r bd call n v0 v1 H | a => E C n 135 [] (argsA 0 a) H (kR C 135))
theorem pdt_Engine_site.rf_b (n : Nat) (a : List V) (H : Heap) : (match a with | [v0, v1] => pdt_Engine_site.r @bdI (callA C n) n v0 v1 H | a => E C n 135 [] (argsA 0 a) H (kR C 135)) = E C n 135 [] (argsA 0 a) H (kR C 135) := by
  split
  · exact pdt_Engine_site.r_e n _ _ H
  · rfl
theorem pdt_Engine_site.rf_e (n : Nat) (a : List V) (H : Heap) : pdt_Engine_site.rf @bdI (callA C n) n a H = callA C (n + 1) 135 a H := by
  unfold pdt_Engine_site.rf
  refine (pdt_Engine_site.rf_b n a H).trans ?_
  kernel_rfl
noncomputable def internal_strconv_small.r (bd : B3) (call : FuncId → List V → Heap → Option R) (n : Nat) (v0 : V) (H : Heap) : Option R :=
 (bd (arA .lss v0 (.int .i64 10)) fun t4_1 =>
 (bd (asB t4_1) fun b2 =>
 if b2 = true then
 (bd (arA .add v0 (.int .i64 1)) fun t7_3 =>
 (bd (slStr (.str [48, 49, 50, 51, 52, 53, 54, 55, 56, 57, 97, 98, 99, 100, 101, 102, 103, 104, 105, 106, 107, 108, 109, 110, 111, 112, 113, 114, 115, 116, 117, 118, 119, 120, 121, 122]) (some v0) (some t7_3)) fun t8_4 =>
 (some (t8_4, H))))
 else
 (bd (arA .mul v0 (.int .i64 2)) fun t10_5 =>
 (bd (arA .mul v0 (.int .i64 2)) fun t12_6 =>
 (bd (arA .add t12_6 (.int .i64 2)) fun t13_7 =>
 (bd (slStr (.str [48, 48, 48, 49, 48, 50, 48, 51, 48, 52, 48, 53, 48, 54, 48, 55, 48, 56, 48, 57, 49, 48, 49, 49, 49, 50, 49, 51, 49, 52, 49, 53, 49, 54, 49, 55, 49, 56, 49, 57, 50, 48, 50, 49, 50, 50, 50, 51, 50, 52, 50, 53, 50, 54, 50, 55, 50, 56, 50, 57, 51, 48, 51, 49, 51, 50, 51, 51, 51, 52, 51, 53, 51, 54, 51, 55, 51, 56, 51, 57, 52, 48, 52, 49, 52, 50, 52, 51, 52, 52, 52, 53, 52, 54, 52, 55, 52, 56, 52, 57, 53, 48, 53, 49, 53, 50, 53, 51, 53, 52, 53, 53, 53, 54, 53, 55, 53, 56, 53, 57, 54, 48, 54, 49, 54, 50, 54, 51, 54, 52, 54, 53, 54, 54, 54, 55, 54, 56, 54, 57, 55, 48, 55, 49, 55, 50, 55, 51, 55, 52, 55, 53, 55, 54, 55, 55, 55, 56, 55, 57, 56, 48, 56, 49, 56, 50, 56, 51, 56, 52, 56, 53, 56, 54, 56, 55, 56, 56, 56, 57, 57, 48, 57, 49, 57, 50, 57, 51, 57, 52, 57, 53, 57, 54, 57, 55, 57, 56, 57, 57]) (some t10_5) (some t13_7)) fun t14_8 =>
 (some (t14_8, H))))))))
theorem internal_strconv_small.r_e (n : Nat) (v0 : V) (H : Heap) : internal_strconv_small.r @bdI (callA C n) n v0 H = E C n 147 [] (argsA 0 [v0]) H (kR C 147) := by
  unfold internal_strconv_small.r
  kernel_rfl
noncomputable def internal_strconv_small.rf (bd : B3) (call : FuncId → List V → Heap → Option R) (n : Nat) (a : List V) (H : Heap) : Option R := (match a with | [v0] => internal_strconv_small.r bd call n v0 H | a => E C n 147 [] (argsA 0 a) H (kR C 147))
theorem internal_strconv_small.rf_b (n : Nat) (a : List V) (H : Heap) : (match a with | [v0] => internal_strconv_small.r @bdI (callA C n) n v0 H | a => E C n 147 [] (argsA 0 a) H (kR C 147)) = E C n 147 [] (argsA 0 a) H (kR C 147) := by
  split
  · exact internal_strconv_small.r_e n _ H
  · rfl
theorem internal_strconv_small.rf_e (n : Nat) (a : List V) (H : Heap) : internal_strconv_small.rf @bdI (callA C n) n a H = callA C (n + 1) 147 a H := by
  unfold internal_strconv_small.rf
  refine (internal_strconv_small.rf_b n a H).trans ?_
  kernel_rfl
@[irreducible] noncomputable def math_bits_Len32.p0 (n : Nat) (v0 v2 : V) (H : Heap) : Option R := E C n 159 [1, 1] [(0, v0), (2, v2)] H (kR C 159)
@[irreducible] noncomputable def math_bits_Len32.p1 (n : Nat) (v0 v2 : V) (H : Heap) : Option R := E C n 159 [1, 1, 1] [(0, v0), (2, v2)] H (kR C 159)
noncomputable def math_bits_Len32.r_p1 (bd : B3) (call : FuncId → List V → Heap → Option R) (n : Nat) (v0 v2 : V) (H : Heap) : Option R :=
 (bd (cvInt .u8 v0) fun t15_1 =>
 (bd (ixStr (.str [0, 1, 2, 2, 3, 3, 3, 3, 4, 4, 4, 4, 4, 4, 4, 4, 5, 5, 5, 5, 5, 5, 5, 5, 5, 5, 5, 5, 5, 5, 5, 5, 6, 6, 6, 6, 6, 6, 6, 6, 6, 6, 6, 6, 6, 6, 6, 6, 6, 6, 6, 6, 6, 6, 6, 6, 6, 6, 6, 6, 6, 6, 6, 6, 7, 7, 7, 7, 7, 7, 7, 7, 7, 7, 7, 7, 7, 7, 7, 7, 7, 7, 7, 7, 7, 7, 7, 7, 7, 7, 7, 7, 7, 7, 7, 7, 7, 7, 7, 7, 7, 7, 7, 7, 7, 7, 7, 7, 7, 7, 7, 7, 7, 7, 7, 7, 7, 7, 7, 7, 7, 7, 7, 7, 7, 7, 7, 7, 8, 8, 8, 8, 8, 8, 8, 8, 8, 8, 8, 8, 8, 8, 8, 8, 8, 8, 8, 8, 8, 8, 8, 8, 8, 8, 8, 8, 8, 8, 8, 8, 8, 8, 8, 8, 8, 8, 8, 8, 8, 8, 8, 8, 8, 8, 8, 8, 8, 8, 8, 8, 8, 8, 8, 8, 8, 8, 8, 8, 8, 8, 8, 8, 8, 8, 8, 8, 8, 8, 8, 8, 8, 8, 8, 8, 8, 8, 8, 8, 8, 8, 8, 8, 8, 8, 8, 8, 8, 8, 8, 8, 8, 8, 8, 8, 8, 8, 8, 8, 8, 8, 8, 8, 8, 8, 8, 8, 8, 8, 8, 8, 8, 8, 8, 8, 8, 8, 8, 8, 8, 8, 8, 8, 8, 8, 8, 8]) t15_1) fun t16_2 =>
 (bd (cvInt .i64 t16_2) fun t17_3 =>
 (bd (arA .add v2 t17_3) fun t18_4 =>
 (some (t18_4, H))))))
theorem math_bits_Len32.r_p1_e (n : Nat) : math_bits_Len32.r_p1 @bdI (callA C n) n = math_bits_Len32.p1 n := by
  funext v0 v2 H
  unfold math_bits_Len32.r_p1
  kernel_rfl
noncomputable def math_bits_Len32.r_p0 (bd : B3) (call : FuncId → List V → Heap → Option R) (n : Nat) (v0 v2 : V) (H : Heap) : Option R :=
 (bd (arA .geq v0 (.int .u32 256)) fun t8_1 =>
 (bd (asB t8_1) fun b2 =>
 if b2 = true then
 (bd (shA .shr v0 (.int .u64 8)) fun t10_3 =>
 (bd (arA .add v2 (.int .i64 8)) fun t12_4 =>
 (math_bits_Len32.r_p1 bd call n t10_3 t12_4 H)))
 else
 (math_bits_Len32.r_p1 bd call n v0 v2 H)))
theorem math_bits_Len32.r_p0_e (n : Nat) : math_bits_Len32.r_p0 @bdI (callA C n) n = math_bits_Len32.p0 n := by
  funext v0 v2 H
  unfold math_bits_Len32.r_p0
  rewrite [math_bits_Len32.r_p1_e]
  kernel_rfl
noncomputable def math_bits_Len32.r (bd : B3) (call : FuncId → List V → Heap → Option R) (n : Nat) (v0 : V) (H : Heap) : Option R :=
 (bd (arA .geq v0 (.int .u32 65536)) fun t4_1 =>
 (bd (asB t4_1) fun b2 =>
 if b2 = true then
 (bd (shA .shr v0 (.int .u64 16)) fun t6_3 =>
 (math_bits_Len32.r_p0 bd call n t6_3 (.int .i64 16) H))
 else
 (math_bits_Len32.r_p0 bd call n v0 (.int .i64 0) H)))
theorem math_bits_Len32.r_e (n : Nat) (v0 : V) (H : Heap) : math_bits_Len32.r @bdI (callA C n) n v0 H = E C n 159 [] (argsA 0 [v0]) H (kR C 159) := by
  unfold math_bits_Len32.r
  rewrite [math_bits_Len32.r_p0_e]
  kernel_rfl
noncomputable def math_bits_Len32.rf (bd : B3) (call : FuncId → List V → Heap → Option R) (n : Nat) (a : List V) (H : Heap) : Option R := (match a with | [v0] => math_bits_Len32.r bd call n v0 H | a => E C n 159 [] (argsA 0 a) H (kR C 159))
theorem math_bits_Len32.rf_b (n : Nat) (a : List V) (H : Heap) : (match a with | [v0] => math_bits_Len32.r @bdI (callA C n) n v0 H | a => E C n 159 [] (argsA 0 a) H (kR C 159)) = E C n 159 [] (argsA 0 a) H (kR C 159) := by
  split
  · exact math_bits_Len32.r_e n _ H
  · rfl
theorem math_bits_Len32.rf_e (n : Nat) (a : List V) (H : Heap) : math_bits_Len32.rf @bdI (callA C n) n a H = callA C (n + 1) 159 a H := by
  unfold math_bits_Len32.rf
  refine (math_bits_Len32.rf_b n a H).trans ?_
  kernel_rfl
@[irreducible] noncomputable def arena_Arena_All.l0 (n m0 : Nat) (v0 v3 v11 v12 : V) (H : Heap) : Option R := Lp C n 164 [1, 1, 1, 0, 1, 0, 0] m0 [(0, v0), (3, v3), (11, v11), (12, v12)] H (kB 0 (kC C n 164 [1, 1, 1, 1] (kR C 164)))
noncomputable def arena_Arena_All.r_l0 (bd : B3) (call : FuncId → List V → Heap → Option R) (n : Nat) (s0 : V → V → V → V → Heap → Option R) (v0 v3 v11 v12 : V) (H : Heap) : Option R :=
 (bd (arA .lss v12 v11) fun t13_1 =>
 (bd (asB t13_1) fun b2 =>
 if b2 = true then
 (bd (call 237 [v0, v12] H) fun r3 =>
 (bd (asB r3.1) fun b4 =>
 if b4 = true then
 (bd (bSl 1 ty_int [(.int .i64 0)] 1 [(0, v12)]) fun o5 =>
 (bd (appA 1 8 ty_int v3 (.slice ⟨some (r3.2.n, 0), 1, 1, false⟩) (r3.2.push o5)) fun p6 =>
 (bd (arA .add v12 (.int .i64 1)) fun t22_7 =>
 (s0 v0 p6.1 v11 t22_7 p6.2))))
 else
 (bd (arA .add v12 (.int .i64 1)) fun t22_8 =>
 (s0 v0 v3 v11 t22_8 r3.2))))
 else
 (frzR v3 H)))
theorem arena_Arena_All.r_l0_e (n m0 : Nat) : arena_Arena_All.r_l0 @bdI (callA C n) n (arena_Arena_All.l0 n m0) = arena_Arena_All.l0 n (m0 + 1) := by
  funext v0 v3 v11 v12 H
  unfold arena_Arena_All.r_l0
  kernel_rfl
noncomputable def arena_Arena_All.r_l0_lp (bd : B3) (call : FuncId → List V → Heap → Option R) (n : Nat) (m : Nat) : V → V → V → V → Heap → Option R := Nat.rec (motive := fun _ => V → V → V → V → Heap → Option R) (fun _ _ _ _ _ => none) (fun _ self => arena_Arena_All.r_l0 bd call n self) m
theorem arena_Arena_All.r_l0_lp_e (n : Nat) : arena_Arena_All.r_l0_lp @bdI (callA C n) n = arena_Arena_All.l0 n := by
  funext m
  induction m with
  | zero => funext v0 v3 v11 v12 H; kernel_rfl
  | succ k ih => exact (congrArg (arena_Arena_All.r_l0 @bdI (callA C n) n) ih).trans (arena_Arena_All.r_l0_e n k)
noncomputable def arena_Arena_All.r (bd : B3) (call : FuncId → List V → Heap → Option R) (n : Nat) (v0 : V) (H : Heap) : Option R :=
 (bd (eqlA P ty_p_arena_Arena v0 (.ptr none)) fun t6_1 =>
 (bd (asB t6_1) fun b2 =>
 if b2 = true then
 (frzR (.slice ⟨none, 0, 0, false⟩) H)
 else
 (bd (nilC v0) fun t8_3 =>
 (bd (faA 0 t8_3) fun t9_4 =>
 (bd (ld1 t9_4 H) fun t10_5 =>
 (bd (lenSl t10_5) fun t11_6 =>
 (arena_Arena_All.r_l0_lp bd call n n v0 (.slice ⟨none, 0, 0, false⟩) t11_6 (.int .i64 0) H)))))))
theorem arena_Arena_All.r_e (n : Nat) (v0 : V) (H : Heap) : arena_Arena_All.r @bdI (callA C n) n v0 H = E C n 164 [] (argsA 0 [v0]) H (kR C 164) := by
  unfold arena_Arena_All.r
  rewrite [arena_Arena_All.r_l0_lp_e]
  kernel_rfl
noncomputable def arena_Arena_All.rf (bd : B3) (call : FuncId → List V → Heap → Option R) (n : Nat) (a : List V) (H : Heap) : Option R := (match a with | [v0] => arena_Arena_All.r bd call n v0 H | a => E C n 164 [] (argsA 0 a) H (kR C 164))
theorem arena_Arena_All.rf_b (n : Nat) (a : List V) (H : Heap) : (match a with | [v0] => arena_Arena_All.r @bdI (callA C n) n v0 H | a => E C n 164 [] (argsA 0 a) H (kR C 164)) = E C n 164 [] (argsA 0 a) H (kR C 164) := by
  split
  · exact arena_Arena_All.r_e n _ H
  · rfl
theorem arena_Arena_All.rf_e (n : Nat) (a : List V) (H : Heap) : arena_Arena_All.rf @bdI (callA C n) n a H = callA C (n + 1) 164 a H := by
  unfold arena_Arena_All.rf
  refine (arena_Arena_All.rf_b n a H).trans ?_
  kernel_rfl
noncomputable def lift_torus.r (bd : B3) (call : FuncId → List V → Heap → Option R) (n : Nat) (v0 : V) (H : Heap) : Option R :=
 (bd (arA .geq v0 (.int .i64 1)) fun t4_1 =>
 (bd (asB t4_1) fun b2 =>
 if b2 = true then
 (bd (arA .leq v0 (.int .i64 1099511627776)) fun t7_3 =>
 (some (t7_3, H)))
 else
 (some ((.bool false), H))))
theorem lift_torus.r_e (n : Nat) (v0 : V) (H : Heap) : lift_torus.r @bdI (callA C n) n v0 H = E C n 165 [] (argsA 0 [v0]) H (kR C 165) := by
  unfold lift_torus.r
  kernel_rfl
noncomputable def lift_torus.rf (bd : B3) (call : FuncId → List V → Heap → Option R) (n : Nat) (a : List V) (H : Heap) : Option R := pureA a H fun a => (match a with | [v0] => lift_torus.r bd call n v0 ⟨0, .nil⟩ | a => E C n 165 [] (argsA 0 a) ⟨0, .nil⟩ (kR C 165))
theorem lift_torus.rf_b (n : Nat) (a : List V) (H : Heap) : (match a with | [v0] => lift_torus.r @bdI (callA C n) n v0 H | a => E C n 165 [] (argsA 0 a) H (kR C 165)) = E C n 165 [] (argsA 0 a) H (kR C 165) := by
  split
  · exact lift_torus.r_e n _ H
  · rfl
theorem lift_torus.rf_e (n : Nat) (a : List V) (H : Heap) : lift_torus.rf @bdI (callA C n) n a H = callA C (n + 1) 165 a H := by
  unfold lift_torus.rf
  refine (congrArg (pureA a H) (funext fun a => lift_torus.rf_b n a ⟨0, .nil⟩)).trans ?_
  kernel_rfl
end Go.AM.L
end
