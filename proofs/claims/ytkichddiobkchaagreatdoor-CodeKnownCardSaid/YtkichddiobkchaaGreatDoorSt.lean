/-
  The table of these functions.
-/
import Derived.Test.YtkichddiobkchaaGreatDoorS1
import Derived.Test.YtkichddiobkchaaGreatDoorS2
import Derived.Test.YtkichddiobkchaaGreatDoorS3
namespace Go.Am.S
open Go Go.Am Go.Proofs
set_option maxRecDepth 100000
noncomputable def rowsS : List (Nat × FnT) := [(4, d4), (15, d15), (16, d16), (17, d17), (18, d18), (21, d21), (31, d31), (40, d40), (41, d41), (42, d42), (43, d43), (44, d44), (45, d45), (46, d46), (57, d57), (58, d58), (59, d59), (60, d60), (75, d75), (76, d76), (79, d79), (80, d80), (85, d85), (90, d90), (91, d91), (93, d93), (95, d95), (117, d117), (118, d118), (119, d119), (120, d120), (121, d121), (122, d122), (131, d131), (134, d134), (135, d135), (140, d140), (141, d141), (142, d142), (143, d143), (144, d144), (145, d145), (146, d146), (148, d148), (149, d149), (150, d150), (151, d151), (152, d152), (153, d153), (154, d154), (156, d156), (158, d158), (171, d171), (172, d172), (176, d176), (180, d180), (181, d181), (183, d183), (184, d184), (187, d187), (188, d188), (189, d189), (202, d202), (203, d203), (205, d205), (213, d213), (215, d215), (220, d220), (223, d223), (229, d229), (240, d240), (245, d245), (247, d247), (248, d248), (249, d249), (271, d271), (272, d272), (280, d280), (282, d282), (286, d286), (287, d287), (289, d289), (317, d317), (318, d318), (319, d319), (320, d320), (321, d321), (322, d322), (323, d323), (327, d327), (328, d328), (330, d330), (331, d331), (332, d332), (334, d334), (335, d335), (336, d336), (340, d340), (342, d342), (347, d347), (349, d349), (351, d351), (353, d353), (355, d355), (357, d357)]
theorem rowsS_ok : RowsOk Tryz.prog 22 rowsS := by
  intro p hp
  simp only [rowsS, List.mem_cons, List.not_mem_nil, or_false] at hp
  rcases hp with rfl | rfl | rfl | rfl | rfl | rfl | rfl | rfl | rfl | rfl | rfl | rfl | rfl | rfl | rfl | rfl | rfl | rfl | rfl | rfl | rfl | rfl | rfl | rfl | rfl | rfl | rfl | rfl | rfl | rfl | rfl | rfl | rfl | rfl | rfl | rfl | rfl | rfl | rfl | rfl | rfl | rfl | rfl | rfl | rfl | rfl | rfl | rfl | rfl | rfl | rfl | rfl | rfl | rfl | rfl | rfl | rfl | rfl | rfl | rfl | rfl | rfl | rfl | rfl | rfl | rfl | rfl | rfl | rfl | rfl | rfl | rfl | rfl | rfl | rfl | rfl | rfl | rfl | rfl | rfl | rfl | rfl | rfl | rfl | rfl | rfl | rfl | rfl | rfl | rfl | rfl | rfl | rfl | rfl | rfl | rfl | rfl | rfl | rfl | rfl | rfl | rfl | rfl | rfl | rfl
  · exact r4
  · exact r15
  · exact r16
  · exact r17
  · exact r18
  · exact r21
  · exact r31
  · exact r40
  · exact r41
  · exact r42
  · exact r43
  · exact r44
  · exact r45
  · exact r46
  · exact r57
  · exact r58
  · exact r59
  · exact r60
  · exact r75
  · exact r76
  · exact r79
  · exact r80
  · exact r85
  · exact r90
  · exact r91
  · exact r93
  · exact r95
  · exact r117
  · exact r118
  · exact r119
  · exact r120
  · exact r121
  · exact r122
  · exact r131
  · exact r134
  · exact r135
  · exact r140
  · exact r141
  · exact r142
  · exact r143
  · exact r144
  · exact r145
  · exact r146
  · exact r148
  · exact r149
  · exact r150
  · exact r151
  · exact r152
  · exact r153
  · exact r154
  · exact r156
  · exact r158
  · exact r171
  · exact r172
  · exact r176
  · exact r180
  · exact r181
  · exact r183
  · exact r184
  · exact r187
  · exact r188
  · exact r189
  · exact r202
  · exact r203
  · exact r205
  · exact r213
  · exact r215
  · exact r220
  · exact r223
  · exact r229
  · exact r240
  · exact r245
  · exact r247
  · exact r248
  · exact r249
  · exact r271
  · exact r272
  · exact r280
  · exact r282
  · exact r286
  · exact r287
  · exact r289
  · exact r317
  · exact r318
  · exact r319
  · exact r320
  · exact r321
  · exact r322
  · exact r323
  · exact r327
  · exact r328
  · exact r330
  · exact r331
  · exact r332
  · exact r334
  · exact r335
  · exact r336
  · exact r340
  · exact r342
  · exact r347
  · exact r349
  · exact r351
  · exact r353
  · exact r355
  · exact r357
noncomputable def tabS (R : Type) (A : Alg R) : Tr (FnR R) := (.node none (.node none (.node none (.node none (.node (some (d15 R A)) (.node (some (d31 R A)) (.node none .leaf (.node none (.node (some (d319 R A)) .leaf .leaf) .leaf)) (.node (some (d95 R A)) (.node none (.node (some (d287 R A)) .leaf .leaf) .leaf) (.node (some (d223 R A)) (.node (some (d351 R A)) .leaf .leaf) .leaf))) (.node none (.node (some (d79 R A)) (.node (some (d143 R A)) (.node (some (d271 R A)) .leaf .leaf) .leaf) (.node none (.node (some (d335 R A)) .leaf .leaf) .leaf)) .leaf)) (.node none (.node none (.node none (.node (some (d135 R A)) .leaf .leaf) (.node none (.node (some (d327 R A)) .leaf .leaf) .leaf)) .leaf) (.node none (.node none (.node (some (d151 R A)) .leaf .leaf) (.node (some (d215 R A)) .leaf .leaf)) (.node (some (d119 R A)) (.node (some (d183 R A)) .leaf .leaf) (.node (some (d247 R A)) .leaf .leaf))))) (.node none (.node none (.node none (.node none (.node (some (d131 R A)) .leaf .leaf) (.node none (.node (some (d323 R A)) .leaf .leaf) .leaf)) (.node none .leaf (.node none (.node (some (d355 R A)) .leaf .leaf) .leaf))) .leaf) (.node none (.node (some (d43 R A)) (.node (some (d75 R A)) .leaf (.node (some (d203 R A)) (.node (some (d331 R A)) .leaf .leaf) .leaf)) (.node none (.node (some (d171 R A)) .leaf .leaf) .leaf)) (.node (some (d59 R A)) (.node (some (d91 R A)) .leaf (.node none (.node (some (d347 R A)) .leaf .leaf) .leaf)) (.node none (.node (some (d187 R A)) .leaf .leaf) .leaf))))) (.node none (.node none (.node (some (d17 R A)) (.node none (.node none .leaf (.node none (.node (some (d321 R A)) .leaf .leaf) .leaf)) (.node none (.node none (.node (some (d289 R A)) .leaf .leaf) .leaf) (.node none (.node (some (d353 R A)) .leaf .leaf) .leaf))) (.node none (.node none (.node (some (d145 R A)) .leaf .leaf) .leaf) .leaf)) (.node none (.node (some (d41 R A)) .leaf .leaf) (.node (some (d57 R A)) (.node none (.node (some (d153 R A)) .leaf .leaf) .leaf) (.node (some (d121 R A)) .leaf (.node (some (d249 R A)) .leaf .leaf))))) (.node none (.node (some (d21 R A)) (.node none .leaf (.node none .leaf (.node (some (d229 R A)) (.node (some (d357 R A)) .leaf .leaf) .leaf))) (.node none (.node (some (d85 R A)) (.node (some (d149 R A)) .leaf .leaf) (.node (some (d213 R A)) .leaf .leaf)) (.node (some (d117 R A)) (.node (some (d181 R A)) .leaf .leaf) (.node (some (d245 R A)) .leaf .leaf)))) (.node none (.node (some (d45 R A)) (.node none (.node (some (d141 R A)) .leaf .leaf) (.node (some (d205 R A)) .leaf .leaf)) .leaf) (.node none (.node (some (d93 R A)) .leaf (.node none (.node (some (d349 R A)) .leaf .leaf) .leaf)) (.node none (.node (some (d189 R A)) (.node (some (d317 R A)) .leaf .leaf) .leaf) .leaf)))))) (.node none (.node (some (d4 R A)) (.node none (.node (some (d16 R A)) (.node none (.node none .leaf (.node none (.node (some (d320 R A)) .leaf .leaf) .leaf)) .leaf) (.node none (.node (some (d80 R A)) (.node (some (d144 R A)) (.node (some (d272 R A)) .leaf .leaf) .leaf) (.node none (.node (some (d336 R A)) .leaf .leaf) .leaf)) (.node none (.node (some (d176 R A)) .leaf .leaf) (.node (some (d240 R A)) .leaf .leaf)))) (.node none (.node (some (d40 R A)) (.node none .leaf (.node none (.node (some (d328 R A)) .leaf .leaf) .leaf)) .leaf) (.node none (.node none (.node (some (d152 R A)) (.node (some (d280 R A)) .leaf .leaf) .leaf) .leaf) (.node (some (d120 R A)) (.node (some (d184 R A)) .leaf .leaf) (.node (some (d248 R A)) .leaf .leaf))))) (.node none (.node none .leaf (.node none (.node none (.node (some (d148 R A)) .leaf .leaf) (.node none (.node (some (d340 R A)) .leaf .leaf) .leaf)) (.node none (.node (some (d180 R A)) .leaf .leaf) .leaf))) (.node none (.node (some (d44 R A)) (.node (some (d76 R A)) (.node (some (d140 R A)) .leaf .leaf) (.node none (.node (some (d332 R A)) .leaf .leaf) .leaf)) (.node none (.node (some (d172 R A)) .leaf .leaf) .leaf)) (.node (some (d60 R A)) (.node none (.node (some (d156 R A)) .leaf .leaf) (.node (some (d220 R A)) .leaf .leaf)) (.node none (.node (some (d188 R A)) .leaf .leaf) .leaf))))) (.node none (.node none (.node (some (d18 R A)) (.node none (.node none .leaf (.node none (.node (some (d322 R A)) .leaf .leaf) .leaf)) .leaf) (.node none (.node none (.node (some (d146 R A)) .leaf .leaf) .leaf) .leaf)) (.node none (.node (some (d42 R A)) (.node none .leaf (.node (some (d202 R A)) (.node (some (d330 R A)) .leaf .leaf) .leaf)) .leaf) (.node (some (d58 R A)) (.node (some (d90 R A)) (.node (some (d154 R A)) (.node (some (d282 R A)) .leaf .leaf) .leaf) .leaf) (.node (some (d122 R A)) .leaf .leaf)))) (.node none (.node none (.node none (.node none (.node (some (d134 R A)) .leaf .leaf) .leaf) .leaf) (.node none (.node none (.node (some (d150 R A)) .leaf .leaf) (.node none (.node (some (d342 R A)) .leaf .leaf) .leaf)) (.node (some (d118 R A)) .leaf .leaf))) (.node none (.node (some (d46 R A)) (.node none (.node (some (d142 R A)) .leaf .leaf) (.node none (.node (some (d334 R A)) .leaf .leaf) .leaf)) .leaf) (.node none (.node none (.node (some (d158 R A)) (.node (some (d286 R A)) .leaf .leaf) .leaf) .leaf) (.node none (.node none (.node (some (d318 R A)) .leaf .leaf) .leaf) .leaf)))))))
theorem tabS_eq (R : Type) (A : Alg R) : tabR rowsS R A = tabS R A := by kernel_rfl
end Go.Am.S
