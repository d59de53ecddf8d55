import Derived.Test.YtfcaemjklnelhaaGreatDoorYDrop
set_option linter.all false
namespace Go.Sx.T
open Go Go.Sx Go.Proofs
set_option maxRecDepth 100000
noncomputable def fns : Fns := [(5, Go.Proofs.Tryz.f5), (7, Go.Proofs.Tryz.f7), (8, Go.Proofs.Tryz.f8), (9, Go.Proofs.Tryz.f9), (10, Go.Proofs.Tryz.f10), (12, Go.Proofs.Tryz.f12), (13, Go.Proofs.Tryz.f13), (14, Go.Proofs.Tryz.f14), (15, Go.Proofs.Tryz.f15), (16, Go.Proofs.Tryz.f16), (17, Go.Proofs.Tryz.f17), (18, Go.Proofs.Tryz.f18), (19, Go.Proofs.Tryz.f19), (20, Go.Proofs.Tryz.f20), (21, Go.Proofs.Tryz.f21), (22, Go.Proofs.Tryz.f22), (23, Go.Proofs.Tryz.f23), (24, Go.Proofs.Tryz.f24), (25, Go.Proofs.Tryz.f25), (26, Go.Proofs.Tryz.f26), (27, Go.Proofs.Tryz.f27), (28, Go.Proofs.Tryz.f28), (29, Go.Proofs.Tryz.f29), (30, Go.Proofs.Tryz.f30), (31, Go.Proofs.Tryz.f31), (32, Go.Proofs.Tryz.f32), (33, Go.Proofs.Tryz.f33), (34, Go.Proofs.Tryz.f34), (35, Go.Proofs.Tryz.f35), (36, Go.Proofs.Tryz.f36), (37, Go.Proofs.Tryz.f37), (38, Go.Proofs.Tryz.f38), (39, Go.Proofs.Tryz.f39), (40, Go.Proofs.Tryz.f40), (41, Go.Proofs.Tryz.f41), (42, Go.Proofs.Tryz.f42), (43, Go.Proofs.Tryz.f43), (44, Go.Proofs.Tryz.f44), (45, Go.Proofs.Tryz.f45), (46, Go.Proofs.Tryz.f46), (47, Go.Proofs.Tryz.f47), (48, Go.Proofs.Tryz.f48), (49, Go.Proofs.Tryz.f49), (50, Go.Proofs.Tryz.f50), (51, Go.Proofs.Tryz.f51), (52, Go.Proofs.Tryz.f52), (53, Go.Proofs.Tryz.f53), (55, Go.Proofs.Tryz.f55), (56, Go.Proofs.Tryz.f56), (57, Go.Proofs.Tryz.f57), (58, Go.Proofs.Tryz.f58), (59, Go.Proofs.Tryz.f59), (60, Go.Proofs.Tryz.f60), (61, Go.Proofs.Tryz.f61), (62, Go.Proofs.Tryz.f62), (63, Go.Proofs.Tryz.f63), (64, Go.Proofs.Tryz.f64), (65, Go.Proofs.Tryz.f65), (66, Go.Proofs.Tryz.f66), (67, Go.Proofs.Tryz.f67), (69, Go.Proofs.Tryz.f69), (70, Go.Proofs.Tryz.f70), (71, Go.Proofs.Tryz.f71), (72, Go.Proofs.Tryz.f72), (73, Go.Proofs.Tryz.f73), (74, Go.Proofs.Tryz.f74), (75, Go.Proofs.Tryz.f75), (76, Go.Proofs.Tryz.f76), (77, Go.Proofs.Tryz.f77), (78, Go.Proofs.Tryz.f78), (79, Go.Proofs.Tryz.f79), (80, Go.Proofs.Tryz.f80), (81, Go.Proofs.Tryz.f81), (82, Go.Proofs.Tryz.f82), (83, Go.Proofs.Tryz.f83), (84, Go.Proofs.Tryz.f84), (85, Go.Proofs.Tryz.f85), (86, Go.Proofs.Tryz.f86), (87, Go.Proofs.Tryz.f87), (88, Go.Proofs.Tryz.f88), (89, Go.Proofs.Tryz.f89), (90, Go.Proofs.Tryz.f90), (91, Go.Proofs.Tryz.f91), (92, Go.Proofs.Tryz.f92), (93, Go.Proofs.Tryz.f93), (94, Go.Proofs.Tryz.f94), (95, Go.Proofs.Tryz.f95), (96, Go.Proofs.Tryz.f96), (97, Go.Proofs.Tryz.f97), (98, Go.Proofs.Tryz.f98), (99, Go.Proofs.Tryz.f99), (100, Go.Proofs.Tryz.f100), (101, Go.Proofs.Tryz.f101), (102, Go.Proofs.Tryz.f102), (103, Go.Proofs.Tryz.f103), (104, Go.Proofs.Tryz.f104), (105, Go.Proofs.Tryz.f105), (106, Go.Proofs.Tryz.f106), (107, Go.Proofs.Tryz.f107), (108, Go.Proofs.Tryz.f108), (109, Go.Proofs.Tryz.f109), (110, Go.Proofs.Tryz.f110), (111, Go.Proofs.Tryz.f111), (112, Go.Proofs.Tryz.f112), (113, Go.Proofs.Tryz.f113), (114, Go.Proofs.Tryz.f114), (115, Go.Proofs.Tryz.f115), (116, Go.Proofs.Tryz.f116), (118, Go.Proofs.Tryz.f118), (119, Go.Proofs.Tryz.f119), (120, Go.Proofs.Tryz.f120), (121, Go.Proofs.Tryz.f121), (122, Go.Proofs.Tryz.f122), (123, Go.Proofs.Tryz.f123), (124, Go.Proofs.Tryz.f124), (125, Go.Proofs.Tryz.f125), (126, Go.Proofs.Tryz.f126), (127, Go.Proofs.Tryz.f127), (128, Go.Proofs.Tryz.f128), (129, Go.Proofs.Tryz.f129), (130, Go.Proofs.Tryz.f130), (131, Go.Proofs.Tryz.f131), (132, Go.Proofs.Tryz.f132), (133, Go.Proofs.Tryz.f133), (134, Go.Proofs.Tryz.f134), (135, Go.Proofs.Tryz.f135), (136, Go.Proofs.Tryz.f136), (137, Go.Proofs.Tryz.f137), (138, Go.Proofs.Tryz.f138), (139, Go.Proofs.Tryz.f139), (140, Go.Proofs.Tryz.f140), (141, Go.Proofs.Tryz.f141), (142, Go.Proofs.Tryz.f142), (143, Go.Proofs.Tryz.f143), (144, Go.Proofs.Tryz.f144), (145, Go.Proofs.Tryz.f145), (146, Go.Proofs.Tryz.f146), (147, Go.Proofs.Tryz.f147), (148, Go.Proofs.Tryz.f148), (149, Go.Proofs.Tryz.f149), (150, Go.Proofs.Tryz.f150), (151, Go.Proofs.Tryz.f151), (152, Go.Proofs.Tryz.f152), (153, Go.Proofs.Tryz.f153), (154, Go.Proofs.Tryz.f154), (155, Go.Proofs.Tryz.f155), (156, Go.Proofs.Tryz.f156), (157, Go.Proofs.Tryz.f157), (158, Go.Proofs.Tryz.f158), (159, Go.Proofs.Tryz.f159), (160, Go.Proofs.Tryz.f160), (161, Go.Proofs.Tryz.f161), (162, Go.Proofs.Tryz.f162), (163, Go.Proofs.Tryz.f163), (166, Go.Proofs.Tryz.f166), (167, Go.Proofs.Tryz.f167), (168, Go.Proofs.Tryz.f168), (169, Go.Proofs.Tryz.f169), (170, Go.Proofs.Tryz.f170), (171, Go.Proofs.Tryz.f171), (172, Go.Proofs.Tryz.f172), (173, Go.Proofs.Tryz.f173), (174, Go.Proofs.Tryz.f174), (175, Go.Proofs.Tryz.f175), (176, Go.Proofs.Tryz.f176), (177, Go.Proofs.Tryz.f177), (210, Go.Proofs.Tryz.f210)]
def es : List Nat := [3, 4, 5, 8, 9, 10, 12, 13, 14, 15, 16, 17, 18, 19, 20, 21, 22, 23, 24, 25, 26, 27, 28, 29, 30, 33, 34, 35, 36, 38, 43, 47, 49, 54, 58, 59, 61, 63, 64, 65, 67, 68, 70, 73, 75, 76, 77, 79, 81, 82, 83, 84, 88, 89, 90, 93, 94, 95, 97, 98, 99, 100, 101, 103, 104, 105, 109, 115, 116, 118, 121, 122, 123, 125, 130, 132, 134, 135, 141, 143, 144, 147, 148, 153, 154, 155, 156, 158, 159, 168, 169, 170, 171, 176, 177, 210]
theorem fns_ok : FnsOk Go.Proofs.Tryz.prog fns :=
  .cons Go.Proofs.Tryz.func5 (by kernel_rfl) <|
  .cons Go.Proofs.Tryz.func7 (by kernel_rfl) <|
  .cons Go.Proofs.Tryz.func8 (by kernel_rfl) <|
  .cons Go.Proofs.Tryz.func9 (by kernel_rfl) <|
  .cons Go.Proofs.Tryz.func10 (by kernel_rfl) <|
  .cons Go.Proofs.Tryz.func12 (by kernel_rfl) <|
  .cons Go.Proofs.Tryz.func13 (by kernel_rfl) <|
  .cons Go.Proofs.Tryz.func14 (by kernel_rfl) <|
  .cons Go.Proofs.Tryz.func15 (by kernel_rfl) <|
  .cons Go.Proofs.Tryz.func16 (by kernel_rfl) <|
  .cons Go.Proofs.Tryz.func17 (by kernel_rfl) <|
  .cons Go.Proofs.Tryz.func18 (by kernel_rfl) <|
  .cons Go.Proofs.Tryz.func19 (by kernel_rfl) <|
  .cons Go.Proofs.Tryz.func20 (by kernel_rfl) <|
  .cons Go.Proofs.Tryz.func21 (by kernel_rfl) <|
  .cons Go.Proofs.Tryz.func22 (by kernel_rfl) <|
  .cons Go.Proofs.Tryz.func23 (by kernel_rfl) <|
  .cons Go.Proofs.Tryz.func24 (by kernel_rfl) <|
  .cons Go.Proofs.Tryz.func25 (by kernel_rfl) <|
  .cons Go.Proofs.Tryz.func26 (by kernel_rfl) <|
  .cons Go.Proofs.Tryz.func27 (by kernel_rfl) <|
  .cons Go.Proofs.Tryz.func28 (by kernel_rfl) <|
  .cons Go.Proofs.Tryz.func29 (by kernel_rfl) <|
  .cons Go.Proofs.Tryz.func30 (by kernel_rfl) <|
  .cons Go.Proofs.Tryz.func31 (by kernel_rfl) <|
  .cons Go.Proofs.Tryz.func32 (by kernel_rfl) <|
  .cons Go.Proofs.Tryz.func33 (by kernel_rfl) <|
  .cons Go.Proofs.Tryz.func34 (by kernel_rfl) <|
  .cons Go.Proofs.Tryz.func35 (by kernel_rfl) <|
  .cons Go.Proofs.Tryz.func36 (by kernel_rfl) <|
  .cons Go.Proofs.Tryz.func37 (by kernel_rfl) <|
  .cons Go.Proofs.Tryz.func38 (by kernel_rfl) <|
  .cons Go.Proofs.Tryz.func39 (by kernel_rfl) <|
  .cons Go.Proofs.Tryz.func40 (by kernel_rfl) <|
  .cons Go.Proofs.Tryz.func41 (by kernel_rfl) <|
  .cons Go.Proofs.Tryz.func42 (by kernel_rfl) <|
  .cons Go.Proofs.Tryz.func43 (by kernel_rfl) <|
  .cons Go.Proofs.Tryz.func44 (by kernel_rfl) <|
  .cons Go.Proofs.Tryz.func45 (by kernel_rfl) <|
  .cons Go.Proofs.Tryz.func46 (by kernel_rfl) <|
  .cons Go.Proofs.Tryz.func47 (by kernel_rfl) <|
  .cons Go.Proofs.Tryz.func48 (by kernel_rfl) <|
  .cons Go.Proofs.Tryz.func49 (by kernel_rfl) <|
  .cons Go.Proofs.Tryz.func50 (by kernel_rfl) <|
  .cons Go.Proofs.Tryz.func51 (by kernel_rfl) <|
  .cons Go.Proofs.Tryz.func52 (by kernel_rfl) <|
  .cons Go.Proofs.Tryz.func53 (by kernel_rfl) <|
  .cons Go.Proofs.Tryz.func55 (by kernel_rfl) <|
  .cons Go.Proofs.Tryz.func56 (by kernel_rfl) <|
  .cons Go.Proofs.Tryz.func57 (by kernel_rfl) <|
  .cons Go.Proofs.Tryz.func58 (by kernel_rfl) <|
  .cons Go.Proofs.Tryz.func59 (by kernel_rfl) <|
  .cons Go.Proofs.Tryz.func60 (by kernel_rfl) <|
  .cons Go.Proofs.Tryz.func61 (by kernel_rfl) <|
  .cons Go.Proofs.Tryz.func62 (by kernel_rfl) <|
  .cons Go.Proofs.Tryz.func63 (by kernel_rfl) <|
  .cons Go.Proofs.Tryz.func64 (by kernel_rfl) <|
  .cons Go.Proofs.Tryz.func65 (by kernel_rfl) <|
  .cons Go.Proofs.Tryz.func66 (by kernel_rfl) <|
  .cons Go.Proofs.Tryz.func67 (by kernel_rfl) <|
  .cons Go.Proofs.Tryz.func69 (by kernel_rfl) <|
  .cons Go.Proofs.Tryz.func70 (by kernel_rfl) <|
  .cons Go.Proofs.Tryz.func71 (by kernel_rfl) <|
  .cons Go.Proofs.Tryz.func72 (by kernel_rfl) <|
  .cons Go.Proofs.Tryz.func73 (by kernel_rfl) <|
  .cons Go.Proofs.Tryz.func74 (by kernel_rfl) <|
  .cons Go.Proofs.Tryz.func75 (by kernel_rfl) <|
  .cons Go.Proofs.Tryz.func76 (by kernel_rfl) <|
  .cons Go.Proofs.Tryz.func77 (by kernel_rfl) <|
  .cons Go.Proofs.Tryz.func78 (by kernel_rfl) <|
  .cons Go.Proofs.Tryz.func79 (by kernel_rfl) <|
  .cons Go.Proofs.Tryz.func80 (by kernel_rfl) <|
  .cons Go.Proofs.Tryz.func81 (by kernel_rfl) <|
  .cons Go.Proofs.Tryz.func82 (by kernel_rfl) <|
  .cons Go.Proofs.Tryz.func83 (by kernel_rfl) <|
  .cons Go.Proofs.Tryz.func84 (by kernel_rfl) <|
  .cons Go.Proofs.Tryz.func85 (by kernel_rfl) <|
  .cons Go.Proofs.Tryz.func86 (by kernel_rfl) <|
  .cons Go.Proofs.Tryz.func87 (by kernel_rfl) <|
  .cons Go.Proofs.Tryz.func88 (by kernel_rfl) <|
  .cons Go.Proofs.Tryz.func89 (by kernel_rfl) <|
  .cons Go.Proofs.Tryz.func90 (by kernel_rfl) <|
  .cons Go.Proofs.Tryz.func91 (by kernel_rfl) <|
  .cons Go.Proofs.Tryz.func92 (by kernel_rfl) <|
  .cons Go.Proofs.Tryz.func93 (by kernel_rfl) <|
  .cons Go.Proofs.Tryz.func94 (by kernel_rfl) <|
  .cons Go.Proofs.Tryz.func95 (by kernel_rfl) <|
  .cons Go.Proofs.Tryz.func96 (by kernel_rfl) <|
  .cons Go.Proofs.Tryz.func97 (by kernel_rfl) <|
  .cons Go.Proofs.Tryz.func98 (by kernel_rfl) <|
  .cons Go.Proofs.Tryz.func99 (by kernel_rfl) <|
  .cons Go.Proofs.Tryz.func100 (by kernel_rfl) <|
  .cons Go.Proofs.Tryz.func101 (by kernel_rfl) <|
  .cons Go.Proofs.Tryz.func102 (by kernel_rfl) <|
  .cons Go.Proofs.Tryz.func103 (by kernel_rfl) <|
  .cons Go.Proofs.Tryz.func104 (by kernel_rfl) <|
  .cons Go.Proofs.Tryz.func105 (by kernel_rfl) <|
  .cons Go.Proofs.Tryz.func106 (by kernel_rfl) <|
  .cons Go.Proofs.Tryz.func107 (by kernel_rfl) <|
  .cons Go.Proofs.Tryz.func108 (by kernel_rfl) <|
  .cons Go.Proofs.Tryz.func109 (by kernel_rfl) <|
  .cons Go.Proofs.Tryz.func110 (by kernel_rfl) <|
  .cons Go.Proofs.Tryz.func111 (by kernel_rfl) <|
  .cons Go.Proofs.Tryz.func112 (by kernel_rfl) <|
  .cons Go.Proofs.Tryz.func113 (by kernel_rfl) <|
  .cons Go.Proofs.Tryz.func114 (by kernel_rfl) <|
  .cons Go.Proofs.Tryz.func115 (by kernel_rfl) <|
  .cons Go.Proofs.Tryz.func116 (by kernel_rfl) <|
  .cons Go.Proofs.Tryz.func118 (by kernel_rfl) <|
  .cons Go.Proofs.Tryz.func119 (by kernel_rfl) <|
  .cons Go.Proofs.Tryz.func120 (by kernel_rfl) <|
  .cons Go.Proofs.Tryz.func121 (by kernel_rfl) <|
  .cons Go.Proofs.Tryz.func122 (by kernel_rfl) <|
  .cons Go.Proofs.Tryz.func123 (by kernel_rfl) <|
  .cons Go.Proofs.Tryz.func124 (by kernel_rfl) <|
  .cons Go.Proofs.Tryz.func125 (by kernel_rfl) <|
  .cons Go.Proofs.Tryz.func126 (by kernel_rfl) <|
  .cons Go.Proofs.Tryz.func127 (by kernel_rfl) <|
  .cons Go.Proofs.Tryz.func128 (by kernel_rfl) <|
  .cons Go.Proofs.Tryz.func129 (by kernel_rfl) <|
  .cons Go.Proofs.Tryz.func130 (by kernel_rfl) <|
  .cons Go.Proofs.Tryz.func131 (by kernel_rfl) <|
  .cons Go.Proofs.Tryz.func132 (by kernel_rfl) <|
  .cons Go.Proofs.Tryz.func133 (by kernel_rfl) <|
  .cons Go.Proofs.Tryz.func134 (by kernel_rfl) <|
  .cons Go.Proofs.Tryz.func135 (by kernel_rfl) <|
  .cons Go.Proofs.Tryz.func136 (by kernel_rfl) <|
  .cons Go.Proofs.Tryz.func137 (by kernel_rfl) <|
  .cons Go.Proofs.Tryz.func138 (by kernel_rfl) <|
  .cons Go.Proofs.Tryz.func139 (by kernel_rfl) <|
  .cons Go.Proofs.Tryz.func140 (by kernel_rfl) <|
  .cons Go.Proofs.Tryz.func141 (by kernel_rfl) <|
  .cons Go.Proofs.Tryz.func142 (by kernel_rfl) <|
  .cons Go.Proofs.Tryz.func143 (by kernel_rfl) <|
  .cons Go.Proofs.Tryz.func144 (by kernel_rfl) <|
  .cons Go.Proofs.Tryz.func145 (by kernel_rfl) <|
  .cons Go.Proofs.Tryz.func146 (by kernel_rfl) <|
  .cons Go.Proofs.Tryz.func147 (by kernel_rfl) <|
  .cons Go.Proofs.Tryz.func148 (by kernel_rfl) <|
  .cons Go.Proofs.Tryz.func149 (by kernel_rfl) <|
  .cons Go.Proofs.Tryz.func150 (by kernel_rfl) <|
  .cons Go.Proofs.Tryz.func151 (by kernel_rfl) <|
  .cons Go.Proofs.Tryz.func152 (by kernel_rfl) <|
  .cons Go.Proofs.Tryz.func153 (by kernel_rfl) <|
  .cons Go.Proofs.Tryz.func154 (by kernel_rfl) <|
  .cons Go.Proofs.Tryz.func155 (by kernel_rfl) <|
  .cons Go.Proofs.Tryz.func156 (by kernel_rfl) <|
  .cons Go.Proofs.Tryz.func157 (by kernel_rfl) <|
  .cons Go.Proofs.Tryz.func158 (by kernel_rfl) <|
  .cons Go.Proofs.Tryz.func159 (by kernel_rfl) <|
  .cons Go.Proofs.Tryz.func160 (by kernel_rfl) <|
  .cons Go.Proofs.Tryz.func161 (by kernel_rfl) <|
  .cons Go.Proofs.Tryz.func162 (by kernel_rfl) <|
  .cons Go.Proofs.Tryz.func163 (by kernel_rfl) <|
  .cons Go.Proofs.Tryz.func166 (by kernel_rfl) <|
  .cons Go.Proofs.Tryz.func167 (by kernel_rfl) <|
  .cons Go.Proofs.Tryz.func168 (by kernel_rfl) <|
  .cons Go.Proofs.Tryz.func169 (by kernel_rfl) <|
  .cons Go.Proofs.Tryz.func170 (by kernel_rfl) <|
  .cons Go.Proofs.Tryz.func171 (by kernel_rfl) <|
  .cons Go.Proofs.Tryz.func172 (by kernel_rfl) <|
  .cons Go.Proofs.Tryz.func173 (by kernel_rfl) <|
  .cons Go.Proofs.Tryz.func174 (by kernel_rfl) <|
  .cons Go.Proofs.Tryz.func175 (by kernel_rfl) <|
  .cons Go.Proofs.Tryz.func176 (by kernel_rfl) <|
  .cons Go.Proofs.Tryz.func177 (by kernel_rfl) <|
  .cons Go.Proofs.Tryz.func210 (by kernel_rfl) <|
  .nil
noncomputable def ΓA : Env := ((Env.none.addX 117).addEq 130 [.u8, .u8, .u8]).addE 54 2 drop_in drop_out drop_SC
theorem eq130 : EqOk Go.Proofs.Tryz.prog 130 [.u8, .u8, .u8] := eqOk_arr3 (e := 5) Go.Proofs.Tryz.underlying130 Go.Proofs.Tryz.underlying5 (ti := ⟨.int .u8, 1, 1, [.int .u8 0]⟩) (tab_ok 5 _ (by kernel_rfl)) rfl rfl (by kernel_rfl)
theorem gA : EnvOk Go.Proofs.Tryz.prog ΓA := EnvOk.addE (EnvOk.addEq (EnvOk.addX EnvOk.none Go.Proofs.Tryz.func117 (by kernel_rfl) (by kernel_rfl) (by kernel_rfl) (by kernel_rfl)) eq130) got_drop_c drop_says
noncomputable def ΓB : Env := inl fns es tab ΓA 40
theorem law1_run : (callI ΓB false tab Go.Proofs.Tryz.f68 [] []).map (·.1) = some (.at (.raw (.bool true))) := by kernel_rfl
theorem gB : EnvOk Go.Proofs.Tryz.prog ΓB := EnvOk.inl mixed tab_ok gA fns_ok es 40
theorem law1_gives : Gives Go.Proofs.Tryz.prog 68 (.at (.raw (.bool true))) := by
  obtain ⟨⟨v, H'⟩, h1, h2⟩ := Option.map_eq_some_iff.1 law1_run
  cases h2
  exact gives_of mixed tab_ok gB Go.Proofs.Tryz.func68 h1 rfl
noncomputable def ΓC : Env := ΓA.addK 68 (.at (.raw (.bool true)))
theorem gC : EnvOk Go.Proofs.Tryz.prog ΓC := EnvOk.addK gA ⟨_, Go.Proofs.Tryz.func68, by kernel_rfl, by kernel_rfl⟩ rfl law1_gives
end Go.Sx.T

