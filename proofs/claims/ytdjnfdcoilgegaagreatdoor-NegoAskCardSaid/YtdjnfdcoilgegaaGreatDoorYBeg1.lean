import Derived.Test.YtdjnfdcoilgegaaGreatDoorYDrop
set_option linter.all false
namespace Go.Sx.T
open Go Go.Sx Go.Proofs
set_option maxRecDepth 100000
noncomputable def fns : Fns := [(10, Go.Proofs.Tryz.f10), (11, Go.Proofs.Tryz.f11), (12, Go.Proofs.Tryz.f12), (13, Go.Proofs.Tryz.f13), (14, Go.Proofs.Tryz.f14), (15, Go.Proofs.Tryz.f15), (16, Go.Proofs.Tryz.f16), (17, Go.Proofs.Tryz.f17), (18, Go.Proofs.Tryz.f18), (19, Go.Proofs.Tryz.f19), (20, Go.Proofs.Tryz.f20), (21, Go.Proofs.Tryz.f21), (23, Go.Proofs.Tryz.f23), (24, Go.Proofs.Tryz.f24), (25, Go.Proofs.Tryz.f25), (26, Go.Proofs.Tryz.f26), (27, Go.Proofs.Tryz.f27), (28, Go.Proofs.Tryz.f28), (29, Go.Proofs.Tryz.f29), (30, Go.Proofs.Tryz.f30), (31, Go.Proofs.Tryz.f31), (32, Go.Proofs.Tryz.f32), (33, Go.Proofs.Tryz.f33), (34, Go.Proofs.Tryz.f34), (35, Go.Proofs.Tryz.f35), (36, Go.Proofs.Tryz.f36), (37, Go.Proofs.Tryz.f37), (38, Go.Proofs.Tryz.f38), (39, Go.Proofs.Tryz.f39), (40, Go.Proofs.Tryz.f40), (41, Go.Proofs.Tryz.f41), (42, Go.Proofs.Tryz.f42), (43, Go.Proofs.Tryz.f43), (44, Go.Proofs.Tryz.f44), (45, Go.Proofs.Tryz.f45), (46, Go.Proofs.Tryz.f46), (47, Go.Proofs.Tryz.f47), (48, Go.Proofs.Tryz.f48), (49, Go.Proofs.Tryz.f49), (50, Go.Proofs.Tryz.f50), (51, Go.Proofs.Tryz.f51), (52, Go.Proofs.Tryz.f52), (53, Go.Proofs.Tryz.f53), (54, Go.Proofs.Tryz.f54), (55, Go.Proofs.Tryz.f55), (56, Go.Proofs.Tryz.f56), (57, Go.Proofs.Tryz.f57), (58, Go.Proofs.Tryz.f58), (59, Go.Proofs.Tryz.f59), (60, Go.Proofs.Tryz.f60), (61, Go.Proofs.Tryz.f61), (63, Go.Proofs.Tryz.f63), (64, Go.Proofs.Tryz.f64), (65, Go.Proofs.Tryz.f65), (66, Go.Proofs.Tryz.f66), (67, Go.Proofs.Tryz.f67), (68, Go.Proofs.Tryz.f68), (69, Go.Proofs.Tryz.f69), (70, Go.Proofs.Tryz.f70), (71, Go.Proofs.Tryz.f71), (72, Go.Proofs.Tryz.f72), (73, Go.Proofs.Tryz.f73), (74, Go.Proofs.Tryz.f74), (75, Go.Proofs.Tryz.f75), (76, Go.Proofs.Tryz.f76), (77, Go.Proofs.Tryz.f77), (78, Go.Proofs.Tryz.f78), (79, Go.Proofs.Tryz.f79), (80, Go.Proofs.Tryz.f80), (81, Go.Proofs.Tryz.f81), (82, Go.Proofs.Tryz.f82), (83, Go.Proofs.Tryz.f83), (84, Go.Proofs.Tryz.f84), (85, Go.Proofs.Tryz.f85), (86, Go.Proofs.Tryz.f86), (87, Go.Proofs.Tryz.f87), (88, Go.Proofs.Tryz.f88), (89, Go.Proofs.Tryz.f89), (90, Go.Proofs.Tryz.f90), (91, Go.Proofs.Tryz.f91), (92, Go.Proofs.Tryz.f92), (93, Go.Proofs.Tryz.f93), (94, Go.Proofs.Tryz.f94), (95, Go.Proofs.Tryz.f95), (96, Go.Proofs.Tryz.f96), (97, Go.Proofs.Tryz.f97), (98, Go.Proofs.Tryz.f98), (99, Go.Proofs.Tryz.f99), (100, Go.Proofs.Tryz.f100), (101, Go.Proofs.Tryz.f101), (102, Go.Proofs.Tryz.f102), (105, Go.Proofs.Tryz.f105), (106, Go.Proofs.Tryz.f106), (107, Go.Proofs.Tryz.f107), (109, Go.Proofs.Tryz.f109), (110, Go.Proofs.Tryz.f110), (111, Go.Proofs.Tryz.f111), (112, Go.Proofs.Tryz.f112), (113, Go.Proofs.Tryz.f113), (114, Go.Proofs.Tryz.f114), (115, Go.Proofs.Tryz.f115), (116, Go.Proofs.Tryz.f116), (117, Go.Proofs.Tryz.f117), (118, Go.Proofs.Tryz.f118), (119, Go.Proofs.Tryz.f119), (120, Go.Proofs.Tryz.f120), (121, Go.Proofs.Tryz.f121), (122, Go.Proofs.Tryz.f122), (123, Go.Proofs.Tryz.f123), (125, Go.Proofs.Tryz.f125), (126, Go.Proofs.Tryz.f126), (127, Go.Proofs.Tryz.f127), (128, Go.Proofs.Tryz.f128), (129, Go.Proofs.Tryz.f129), (130, Go.Proofs.Tryz.f130), (131, Go.Proofs.Tryz.f131), (132, Go.Proofs.Tryz.f132), (133, Go.Proofs.Tryz.f133), (134, Go.Proofs.Tryz.f134), (135, Go.Proofs.Tryz.f135), (136, Go.Proofs.Tryz.f136), (137, Go.Proofs.Tryz.f137), (138, Go.Proofs.Tryz.f138), (139, Go.Proofs.Tryz.f139), (140, Go.Proofs.Tryz.f140), (141, Go.Proofs.Tryz.f141), (142, Go.Proofs.Tryz.f142), (143, Go.Proofs.Tryz.f143), (144, Go.Proofs.Tryz.f144), (145, Go.Proofs.Tryz.f145), (146, Go.Proofs.Tryz.f146), (147, Go.Proofs.Tryz.f147), (148, Go.Proofs.Tryz.f148), (149, Go.Proofs.Tryz.f149), (150, Go.Proofs.Tryz.f150), (151, Go.Proofs.Tryz.f151), (152, Go.Proofs.Tryz.f152), (153, Go.Proofs.Tryz.f153), (154, Go.Proofs.Tryz.f154), (155, Go.Proofs.Tryz.f155), (156, Go.Proofs.Tryz.f156), (157, Go.Proofs.Tryz.f157), (158, Go.Proofs.Tryz.f158), (159, Go.Proofs.Tryz.f159), (160, Go.Proofs.Tryz.f160), (161, Go.Proofs.Tryz.f161), (162, Go.Proofs.Tryz.f162), (163, Go.Proofs.Tryz.f163), (164, Go.Proofs.Tryz.f164), (165, Go.Proofs.Tryz.f165), (166, Go.Proofs.Tryz.f166), (167, Go.Proofs.Tryz.f167), (168, Go.Proofs.Tryz.f168), (169, Go.Proofs.Tryz.f169), (170, Go.Proofs.Tryz.f170), (171, Go.Proofs.Tryz.f171), (172, Go.Proofs.Tryz.f172), (173, Go.Proofs.Tryz.f173), (174, Go.Proofs.Tryz.f174), (175, Go.Proofs.Tryz.f175), (176, Go.Proofs.Tryz.f176), (177, Go.Proofs.Tryz.f177), (178, Go.Proofs.Tryz.f178), (179, Go.Proofs.Tryz.f179), (180, Go.Proofs.Tryz.f180), (181, Go.Proofs.Tryz.f181), (182, Go.Proofs.Tryz.f182), (183, Go.Proofs.Tryz.f183), (184, Go.Proofs.Tryz.f184), (185, Go.Proofs.Tryz.f185), (186, Go.Proofs.Tryz.f186), (187, Go.Proofs.Tryz.f187), (188, Go.Proofs.Tryz.f188), (189, Go.Proofs.Tryz.f189), (190, Go.Proofs.Tryz.f190), (191, Go.Proofs.Tryz.f191), (192, Go.Proofs.Tryz.f192), (193, Go.Proofs.Tryz.f193), (194, Go.Proofs.Tryz.f194), (195, Go.Proofs.Tryz.f195), (196, Go.Proofs.Tryz.f196), (197, Go.Proofs.Tryz.f197), (198, Go.Proofs.Tryz.f198), (199, Go.Proofs.Tryz.f199), (200, Go.Proofs.Tryz.f200), (201, Go.Proofs.Tryz.f201), (202, Go.Proofs.Tryz.f202), (203, Go.Proofs.Tryz.f203), (204, Go.Proofs.Tryz.f204), (205, Go.Proofs.Tryz.f205), (206, Go.Proofs.Tryz.f206), (207, Go.Proofs.Tryz.f207), (208, Go.Proofs.Tryz.f208), (209, Go.Proofs.Tryz.f209), (210, Go.Proofs.Tryz.f210), (211, Go.Proofs.Tryz.f211), (212, Go.Proofs.Tryz.f212), (214, Go.Proofs.Tryz.f214), (215, Go.Proofs.Tryz.f215), (216, Go.Proofs.Tryz.f216), (217, Go.Proofs.Tryz.f217), (218, Go.Proofs.Tryz.f218), (219, Go.Proofs.Tryz.f219), (220, Go.Proofs.Tryz.f220), (221, Go.Proofs.Tryz.f221), (222, Go.Proofs.Tryz.f222), (223, Go.Proofs.Tryz.f223), (224, Go.Proofs.Tryz.f224), (225, Go.Proofs.Tryz.f225), (241, Go.Proofs.Tryz.f241), (242, Go.Proofs.Tryz.f242), (243, Go.Proofs.Tryz.f243), (244, Go.Proofs.Tryz.f244), (245, Go.Proofs.Tryz.f245), (248, Go.Proofs.Tryz.f248), (249, Go.Proofs.Tryz.f249), (253, Go.Proofs.Tryz.f253), (254, Go.Proofs.Tryz.f254), (255, Go.Proofs.Tryz.f255), (259, Go.Proofs.Tryz.f259), (260, Go.Proofs.Tryz.f260), (261, Go.Proofs.Tryz.f261), (276, Go.Proofs.Tryz.f276)]
def es : List Nat := [3, 4, 5, 6, 7, 8, 9, 10, 16, 17, 18, 19, 21, 27, 28, 30, 31, 32, 33, 36, 38, 39, 40, 41, 42, 43, 46, 47, 48, 56, 62, 63, 65, 66, 67, 70, 71, 72, 78, 79, 80, 81, 82, 83, 84, 85, 86, 89, 90, 91, 92, 94, 98, 108, 110, 111, 112, 114, 115, 117, 118, 119, 120, 122, 124, 126, 130, 131, 132, 133, 134, 136, 137, 138, 139, 143, 144, 146, 147, 148, 150, 151, 152, 153, 154, 156, 157, 158, 162, 166, 167, 169, 172, 173, 174, 176, 181, 183, 185, 186, 191, 193, 194, 197, 198, 202, 203, 204, 205, 207, 208, 216, 217, 218, 219, 224, 225, 241, 242, 243, 245, 249, 253, 255, 259, 260, 261, 276]
theorem fns_ok : FnsOk Go.Proofs.Tryz.prog fns :=
  .cons Go.Proofs.Tryz.func10 (by kernel_rfl) <|
  .cons Go.Proofs.Tryz.func11 (by kernel_rfl) <|
  .cons Go.Proofs.Tryz.func12 (by kernel_rfl) <|
  .cons Go.Proofs.Tryz.func13 (by kernel_rfl) <|
  .cons Go.Proofs.Tryz.func14 (by kernel_rfl) <|
  .cons Go.Proofs.Tryz.func15 (by kernel_rfl) <|
  .cons Go.Proofs.Tryz.func16 (by kernel_rfl) <|
  .cons Go.Proofs.Tryz.func17 (by kernel_rfl) <|
  .cons Go.Proofs.Tryz.func18 (by kernel_rfl) <|
  .cons Go.Proofs.Tryz.func19 (by kernel_rfl) <|
  .cons Go.Proofs.Tryz.func20 (by kernel_rfl) <|
  .cons Go.Proofs.Tryz.func21 (by kernel_rfl) <|
  .cons Go.Proofs.Tryz.func23 (by kernel_rfl) <|
  .cons Go.Proofs.Tryz.func24 (by kernel_rfl) <|
  .cons Go.Proofs.Tryz.func25 (by kernel_rfl) <|
  .cons Go.Proofs.Tryz.func26 (by kernel_rfl) <|
  .cons Go.Proofs.Tryz.func27 (by kernel_rfl) <|
  .cons Go.Proofs.Tryz.func28 (by kernel_rfl) <|
  .cons Go.Proofs.Tryz.func29 (by kernel_rfl) <|
  .cons Go.Proofs.Tryz.func30 (by kernel_rfl) <|
  .cons Go.Proofs.Tryz.func31 (by kernel_rfl) <|
  .cons Go.Proofs.Tryz.func32 (by kernel_rfl) <|
  .cons Go.Proofs.Tryz.func33 (by kernel_rfl) <|
  .cons Go.Proofs.Tryz.func34 (by kernel_rfl) <|
  .cons Go.Proofs.Tryz.func35 (by kernel_rfl) <|
  .cons Go.Proofs.Tryz.func36 (by kernel_rfl) <|
  .cons Go.Proofs.Tryz.func37 (by kernel_rfl) <|
  .cons Go.Proofs.Tryz.func38 (by kernel_rfl) <|
  .cons Go.Proofs.Tryz.func39 (by kernel_rfl) <|
  .cons Go.Proofs.Tryz.func40 (by kernel_rfl) <|
  .cons Go.Proofs.Tryz.func41 (by kernel_rfl) <|
  .cons Go.Proofs.Tryz.func42 (by kernel_rfl) <|
  .cons Go.Proofs.Tryz.func43 (by kernel_rfl) <|
  .cons Go.Proofs.Tryz.func44 (by kernel_rfl) <|
  .cons Go.Proofs.Tryz.func45 (by kernel_rfl) <|
  .cons Go.Proofs.Tryz.func46 (by kernel_rfl) <|
  .cons Go.Proofs.Tryz.func47 (by kernel_rfl) <|
  .cons Go.Proofs.Tryz.func48 (by kernel_rfl) <|
  .cons Go.Proofs.Tryz.func49 (by kernel_rfl) <|
  .cons Go.Proofs.Tryz.func50 (by kernel_rfl) <|
  .cons Go.Proofs.Tryz.func51 (by kernel_rfl) <|
  .cons Go.Proofs.Tryz.func52 (by kernel_rfl) <|
  .cons Go.Proofs.Tryz.func53 (by kernel_rfl) <|
  .cons Go.Proofs.Tryz.func54 (by kernel_rfl) <|
  .cons Go.Proofs.Tryz.func55 (by kernel_rfl) <|
  .cons Go.Proofs.Tryz.func56 (by kernel_rfl) <|
  .cons Go.Proofs.Tryz.func57 (by kernel_rfl) <|
  .cons Go.Proofs.Tryz.func58 (by kernel_rfl) <|
  .cons Go.Proofs.Tryz.func59 (by kernel_rfl) <|
  .cons Go.Proofs.Tryz.func60 (by kernel_rfl) <|
  .cons Go.Proofs.Tryz.func61 (by kernel_rfl) <|
  .cons Go.Proofs.Tryz.func63 (by kernel_rfl) <|
  .cons Go.Proofs.Tryz.func64 (by kernel_rfl) <|
  .cons Go.Proofs.Tryz.func65 (by kernel_rfl) <|
  .cons Go.Proofs.Tryz.func66 (by kernel_rfl) <|
  .cons Go.Proofs.Tryz.func67 (by kernel_rfl) <|
  .cons Go.Proofs.Tryz.func68 (by kernel_rfl) <|
  .cons Go.Proofs.Tryz.func69 (by kernel_rfl) <|
  .cons Go.Proofs.Tryz.func70 (by kernel_rfl) <|
  .cons Go.Proofs.Tryz.func71 (by kernel_rfl) <|
  .cons Go.Proofs.Tryz.func72 (by kernel_rfl) <|
  .cons Go.Proofs.Tryz.func73 (by kernel_rfl) <|
  .cons Go.Proofs.Tryz.func74 (by kernel_rfl) <|
  .cons Go.Proofs.Tryz.func75 (by kernel_rfl) <|
  .cons Go.Proofs.Tryz.func76 (by kernel_rfl) <|
  .cons Go.Proofs.Tryz.func77 (by kernel_rfl) <|
  .cons Go.Proofs.Tryz.func78 (by kernel_rfl) <|
  .cons Go.Proofs.Tryz.func79 (by kernel_rfl) <|
  .cons Go.Proofs.Tryz.func80 (by kernel_rfl) <|
  .cons Go.Proofs.Tryz.func81 (by kernel_rfl) <|
  .cons Go.Proofs.Tryz.func82 (by kernel_rfl) <|
  .cons Go.Proofs.Tryz.func83 (by kernel_rfl) <|
  .cons Go.Proofs.Tryz.func84 (by kernel_rfl) <|
  .cons Go.Proofs.Tryz.func85 (by kernel_rfl) <|
  .cons Go.Proofs.Tryz.func86 (by kernel_rfl) <|
  .cons Go.Proofs.Tryz.func87 (by kernel_rfl) <|
  .cons Go.Proofs.Tryz.func88 (by kernel_rfl) <|
  .cons Go.Proofs.Tryz.func89 (by kernel_rfl) <|
  .cons Go.Proofs.Tryz.func90 (by kernel_rfl) <|
  .cons Go.Proofs.Tryz.func91 (by kernel_rfl) <|
  .cons Go.Proofs.Tryz.func92 (by kernel_rfl) <|
  .cons Go.Proofs.Tryz.func93 (by kernel_rfl) <|
  .cons Go.Proofs.Tryz.func94 (by kernel_rfl) <|
  .cons Go.Proofs.Tryz.func95 (by kernel_rfl) <|
  .cons Go.Proofs.Tryz.func96 (by kernel_rfl) <|
  .cons Go.Proofs.Tryz.func97 (by kernel_rfl) <|
  .cons Go.Proofs.Tryz.func98 (by kernel_rfl) <|
  .cons Go.Proofs.Tryz.func99 (by kernel_rfl) <|
  .cons Go.Proofs.Tryz.func100 (by kernel_rfl) <|
  .cons Go.Proofs.Tryz.func101 (by kernel_rfl) <|
  .cons Go.Proofs.Tryz.func102 (by kernel_rfl) <|
  .cons Go.Proofs.Tryz.func105 (by kernel_rfl) <|
  .cons Go.Proofs.Tryz.func106 (by kernel_rfl) <|
  .cons Go.Proofs.Tryz.func107 (by kernel_rfl) <|
  .cons Go.Proofs.Tryz.func109 (by kernel_rfl) <|
  .cons Go.Proofs.Tryz.func110 (by kernel_rfl) <|
  .cons Go.Proofs.Tryz.func111 (by kernel_rfl) <|
  .cons Go.Proofs.Tryz.func112 (by kernel_rfl) <|
  .cons Go.Proofs.Tryz.func113 (by kernel_rfl) <|
  .cons Go.Proofs.Tryz.func114 (by kernel_rfl) <|
  .cons Go.Proofs.Tryz.func115 (by kernel_rfl) <|
  .cons Go.Proofs.Tryz.func116 (by kernel_rfl) <|
  .cons Go.Proofs.Tryz.func117 (by kernel_rfl) <|
  .cons Go.Proofs.Tryz.func118 (by kernel_rfl) <|
  .cons Go.Proofs.Tryz.func119 (by kernel_rfl) <|
  .cons Go.Proofs.Tryz.func120 (by kernel_rfl) <|
  .cons Go.Proofs.Tryz.func121 (by kernel_rfl) <|
  .cons Go.Proofs.Tryz.func122 (by kernel_rfl) <|
  .cons Go.Proofs.Tryz.func123 (by kernel_rfl) <|
  .cons Go.Proofs.Tryz.func125 (by kernel_rfl) <|
  .cons Go.Proofs.Tryz.func126 (by kernel_rfl) <|
  .cons Go.Proofs.Tryz.func127 (by kernel_rfl) <|
  .cons Go.Proofs.Tryz.func128 (by kernel_rfl) <|
  .cons Go.Proofs.Tryz.func129 (by kernel_rfl) <|
  .cons Go.Proofs.Tryz.func130 (by kernel_rfl) <|
  .cons Go.Proofs.Tryz.func131 (by kernel_rfl) <|
  .cons Go.Proofs.Tryz.func132 (by kernel_rfl) <|
  .cons Go.Proofs.Tryz.func133 (by kernel_rfl) <|
  .cons Go.Proofs.Tryz.func134 (by kernel_rfl) <|
  .cons Go.Proofs.Tryz.func135 (by kernel_rfl) <|
  .cons Go.Proofs.Tryz.func136 (by kernel_rfl) <|
  .cons Go.Proofs.Tryz.func137 (by kernel_rfl) <|
  .cons Go.Proofs.Tryz.func138 (by kernel_rfl) <|
  .cons Go.Proofs.Tryz.func139 (by kernel_rfl) <|
  .cons Go.Proofs.Tryz.func140 (by kernel_rfl) <|
  .cons Go.Proofs.Tryz.func141 (by kernel_rfl) <|
  .cons Go.Proofs.Tryz.func142 (by kernel_rfl) <|
  .cons Go.Proofs.Tryz.func143 (by kernel_rfl) <|
  .cons Go.Proofs.Tryz.func144 (by kernel_rfl) <|
  .cons Go.Proofs.Tryz.func145 (by kernel_rfl) <|
  .cons Go.Proofs.Tryz.func146 (by kernel_rfl) <|
  .cons Go.Proofs.Tryz.func147 (by kernel_rfl) <|
  .cons Go.Proofs.Tryz.func148 (by kernel_rfl) <|
  .cons Go.Proofs.Tryz.func149 (by kernel_rfl) <|
  .cons Go.Proofs.Tryz.func150 (by kernel_rfl) <|
  .cons Go.Proofs.Tryz.func151 (by kernel_rfl) <|
  .cons Go.Proofs.Tryz.func152 (by kernel_rfl) <|
  .cons Go.Proofs.Tryz.func153 (by kernel_rfl) <|
  .cons Go.Proofs.Tryz.func154 (by kernel_rfl) <|
  .cons Go.Proofs.Tryz.func155 (by kernel_rfl) <|
  .cons Go.Proofs.Tryz.func156 (by kernel_rfl) <|
  .cons Go.Proofs.Tryz.func157 (by kernel_rfl) <|
  .cons Go.Proofs.Tryz.func158 (by kernel_rfl) <|
  .cons Go.Proofs.Tryz.func159 (by kernel_rfl) <|
  .cons Go.Proofs.Tryz.func160 (by kernel_rfl) <|
  .cons Go.Proofs.Tryz.func161 (by kernel_rfl) <|
  .cons Go.Proofs.Tryz.func162 (by kernel_rfl) <|
  .cons Go.Proofs.Tryz.func163 (by kernel_rfl) <|
  .cons Go.Proofs.Tryz.func164 (by kernel_rfl) <|
  .cons Go.Proofs.Tryz.func165 (by kernel_rfl) <|
  .cons Go.Proofs.Tryz.func166 (by kernel_rfl) <|
  .cons Go.Proofs.Tryz.func167 (by kernel_rfl) <|
  .cons Go.Proofs.Tryz.func168 (by kernel_rfl) <|
  .cons Go.Proofs.Tryz.func169 (by kernel_rfl) <|
  .cons Go.Proofs.Tryz.func170 (by kernel_rfl) <|
  .cons Go.Proofs.Tryz.func171 (by kernel_rfl) <|
  .cons Go.Proofs.Tryz.func172 (by kernel_rfl) <|
  .cons Go.Proofs.Tryz.func173 (by kernel_rfl) <|
  .cons Go.Proofs.Tryz.func174 (by kernel_rfl) <|
  .cons Go.Proofs.Tryz.func175 (by kernel_rfl) <|
  .cons Go.Proofs.Tryz.func176 (by kernel_rfl) <|
  .cons Go.Proofs.Tryz.func177 (by kernel_rfl) <|
  .cons Go.Proofs.Tryz.func178 (by kernel_rfl) <|
  .cons Go.Proofs.Tryz.func179 (by kernel_rfl) <|
  .cons Go.Proofs.Tryz.func180 (by kernel_rfl) <|
  .cons Go.Proofs.Tryz.func181 (by kernel_rfl) <|
  .cons Go.Proofs.Tryz.func182 (by kernel_rfl) <|
  .cons Go.Proofs.Tryz.func183 (by kernel_rfl) <|
  .cons Go.Proofs.Tryz.func184 (by kernel_rfl) <|
  .cons Go.Proofs.Tryz.func185 (by kernel_rfl) <|
  .cons Go.Proofs.Tryz.func186 (by kernel_rfl) <|
  .cons Go.Proofs.Tryz.func187 (by kernel_rfl) <|
  .cons Go.Proofs.Tryz.func188 (by kernel_rfl) <|
  .cons Go.Proofs.Tryz.func189 (by kernel_rfl) <|
  .cons Go.Proofs.Tryz.func190 (by kernel_rfl) <|
  .cons Go.Proofs.Tryz.func191 (by kernel_rfl) <|
  .cons Go.Proofs.Tryz.func192 (by kernel_rfl) <|
  .cons Go.Proofs.Tryz.func193 (by kernel_rfl) <|
  .cons Go.Proofs.Tryz.func194 (by kernel_rfl) <|
  .cons Go.Proofs.Tryz.func195 (by kernel_rfl) <|
  .cons Go.Proofs.Tryz.func196 (by kernel_rfl) <|
  .cons Go.Proofs.Tryz.func197 (by kernel_rfl) <|
  .cons Go.Proofs.Tryz.func198 (by kernel_rfl) <|
  .cons Go.Proofs.Tryz.func199 (by kernel_rfl) <|
  .cons Go.Proofs.Tryz.func200 (by kernel_rfl) <|
  .cons Go.Proofs.Tryz.func201 (by kernel_rfl) <|
  .cons Go.Proofs.Tryz.func202 (by kernel_rfl) <|
  .cons Go.Proofs.Tryz.func203 (by kernel_rfl) <|
  .cons Go.Proofs.Tryz.func204 (by kernel_rfl) <|
  .cons Go.Proofs.Tryz.func205 (by kernel_rfl) <|
  .cons Go.Proofs.Tryz.func206 (by kernel_rfl) <|
  .cons Go.Proofs.Tryz.func207 (by kernel_rfl) <|
  .cons Go.Proofs.Tryz.func208 (by kernel_rfl) <|
  .cons Go.Proofs.Tryz.func209 (by kernel_rfl) <|
  .cons Go.Proofs.Tryz.func210 (by kernel_rfl) <|
  .cons Go.Proofs.Tryz.func211 (by kernel_rfl) <|
  .cons Go.Proofs.Tryz.func212 (by kernel_rfl) <|
  .cons Go.Proofs.Tryz.func214 (by kernel_rfl) <|
  .cons Go.Proofs.Tryz.func215 (by kernel_rfl) <|
  .cons Go.Proofs.Tryz.func216 (by kernel_rfl) <|
  .cons Go.Proofs.Tryz.func217 (by kernel_rfl) <|
  .cons Go.Proofs.Tryz.func218 (by kernel_rfl) <|
  .cons Go.Proofs.Tryz.func219 (by kernel_rfl) <|
  .cons Go.Proofs.Tryz.func220 (by kernel_rfl) <|
  .cons Go.Proofs.Tryz.func221 (by kernel_rfl) <|
  .cons Go.Proofs.Tryz.func222 (by kernel_rfl) <|
  .cons Go.Proofs.Tryz.func223 (by kernel_rfl) <|
  .cons Go.Proofs.Tryz.func224 (by kernel_rfl) <|
  .cons Go.Proofs.Tryz.func225 (by kernel_rfl) <|
  .cons Go.Proofs.Tryz.func241 (by kernel_rfl) <|
  .cons Go.Proofs.Tryz.func242 (by kernel_rfl) <|
  .cons Go.Proofs.Tryz.func243 (by kernel_rfl) <|
  .cons Go.Proofs.Tryz.func244 (by kernel_rfl) <|
  .cons Go.Proofs.Tryz.func245 (by kernel_rfl) <|
  .cons Go.Proofs.Tryz.func248 (by kernel_rfl) <|
  .cons Go.Proofs.Tryz.func249 (by kernel_rfl) <|
  .cons Go.Proofs.Tryz.func253 (by kernel_rfl) <|
  .cons Go.Proofs.Tryz.func254 (by kernel_rfl) <|
  .cons Go.Proofs.Tryz.func255 (by kernel_rfl) <|
  .cons Go.Proofs.Tryz.func259 (by kernel_rfl) <|
  .cons Go.Proofs.Tryz.func260 (by kernel_rfl) <|
  .cons Go.Proofs.Tryz.func261 (by kernel_rfl) <|
  .cons Go.Proofs.Tryz.func276 (by kernel_rfl) <|
  .nil
noncomputable def ΓK0 : Env := (((Env.none.addX 104).addI 103).addEq 78 [.u8, .u8, .u8]).addE 108 2 drop_in drop_out drop_SC
theorem eq78 : EqOk Go.Proofs.Tryz.prog 78 [.u8, .u8, .u8] := eqOk_arr3 (e := 5) Go.Proofs.Tryz.underlying78 Go.Proofs.Tryz.underlying5 (ti := ⟨.int .u8, 1, 1, [.int .u8 0]⟩) (tab_ok 5 _ (by kernel_rfl)) rfl rfl (by kernel_rfl)
theorem gK0 : EnvOk Go.Proofs.Tryz.prog ΓK0 := EnvOk.addE (EnvOk.addEq (EnvOk.addI (EnvOk.addX EnvOk.none Go.Proofs.Tryz.func104 (by kernel_rfl) (by kernel_rfl) (by kernel_rfl) (by kernel_rfl)) Go.Proofs.Tryz.func103 (by kernel_rfl) (by kernel_rfl) (by kernel_rfl) (by kernel_rfl)) eq78) got_drop_c drop_says
noncomputable def ΓI0 : Env := inl fns es tab ΓK0 40
theorem gI0 : EnvOk Go.Proofs.Tryz.prog ΓI0 := EnvOk.inl mixed tab_ok gK0 fns_ok es 40
theorem beg_run0 : (callI ΓI0 false tab Go.Proofs.Tryz.f124 [] []).map (·.1) = some (.at (.raw (.bool true))) := by kernel_rfl
theorem beg_gives0 : Gives Go.Proofs.Tryz.prog 124 (.at (.raw (.bool true))) := by
  obtain ⟨⟨v, H'⟩, h1, h2⟩ := Option.map_eq_some_iff.1 beg_run0
  cases h2
  exact gives_of mixed tab_ok gI0 Go.Proofs.Tryz.func124 h1 rfl
theorem beg_fn0 : FnOk Go.Proofs.Tryz.prog 124 := ⟨_, Go.Proofs.Tryz.func124, by kernel_rfl, by kernel_rfl⟩
noncomputable def ΓK1 : Env := ΓK0.addK 124 (.at (.raw (.bool true)))
theorem gK1 : EnvOk Go.Proofs.Tryz.prog ΓK1 := EnvOk.addK gK0 beg_fn0 rfl beg_gives0
end Go.Sx.T

