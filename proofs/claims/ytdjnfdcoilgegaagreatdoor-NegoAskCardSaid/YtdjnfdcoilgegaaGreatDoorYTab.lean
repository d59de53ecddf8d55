import Derived.Test.YtdjnfdcoilgegaaGreatDoorL6
import Derived.Test.YtdjnfdcoilgegaaGreatDoorProg
set_option linter.all false
namespace Go.Sx.T
open Go Go.Sx Go.Proofs
set_option maxRecDepth 100000
def tab : Tab := [(1, ⟨.func, 1, 8, [.nilFunc]⟩),
  (2, ⟨.int .i64, 1, 8, [.int .i64 0]⟩),
  (3, ⟨.int .i64, 1, 8, [.int .i64 0]⟩),
  (4, ⟨.bool, 1, 1, [.bool false]⟩),
  (5, ⟨.int .u8, 1, 1, [.int .u8 0]⟩),
  (6, ⟨.int .u8, 1, 1, [.int .u8 0]⟩),
  (7, ⟨.st [(0, 2), (1, 3), (2, 4), (3, 6)], 4, 24, [.int .i64 0, .int .i64 0, .bool false, .int .u8 0]⟩),
  (8, ⟨.st [(0, 2), (1, 3), (2, 4), (3, 6)], 4, 24, [.int .i64 0, .int .i64 0, .bool false, .int .u8 0]⟩),
  (9, ⟨.str, 1, 16, [.string ByteArray.empty]⟩),
  (10, ⟨.str, 1, 16, [.string ByteArray.empty]⟩),
  (11, ⟨.str, 1, 16, [.string ByteArray.empty]⟩),
  (12, ⟨.int .u64, 1, 8, [.int .u64 0]⟩),
  (13, ⟨.st [(0, 9), (1, 12)], 2, 24, [.string ByteArray.empty, .int .u64 0]⟩),
  (14, ⟨.st [(0, 9), (1, 12)], 2, 24, [.string ByteArray.empty, .int .u64 0]⟩),
  (15, ⟨.ptr 288, 1, 8, [.pointer none]⟩),
  (16, ⟨.ptr 291, 1, 8, [.pointer none]⟩),
  (17, ⟨.ptr 298, 1, 8, [.pointer none]⟩),
  (18, ⟨.st [(0, 17)], 1, 8, [.pointer none]⟩),
  (19, ⟨.st [(0, 17)], 1, 8, [.pointer none]⟩),
  (20, ⟨.iface, 1, 16, [.nilIface]⟩),
  (21, ⟨.int .i32, 1, 4, [.int .i32 0]⟩),
  (22, ⟨.func, 1, 8, [.nilFunc]⟩),
  (23, ⟨.iface, 1, 16, [.nilIface]⟩),
  (24, ⟨.iface, 1, 16, [.nilIface]⟩),
  (25, ⟨.func, 1, 8, [.nilFunc]⟩),
  (26, ⟨.func, 1, 8, [.nilFunc]⟩),
  (28, ⟨.func, 1, 8, [.nilFunc]⟩),
  (29, ⟨.func, 1, 8, [.nilFunc]⟩),
  (30, ⟨.int .u64, 1, 8, [.int .u64 0]⟩),
  (31, ⟨.ptr 96, 1, 8, [.pointer none]⟩),
  (33, ⟨.func, 1, 8, [.nilFunc]⟩),
  (34, ⟨.func, 1, 8, [.nilFunc]⟩),
  (35, ⟨.ptr 99, 1, 8, [.pointer none]⟩),
  (36, ⟨.func, 1, 8, [.nilFunc]⟩),
  (37, ⟨.func, 1, 8, [.nilFunc]⟩),
  (38, ⟨.func, 1, 8, [.nilFunc]⟩),
  (39, ⟨.sl 3, 1, 24, [.slice none 0 0]⟩),
  (40, ⟨.ptr 102, 1, 8, [.pointer none]⟩),
  (41, ⟨.func, 1, 8, [.nilFunc]⟩),
  (42, ⟨.map 3 4, 1, 8, [.map none]⟩),
  (43, ⟨.int .i64, 1, 8, [.int .i64 0]⟩),
  (44, ⟨.func, 1, 8, [.nilFunc]⟩),
  (45, ⟨.func, 1, 8, [.nilFunc]⟩),
  (46, ⟨.sl 49, 1, 24, [.slice none 0 0]⟩),
  (47, ⟨.func, 1, 8, [.nilFunc]⟩),
  (48, ⟨.st [(0, 3), (1, 9)], 2, 24, [.int .i64 0, .string ByteArray.empty]⟩),
  (49, ⟨.st [(0, 3), (1, 9)], 2, 24, [.int .i64 0, .string ByteArray.empty]⟩),
  (50, ⟨.sl 5, 1, 24, [.slice none 0 0]⟩),
  (51, ⟨.func, 1, 8, [.nilFunc]⟩),
  (52, ⟨.func, 1, 8, [.nilFunc]⟩),
  (53, ⟨.func, 1, 8, [.nilFunc]⟩),
  (54, ⟨.func, 1, 8, [.nilFunc]⟩),
  (55, ⟨.func, 1, 8, [.nilFunc]⟩),
  (56, ⟨.func, 1, 8, [.nilFunc]⟩),
  (57, ⟨.func, 1, 8, [.nilFunc]⟩),
  (58, ⟨.sl 4, 1, 24, [.slice none 0 0]⟩),
  (60, ⟨.func, 1, 8, [.nilFunc]⟩),
  (61, ⟨.func, 1, 8, [.nilFunc]⟩),
  (62, ⟨.ptr 117, 1, 8, [.pointer none]⟩),
  (63, ⟨.func, 1, 8, [.nilFunc]⟩),
  (64, ⟨.ptr 120, 1, 8, [.pointer none]⟩),
  (65, ⟨.func, 1, 8, [.nilFunc]⟩),
  (66, ⟨.func, 1, 8, [.nilFunc]⟩),
  (67, ⟨.func, 1, 8, [.nilFunc]⟩),
  (68, ⟨.func, 1, 8, [.nilFunc]⟩),
  (70, ⟨.func, 1, 8, [.nilFunc]⟩),
  (71, ⟨.st [(0, 3), (1, 30), (2, 30), (3, 30), (4, 30), (5, 30), (6, 3), (7, 3)], 8, 64, [.int .i64 0, .int .u64 0, .int .u64 0, .int .u64 0, .int .u64 0, .int .u64 0, .int .i64 0, .int .i64 0]⟩),
  (72, ⟨.st [(0, 3), (1, 30), (2, 30), (3, 30), (4, 30), (5, 30), (6, 3), (7, 3)], 8, 64, [.int .i64 0, .int .u64 0, .int .u64 0, .int .u64 0, .int .u64 0, .int .u64 0, .int .i64 0, .int .i64 0]⟩),
  (74, ⟨.func, 1, 8, [.nilFunc]⟩),
  (75, ⟨.func, 1, 8, [.nilFunc]⟩),
  (76, ⟨.func, 1, 8, [.nilFunc]⟩),
  (77, ⟨.int .u32, 1, 4, [.int .u32 0]⟩),
  (78, ⟨.arr 3 5, 3, 3, [.int .u8 0, .int .u8 0, .int .u8 0]⟩),
  (79, ⟨.st [(0, 3), (1, 3), (2, 3), (3, 3), (4, 3), (5, 3), (6, 3), (7, 4), (8, 30), (9, 30), (10, 77), (11, 3), (12, 78)], 15, 104, [.int .i64 0, .int .i64 0, .int .i64 0, .int .i64 0, .int .i64 0, .int .i64 0, .int .i64 0, .bool false, .int .u64 0, .int .u64 0, .int .u32 0, .int .i64 0, .int .u8 0, .int .u8 0, .int .u8 0]⟩),
  (80, ⟨.st [(0, 3), (1, 3), (2, 3), (3, 3), (4, 3), (5, 3), (6, 3), (7, 4), (8, 30), (9, 30), (10, 77), (11, 3), (12, 78)], 15, 104, [.int .i64 0, .int .i64 0, .int .i64 0, .int .i64 0, .int .i64 0, .int .i64 0, .int .i64 0, .bool false, .int .u64 0, .int .u64 0, .int .u32 0, .int .i64 0, .int .u8 0, .int .u8 0, .int .u8 0]⟩),
  (81, ⟨.st [(0, 80), (15, 46), (16, 9)], 17, 144, [.int .i64 0, .int .i64 0, .int .i64 0, .int .i64 0, .int .i64 0, .int .i64 0, .int .i64 0, .bool false, .int .u64 0, .int .u64 0, .int .u32 0, .int .i64 0, .int .u8 0, .int .u8 0, .int .u8 0, .slice none 0 0, .string ByteArray.empty]⟩),
  (82, ⟨.st [(0, 80), (15, 46), (16, 9)], 17, 144, [.int .i64 0, .int .i64 0, .int .i64 0, .int .i64 0, .int .i64 0, .int .i64 0, .int .i64 0, .bool false, .int .u64 0, .int .u64 0, .int .u32 0, .int .i64 0, .int .u8 0, .int .u8 0, .int .u8 0, .slice none 0 0, .string ByteArray.empty]⟩),
  (83, ⟨.func, 1, 8, [.nilFunc]⟩),
  (84, ⟨.ptr 87, 1, 8, [.pointer none]⟩),
  (85, ⟨.func, 1, 8, [.nilFunc]⟩),
  (86, ⟨.st [(0, 31)], 1, 8, [.pointer none]⟩),
  (87, ⟨.st [(0, 31)], 1, 8, [.pointer none]⟩),
  (88, ⟨.ptr 90, 1, 8, [.pointer none]⟩),
  (89, ⟨.st [(0, 35), (1, 62), (2, 30)], 3, 24, [.pointer none, .pointer none, .int .u64 0]⟩),
  (90, ⟨.st [(0, 35), (1, 62), (2, 30)], 3, 24, [.pointer none, .pointer none, .int .u64 0]⟩),
  (92, ⟨.ptr 165, 1, 8, [.pointer none]⟩),
  (93, ⟨.st [(0, 30), (1, 4)], 2, 16, [.int .u64 0, .bool false]⟩),
  (94, ⟨.st [(0, 30), (1, 4)], 2, 16, [.int .u64 0, .bool false]⟩),
  (95, ⟨.st [(0, 3), (1, 3), (2, 3), (3, 3), (4, 92), (5, 94), (7, 94), (9, 4), (10, 2)], 11, 88, [.int .i64 0, .int .i64 0, .int .i64 0, .int .i64 0, .pointer none, .int .u64 0, .bool false, .int .u64 0, .bool false, .bool false, .int .i64 0]⟩),
  (96, ⟨.st [(0, 3), (1, 3), (2, 3), (3, 3), (4, 92), (5, 94), (7, 94), (9, 4), (10, 2)], 11, 88, [.int .i64 0, .int .i64 0, .int .i64 0, .int .i64 0, .pointer none, .int .u64 0, .bool false, .int .u64 0, .bool false, .bool false, .int .i64 0]⟩),
  (97, ⟨.ptr 163, 1, 8, [.pointer none]⟩),
  (98, ⟨.st [(0, 30), (1, 30), (2, 30), (3, 2), (4, 4), (5, 2), (6, 97), (7, 4), (8, 4), (9, 2)], 10, 72, [.int .u64 0, .int .u64 0, .int .u64 0, .int .i64 0, .bool false, .int .i64 0, .pointer none, .bool false, .bool false, .int .i64 0]⟩),
  (99, ⟨.st [(0, 30), (1, 30), (2, 30), (3, 2), (4, 4), (5, 2), (6, 97), (7, 4), (8, 4), (9, 2)], 10, 72, [.int .u64 0, .int .u64 0, .int .u64 0, .int .i64 0, .bool false, .int .i64 0, .pointer none, .bool false, .bool false, .int .i64 0]⟩),
  (100, ⟨.map 3 9, 1, 8, [.map none]⟩),
  (101, ⟨.st [(0, 4), (1, 100), (2, 100), (3, 100), (4, 100), (5, 46)], 6, 64, [.bool false, .map none, .map none, .map none, .map none, .slice none 0 0]⟩),
  (102, ⟨.st [(0, 4), (1, 100), (2, 100), (3, 100), (4, 100), (5, 46)], 6, 64, [.bool false, .map none, .map none, .map none, .map none, .slice none 0 0]⟩),
  (103, ⟨.func, 1, 8, [.nilFunc]⟩),
  (104, ⟨.func, 1, 8, [.nilFunc]⟩),
  (105, ⟨.func, 1, 8, [.nilFunc]⟩),
  (106, ⟨.func, 1, 8, [.nilFunc]⟩),
  (108, ⟨.func, 1, 8, [.nilFunc]⟩),
  (110, ⟨.func, 1, 8, [.nilFunc]⟩),
  (111, ⟨.func, 1, 8, [.nilFunc]⟩),
  (112, ⟨.func, 1, 8, [.nilFunc]⟩),
  (114, ⟨.func, 1, 8, [.nilFunc]⟩),
  (115, ⟨.func, 1, 8, [.nilFunc]⟩),
  (116, ⟨.st [(0, 30), (1, 30), (2, 30), (3, 30), (4, 2)], 5, 40, [.int .u64 0, .int .u64 0, .int .u64 0, .int .u64 0, .int .i64 0]⟩),
  (117, ⟨.st [(0, 30), (1, 30), (2, 30), (3, 30), (4, 2)], 5, 40, [.int .u64 0, .int .u64 0, .int .u64 0, .int .u64 0, .int .i64 0]⟩),
  (118, ⟨.sl 9, 1, 24, [.slice none 0 0]⟩),
  (119, ⟨.st [(0, 118), (1, 3)], 2, 32, [.slice none 0 0, .int .i64 0]⟩),
  (120, ⟨.st [(0, 118), (1, 3)], 2, 32, [.slice none 0 0, .int .i64 0]⟩),
  (121, ⟨.func, 1, 8, [.nilFunc]⟩),
  (123, ⟨.func, 1, 8, [.nilFunc]⟩),
  (124, ⟨.func, 1, 8, [.nilFunc]⟩),
  (125, ⟨.func, 1, 8, [.nilFunc]⟩),
  (126, ⟨.func, 1, 8, [.nilFunc]⟩),
  (127, ⟨.func, 1, 8, [.nilFunc]⟩),
  (128, ⟨.func, 1, 8, [.nilFunc]⟩),
  (129, ⟨.func, 1, 8, [.nilFunc]⟩),
  (130, ⟨.func, 1, 8, [.nilFunc]⟩),
  (131, ⟨.func, 1, 8, [.nilFunc]⟩),
  (132, ⟨.func, 1, 8, [.nilFunc]⟩),
  (133, ⟨.func, 1, 8, [.nilFunc]⟩),
  (134, ⟨.sl 30, 1, 24, [.slice none 0 0]⟩),
  (135, ⟨.func, 1, 8, [.nilFunc]⟩),
  (136, ⟨.ptr 172, 1, 8, [.pointer none]⟩),
  (137, ⟨.func, 1, 8, [.nilFunc]⟩),
  (138, ⟨.ptr 175, 1, 8, [.pointer none]⟩),
  (139, ⟨.func, 1, 8, [.nilFunc]⟩),
  (140, ⟨.ptr 179, 1, 8, [.pointer none]⟩),
  (141, ⟨.func, 1, 8, [.nilFunc]⟩),
  (142, ⟨.func, 1, 8, [.nilFunc]⟩),
  (143, ⟨.sl 155, 1, 24, [.slice none 0 0]⟩),
  (144, ⟨.func, 1, 8, [.nilFunc]⟩),
  (145, ⟨.func, 1, 8, [.nilFunc]⟩),
  (146, ⟨.st [(0, 134), (1, 134), (2, 134), (3, 3), (4, 2)], 5, 88, [.slice none 0 0, .slice none 0 0, .slice none 0 0, .int .i64 0, .int .i64 0]⟩),
  (147, ⟨.st [(0, 134), (1, 134), (2, 134), (3, 3), (4, 2)], 5, 88, [.slice none 0 0, .slice none 0 0, .slice none 0 0, .int .i64 0, .int .i64 0]⟩),
  (148, ⟨.func, 1, 8, [.nilFunc]⟩),
  (149, ⟨.func, 1, 8, [.nilFunc]⟩),
  (151, ⟨.func, 1, 8, [.nilFunc]⟩),
  (153, ⟨.func, 1, 8, [.nilFunc]⟩),
  (154, ⟨.st [(0, 3), (1, 3)], 2, 16, [.int .i64 0, .int .i64 0]⟩),
  (155, ⟨.st [(0, 3), (1, 3)], 2, 16, [.int .i64 0, .int .i64 0]⟩),
  (156, ⟨.func, 1, 8, [.nilFunc]⟩),
  (157, ⟨.func, 1, 8, [.nilFunc]⟩),
  (158, ⟨.func, 1, 8, [.nilFunc]⟩),
  (159, ⟨.st [(0, 2), (1, 30)], 2, 16, [.int .i64 0, .int .u64 0]⟩),
  (160, ⟨.st [(0, 2), (1, 30)], 2, 16, [.int .i64 0, .int .u64 0]⟩),
  (161, ⟨.sl 160, 1, 24, [.slice none 0 0]⟩),
  (162, ⟨.st [(0, 161)], 1, 24, [.slice none 0 0]⟩),
  (163, ⟨.st [(0, 161)], 1, 24, [.slice none 0 0]⟩),
  (164, ⟨.st [(0, 4), (1, 2), (2, 2), (3, 2)], 4, 32, [.bool false, .int .i64 0, .int .i64 0, .int .i64 0]⟩),
  (165, ⟨.st [(0, 4), (1, 2), (2, 2), (3, 2)], 4, 32, [.bool false, .int .i64 0, .int .i64 0, .int .i64 0]⟩),
  (166, ⟨.int .u64, 1, 8, [.int .u64 0]⟩),
  (167, ⟨.func, 1, 8, [.nilFunc]⟩),
  (168, ⟨.func, 1, 8, [.nilFunc]⟩),
  (169, ⟨.func, 1, 8, [.nilFunc]⟩),
  (170, ⟨.map 30 3, 1, 8, [.map none]⟩),
  (171, ⟨.st [(0, 170), (1, 30), (2, 4), (3, 30), (4, 4)], 5, 40, [.map none, .int .u64 0, .bool false, .int .u64 0, .bool false]⟩),
  (172, ⟨.st [(0, 170), (1, 30), (2, 4), (3, 30), (4, 4)], 5, 40, [.map none, .int .u64 0, .bool false, .int .u64 0, .bool false]⟩),
  (173, ⟨.sl 184, 1, 24, [.slice none 0 0]⟩),
  (174, ⟨.st [(0, 173), (1, 30), (2, 4)], 3, 40, [.slice none 0 0, .int .u64 0, .bool false]⟩),
  (175, ⟨.st [(0, 173), (1, 30), (2, 4)], 3, 40, [.slice none 0 0, .int .u64 0, .bool false]⟩),
  (176, ⟨.map 30 2, 1, 8, [.map none]⟩),
  (177, ⟨.map 30 4, 1, 8, [.map none]⟩),
  (178, ⟨.st [(0, 2), (1, 4), (2, 2), (3, 30), (4, 30), (5, 176), (6, 177), (7, 3), (8, 4), (9, 2), (10, 30), (11, 134), (12, 30), (13, 2)], 14, 128, [.int .i64 0, .bool false, .int .i64 0, .int .u64 0, .int .u64 0, .map none, .map none, .int .i64 0, .bool false, .int .i64 0, .int .u64 0, .slice none 0 0, .int .u64 0, .int .i64 0]⟩),
  (179, ⟨.st [(0, 2), (1, 4), (2, 2), (3, 30), (4, 30), (5, 176), (6, 177), (7, 3), (8, 4), (9, 2), (10, 30), (11, 134), (12, 30), (13, 2)], 14, 128, [.int .i64 0, .bool false, .int .i64 0, .int .u64 0, .int .u64 0, .map none, .map none, .int .i64 0, .bool false, .int .i64 0, .int .u64 0, .slice none 0 0, .int .u64 0, .int .i64 0]⟩),
  (180, ⟨.func, 1, 8, [.nilFunc]⟩),
  (181, ⟨.func, 1, 8, [.nilFunc]⟩),
  (182, ⟨.func, 1, 8, [.nilFunc]⟩),
  (183, ⟨.st [(0, 30), (1, 2), (2, 3)], 3, 24, [.int .u64 0, .int .i64 0, .int .i64 0]⟩),
  (184, ⟨.st [(0, 30), (1, 2), (2, 3)], 3, 24, [.int .u64 0, .int .i64 0, .int .i64 0]⟩),
  (185, ⟨.func, 1, 8, [.nilFunc]⟩),
  (186, ⟨.func, 1, 8, [.nilFunc]⟩),
  (187, ⟨.ptr 184, 1, 8, [.pointer none]⟩),
  (188, ⟨.func, 1, 8, [.nilFunc]⟩),
  (189, ⟨.func, 1, 8, [.nilFunc]⟩),
  (190, ⟨.func, 1, 8, [.nilFunc]⟩),
  (191, ⟨.func, 1, 8, [.nilFunc]⟩),
  (192, ⟨.func, 1, 8, [.nilFunc]⟩),
  (193, ⟨.func, 1, 8, [.nilFunc]⟩),
  (194, ⟨.func, 1, 8, [.nilFunc]⟩),
  (195, ⟨.sl 2, 1, 24, [.slice none 0 0]⟩),
  (197, ⟨.func, 1, 8, [.nilFunc]⟩),
  (199, ⟨.func, 1, 8, [.nilFunc]⟩),
  (201, ⟨.func, 1, 8, [.nilFunc]⟩),
  (203, ⟨.func, 1, 8, [.nilFunc]⟩),
  (204, ⟨.func, 1, 8, [.nilFunc]⟩),
  (205, ⟨.func, 1, 8, [.nilFunc]⟩),
  (206, ⟨.func, 1, 8, [.nilFunc]⟩),
  (207, ⟨.func, 1, 8, [.nilFunc]⟩),
  (209, ⟨.func, 1, 8, [.nilFunc]⟩),
  (210, ⟨.func, 1, 8, [.nilFunc]⟩),
  (211, ⟨.func, 1, 8, [.nilFunc]⟩),
  (212, ⟨.iface, 1, 16, [.nilIface]⟩),
  (213, ⟨.iface, 1, 16, [.nilIface]⟩),
  (214, ⟨.func, 1, 8, [.nilFunc]⟩),
  (215, ⟨.func, 1, 8, [.nilFunc]⟩),
  (216, ⟨.func, 1, 8, [.nilFunc]⟩),
  (217, ⟨.func, 1, 8, [.nilFunc]⟩),
  (218, ⟨.func, 1, 8, [.nilFunc]⟩),
  (219, ⟨.func, 1, 8, [.nilFunc]⟩),
  (220, ⟨.func, 1, 8, [.nilFunc]⟩),
  (222, ⟨.func, 1, 8, [.nilFunc]⟩),
  (224, ⟨.func, 1, 8, [.nilFunc]⟩),
  (225, ⟨.func, 1, 8, [.nilFunc]⟩),
  (226, ⟨.func, 1, 8, [.nilFunc]⟩),
  (227, ⟨.func, 1, 8, [.nilFunc]⟩),
  (228, ⟨.func, 1, 8, [.nilFunc]⟩),
  (230, ⟨.func, 1, 8, [.nilFunc]⟩),
  (231, ⟨.func, 1, 8, [.nilFunc]⟩),
  (232, ⟨.func, 1, 8, [.nilFunc]⟩),
  (233, ⟨.func, 1, 8, [.nilFunc]⟩),
  (234, ⟨.func, 1, 8, [.nilFunc]⟩),
  (236, ⟨.func, 1, 8, [.nilFunc]⟩),
  (237, ⟨.func, 1, 8, [.nilFunc]⟩),
  (239, ⟨.func, 1, 8, [.nilFunc]⟩),
  (240, ⟨.func, 1, 8, [.nilFunc]⟩),
  (241, ⟨.arr 256 4, 256, 256, [.bool false, .bool false, .bool false, .bool false, .bool false, .bool false, .bool false, .bool false, .bool false, .bool false, .bool false, .bool false, .bool false, .bool false, .bool false, .bool false, .bool false, .bool false, .bool false, .bool false, .bool false, .bool false, .bool false, .bool false, .bool false, .bool false, .bool false, .bool false, .bool false, .bool false, .bool false, .bool false, .bool false, .bool false, .bool false, .bool false, .bool false, .bool false, .bool false, .bool false, .bool false, .bool false, .bool false, .bool false, .bool false, .bool false, .bool false, .bool false, .bool false, .bool false, .bool false, .bool false, .bool false, .bool false, .bool false, .bool false, .bool false, .bool false, .bool false, .bool false, .bool false, .bool false, .bool false, .bool false, .bool false, .bool false, .bool false, .bool false, .bool false, .bool false, .bool false, .bool false, .bool false, .bool false, .bool false, .bool false, .bool false, .bool false, .bool false, .bool false, .bool false, .bool false, .bool false, .bool false, .bool false, .bool false, .bool false, .bool false, .bool false, .bool false, .bool false, .bool false, .bool false, .bool false, .bool false, .bool false, .bool false, .bool false, .bool false, .bool false, .bool false, .bool false, .bool false, .bool false, .bool false, .bool false, .bool false, .bool false, .bool false, .bool false, .bool false, .bool false, .bool false, .bool false, .bool false, .bool false, .bool false, .bool false, .bool false, .bool false, .bool false, .bool false, .bool false, .bool false, .bool false, .bool false, .bool false, .bool false, .bool false, .bool false, .bool false, .bool false, .bool false, .bool false, .bool false, .bool false, .bool false, .bool false, .bool false, .bool false, .bool false, .bool false, .bool false, .bool false, .bool false, .bool false, .bool false, .bool false, .bool false, .bool false, .bool false, .bool false, .bool false, .bool false, .bool false, .bool false, .bool false, .bool false, .bool false, .bool false, .bool false, .bool false, .bool false, .bool false, .bool false, .bool false, .bool false, .bool false, .bool false, .bool false, .bool false, .bool false, .bool false, .bool false, .bool false, .bool false, .bool false, .bool false, .bool false, .bool false, .bool false, .bool false, .bool false, .bool false, .bool false, .bool false, .bool false, .bool false, .bool false, .bool false, .bool false, .bool false, .bool false, .bool false, .bool false, .bool false, .bool false, .bool false, .bool false, .bool false, .bool false, .bool false, .bool false, .bool false, .bool false, .bool false, .bool false, .bool false, .bool false, .bool false, .bool false, .bool false, .bool false, .bool false, .bool false, .bool false, .bool false, .bool false, .bool false, .bool false, .bool false, .bool false, .bool false, .bool false, .bool false, .bool false, .bool false, .bool false, .bool false, .bool false, .bool false, .bool false, .bool false, .bool false, .bool false, .bool false, .bool false, .bool false, .bool false, .bool false, .bool false, .bool false, .bool false, .bool false, .bool false, .bool false, .bool false, .bool false, .bool false, .bool false, .bool false, .bool false, .bool false, .bool false, .bool false, .bool false]⟩),
  (242, ⟨.arr 256 4, 256, 256, [.bool false, .bool false, .bool false, .bool false, .bool false, .bool false, .bool false, .bool false, .bool false, .bool false, .bool false, .bool false, .bool false, .bool false, .bool false, .bool false, .bool false, .bool false, .bool false, .bool false, .bool false, .bool false, .bool false, .bool false, .bool false, .bool false, .bool false, .bool false, .bool false, .bool false, .bool false, .bool false, .bool false, .bool false, .bool false, .bool false, .bool false, .bool false, .bool false, .bool false, .bool false, .bool false, .bool false, .bool false, .bool false, .bool false, .bool false, .bool false, .bool false, .bool false, .bool false, .bool false, .bool false, .bool false, .bool false, .bool false, .bool false, .bool false, .bool false, .bool false, .bool false, .bool false, .bool false, .bool false, .bool false, .bool false, .bool false, .bool false, .bool false, .bool false, .bool false, .bool false, .bool false, .bool false, .bool false, .bool false, .bool false, .bool false, .bool false, .bool false, .bool false, .bool false, .bool false, .bool false, .bool false, .bool false, .bool false, .bool false, .bool false, .bool false, .bool false, .bool false, .bool false, .bool false, .bool false, .bool false, .bool false, .bool false, .bool false, .bool false, .bool false, .bool false, .bool false, .bool false, .bool false, .bool false, .bool false, .bool false, .bool false, .bool false, .bool false, .bool false, .bool false, .bool false, .bool false, .bool false, .bool false, .bool false, .bool false, .bool false, .bool false, .bool false, .bool false, .bool false, .bool false, .bool false, .bool false, .bool false, .bool false, .bool false, .bool false, .bool false, .bool false, .bool false, .bool false, .bool false, .bool false, .bool false, .bool false, .bool false, .bool false, .bool false, .bool false, .bool false, .bool false, .bool false, .bool false, .bool false, .bool false, .bool false, .bool false, .bool false, .bool false, .bool false, .bool false, .bool false, .bool false, .bool false, .bool false, .bool false, .bool false, .bool false, .bool false, .bool false, .bool false, .bool false, .bool false, .bool false, .bool false, .bool false, .bool false, .bool false, .bool false, .bool false, .bool false, .bool false, .bool false, .bool false, .bool false, .bool false, .bool false, .bool false, .bool false, .bool false, .bool false, .bool false, .bool false, .bool false, .bool false, .bool false, .bool false, .bool false, .bool false, .bool false, .bool false, .bool false, .bool false, .bool false, .bool false, .bool false, .bool false, .bool false, .bool false, .bool false, .bool false, .bool false, .bool false, .bool false, .bool false, .bool false, .bool false, .bool false, .bool false, .bool false, .bool false, .bool false, .bool false, .bool false, .bool false, .bool false, .bool false, .bool false, .bool false, .bool false, .bool false, .bool false, .bool false, .bool false, .bool false, .bool false, .bool false, .bool false, .bool false, .bool false, .bool false, .bool false, .bool false, .bool false, .bool false, .bool false, .bool false, .bool false, .bool false, .bool false, .bool false, .bool false, .bool false, .bool false, .bool false, .bool false, .bool false, .bool false, .bool false, .bool false, .bool false, .bool false]⟩),
  (244, ⟨.func, 1, 8, [.nilFunc]⟩),
  (245, ⟨.func, 1, 8, [.nilFunc]⟩),
  (246, ⟨.ptr 242, 1, 8, [.pointer none]⟩),
  (247, ⟨.func, 1, 8, [.nilFunc]⟩),
  (248, ⟨.func, 1, 8, [.nilFunc]⟩),
  (249, ⟨.func, 1, 8, [.nilFunc]⟩),
  (251, ⟨.func, 1, 8, [.nilFunc]⟩),
  (252, ⟨.func, 1, 8, [.nilFunc]⟩),
  (253, ⟨.arr 24 5, 24, 24, [.int .u8 0, .int .u8 0, .int .u8 0, .int .u8 0, .int .u8 0, .int .u8 0, .int .u8 0, .int .u8 0, .int .u8 0, .int .u8 0, .int .u8 0, .int .u8 0, .int .u8 0, .int .u8 0, .int .u8 0, .int .u8 0, .int .u8 0, .int .u8 0, .int .u8 0, .int .u8 0, .int .u8 0, .int .u8 0, .int .u8 0, .int .u8 0]⟩),
  (254, ⟨.func, 1, 8, [.nilFunc]⟩),
  (256, ⟨.func, 1, 8, [.nilFunc]⟩),
  (257, ⟨.int .i64, 1, 8, [.int .i64 0]⟩),
  (258, ⟨.func, 1, 8, [.nilFunc]⟩),
  (259, ⟨.func, 1, 8, [.nilFunc]⟩),
  (260, ⟨.ptr 271, 1, 8, [.pointer none]⟩),
  (261, ⟨.func, 1, 8, [.nilFunc]⟩),
  (262, ⟨.func, 1, 8, [.nilFunc]⟩),
  (263, ⟨.func, 1, 8, [.nilFunc]⟩),
  (264, ⟨.func, 1, 8, [.nilFunc]⟩),
  (265, ⟨.func, 1, 8, [.nilFunc]⟩),
  (266, ⟨.arr 20 30, 20, 160, [.int .u64 0, .int .u64 0, .int .u64 0, .int .u64 0, .int .u64 0, .int .u64 0, .int .u64 0, .int .u64 0, .int .u64 0, .int .u64 0, .int .u64 0, .int .u64 0, .int .u64 0, .int .u64 0, .int .u64 0, .int .u64 0, .int .u64 0, .int .u64 0, .int .u64 0, .int .u64 0]⟩),
  (267, ⟨.arr 65 5, 65, 65, [.int .u8 0, .int .u8 0, .int .u8 0, .int .u8 0, .int .u8 0, .int .u8 0, .int .u8 0, .int .u8 0, .int .u8 0, .int .u8 0, .int .u8 0, .int .u8 0, .int .u8 0, .int .u8 0, .int .u8 0, .int .u8 0, .int .u8 0, .int .u8 0, .int .u8 0, .int .u8 0, .int .u8 0, .int .u8 0, .int .u8 0, .int .u8 0, .int .u8 0, .int .u8 0, .int .u8 0, .int .u8 0, .int .u8 0, .int .u8 0, .int .u8 0, .int .u8 0, .int .u8 0, .int .u8 0, .int .u8 0, .int .u8 0, .int .u8 0, .int .u8 0, .int .u8 0, .int .u8 0, .int .u8 0, .int .u8 0, .int .u8 0, .int .u8 0, .int .u8 0, .int .u8 0, .int .u8 0, .int .u8 0, .int .u8 0, .int .u8 0, .int .u8 0, .int .u8 0, .int .u8 0, .int .u8 0, .int .u8 0, .int .u8 0, .int .u8 0, .int .u8 0, .int .u8 0, .int .u8 0, .int .u8 0, .int .u8 0, .int .u8 0, .int .u8 0, .int .u8 0]⟩),
  (268, ⟨.func, 1, 8, [.nilFunc]⟩),
  (269, ⟨.func, 1, 8, [.nilFunc]⟩),
  (270, ⟨.st [(0, 9), (1, 9), (2, 213)], 3, 48, [.string ByteArray.empty, .string ByteArray.empty, .nilIface]⟩),
  (271, ⟨.st [(0, 9), (1, 9), (2, 213)], 3, 48, [.string ByteArray.empty, .string ByteArray.empty, .nilIface]⟩),
  (272, ⟨.func, 1, 8, [.nilFunc]⟩),
  (273, ⟨.func, 1, 8, [.nilFunc]⟩),
  (274, ⟨.func, 1, 8, [.nilFunc]⟩),
  (275, ⟨.ptr 5, 1, 8, [.pointer none]⟩),
  (276, ⟨.ptr 278, 1, 8, [.pointer none]⟩),
  (277, ⟨.st [(0, 9)], 1, 16, [.string ByteArray.empty]⟩),
  (278, ⟨.st [(0, 9)], 1, 16, [.string ByteArray.empty]⟩),
  (279, ⟨.arr 256 5, 256, 256, [.int .u8 0, .int .u8 0, .int .u8 0, .int .u8 0, .int .u8 0, .int .u8 0, .int .u8 0, .int .u8 0, .int .u8 0, .int .u8 0, .int .u8 0, .int .u8 0, .int .u8 0, .int .u8 0, .int .u8 0, .int .u8 0, .int .u8 0, .int .u8 0, .int .u8 0, .int .u8 0, .int .u8 0, .int .u8 0, .int .u8 0, .int .u8 0, .int .u8 0, .int .u8 0, .int .u8 0, .int .u8 0, .int .u8 0, .int .u8 0, .int .u8 0, .int .u8 0, .int .u8 0, .int .u8 0, .int .u8 0, .int .u8 0, .int .u8 0, .int .u8 0, .int .u8 0, .int .u8 0, .int .u8 0, .int .u8 0, .int .u8 0, .int .u8 0, .int .u8 0, .int .u8 0, .int .u8 0, .int .u8 0, .int .u8 0, .int .u8 0, .int .u8 0, .int .u8 0, .int .u8 0, .int .u8 0, .int .u8 0, .int .u8 0, .int .u8 0, .int .u8 0, .int .u8 0, .int .u8 0, .int .u8 0, .int .u8 0, .int .u8 0, .int .u8 0, .int .u8 0, .int .u8 0, .int .u8 0, .int .u8 0, .int .u8 0, .int .u8 0, .int .u8 0, .int .u8 0, .int .u8 0, .int .u8 0, .int .u8 0, .int .u8 0, .int .u8 0, .int .u8 0, .int .u8 0, .int .u8 0, .int .u8 0, .int .u8 0, .int .u8 0, .int .u8 0, .int .u8 0, .int .u8 0, .int .u8 0, .int .u8 0, .int .u8 0, .int .u8 0, .int .u8 0, .int .u8 0, .int .u8 0, .int .u8 0, .int .u8 0, .int .u8 0, .int .u8 0, .int .u8 0, .int .u8 0, .int .u8 0, .int .u8 0, .int .u8 0, .int .u8 0, .int .u8 0, .int .u8 0, .int .u8 0, .int .u8 0, .int .u8 0, .int .u8 0, .int .u8 0, .int .u8 0, .int .u8 0, .int .u8 0, .int .u8 0, .int .u8 0, .int .u8 0, .int .u8 0, .int .u8 0, .int .u8 0, .int .u8 0, .int .u8 0, .int .u8 0, .int .u8 0, .int .u8 0, .int .u8 0, .int .u8 0, .int .u8 0, .int .u8 0, .int .u8 0, .int .u8 0, .int .u8 0, .int .u8 0, .int .u8 0, .int .u8 0, .int .u8 0, .int .u8 0, .int .u8 0, .int .u8 0, .int .u8 0, .int .u8 0, .int .u8 0, .int .u8 0, .int .u8 0, .int .u8 0, .int .u8 0, .int .u8 0, .int .u8 0, .int .u8 0, .int .u8 0, .int .u8 0, .int .u8 0, .int .u8 0, .int .u8 0, .int .u8 0, .int .u8 0, .int .u8 0, .int .u8 0, .int .u8 0, .int .u8 0, .int .u8 0, .int .u8 0, .int .u8 0, .int .u8 0, .int .u8 0, .int .u8 0, .int .u8 0, .int .u8 0, .int .u8 0, .int .u8 0, .int .u8 0, .int .u8 0, .int .u8 0, .int .u8 0, .int .u8 0, .int .u8 0, .int .u8 0, .int .u8 0, .int .u8 0, .int .u8 0, .int .u8 0, .int .u8 0, .int .u8 0, .int .u8 0, .int .u8 0, .int .u8 0, .int .u8 0, .int .u8 0, .int .u8 0, .int .u8 0, .int .u8 0, .int .u8 0, .int .u8 0, .int .u8 0, .int .u8 0, .int .u8 0, .int .u8 0, .int .u8 0, .int .u8 0, .int .u8 0, .int .u8 0, .int .u8 0, .int .u8 0, .int .u8 0, .int .u8 0, .int .u8 0, .int .u8 0, .int .u8 0, .int .u8 0, .int .u8 0, .int .u8 0, .int .u8 0, .int .u8 0, .int .u8 0, .int .u8 0, .int .u8 0, .int .u8 0, .int .u8 0, .int .u8 0, .int .u8 0, .int .u8 0, .int .u8 0, .int .u8 0, .int .u8 0, .int .u8 0, .int .u8 0, .int .u8 0, .int .u8 0, .int .u8 0, .int .u8 0, .int .u8 0, .int .u8 0, .int .u8 0, .int .u8 0, .int .u8 0, .int .u8 0, .int .u8 0, .int .u8 0, .int .u8 0, .int .u8 0, .int .u8 0, .int .u8 0, .int .u8 0, .int .u8 0, .int .u8 0, .int .u8 0, .int .u8 0, .int .u8 0, .int .u8 0, .int .u8 0, .int .u8 0, .int .u8 0, .int .u8 0, .int .u8 0, .int .u8 0, .int .u8 0, .int .u8 0]⟩),
  (280, ⟨.st [(0, 5), (1, 5)], 2, 2, [.int .u8 0, .int .u8 0]⟩),
  (281, ⟨.st [(0, 5), (1, 5)], 2, 2, [.int .u8 0, .int .u8 0]⟩),
  (282, ⟨.arr 16 281, 32, 32, [.int .u8 0, .int .u8 0, .int .u8 0, .int .u8 0, .int .u8 0, .int .u8 0, .int .u8 0, .int .u8 0, .int .u8 0, .int .u8 0, .int .u8 0, .int .u8 0, .int .u8 0, .int .u8 0, .int .u8 0, .int .u8 0, .int .u8 0, .int .u8 0, .int .u8 0, .int .u8 0, .int .u8 0, .int .u8 0, .int .u8 0, .int .u8 0, .int .u8 0, .int .u8 0, .int .u8 0, .int .u8 0, .int .u8 0, .int .u8 0, .int .u8 0, .int .u8 0]⟩),
  (283, ⟨.arr 32 5, 32, 32, [.int .u8 0, .int .u8 0, .int .u8 0, .int .u8 0, .int .u8 0, .int .u8 0, .int .u8 0, .int .u8 0, .int .u8 0, .int .u8 0, .int .u8 0, .int .u8 0, .int .u8 0, .int .u8 0, .int .u8 0, .int .u8 0, .int .u8 0, .int .u8 0, .int .u8 0, .int .u8 0, .int .u8 0, .int .u8 0, .int .u8 0, .int .u8 0, .int .u8 0, .int .u8 0, .int .u8 0, .int .u8 0, .int .u8 0, .int .u8 0, .int .u8 0, .int .u8 0]⟩),
  (284, ⟨.arr 64 5, 64, 64, [.int .u8 0, .int .u8 0, .int .u8 0, .int .u8 0, .int .u8 0, .int .u8 0, .int .u8 0, .int .u8 0, .int .u8 0, .int .u8 0, .int .u8 0, .int .u8 0, .int .u8 0, .int .u8 0, .int .u8 0, .int .u8 0, .int .u8 0, .int .u8 0, .int .u8 0, .int .u8 0, .int .u8 0, .int .u8 0, .int .u8 0, .int .u8 0, .int .u8 0, .int .u8 0, .int .u8 0, .int .u8 0, .int .u8 0, .int .u8 0, .int .u8 0, .int .u8 0, .int .u8 0, .int .u8 0, .int .u8 0, .int .u8 0, .int .u8 0, .int .u8 0, .int .u8 0, .int .u8 0, .int .u8 0, .int .u8 0, .int .u8 0, .int .u8 0, .int .u8 0, .int .u8 0, .int .u8 0, .int .u8 0, .int .u8 0, .int .u8 0, .int .u8 0, .int .u8 0, .int .u8 0, .int .u8 0, .int .u8 0, .int .u8 0, .int .u8 0, .int .u8 0, .int .u8 0, .int .u8 0, .int .u8 0, .int .u8 0, .int .u8 0, .int .u8 0]⟩),
  (285, ⟨.func, 1, 8, [.nilFunc]⟩),
  (286, ⟨.func, 1, 8, [.nilFunc]⟩),
  (287, ⟨.st [(0, 17), (1, 17), (2, 17), (3, 9)], 4, 40, [.pointer none, .pointer none, .pointer none, .string ByteArray.empty]⟩),
  (288, ⟨.st [(0, 17), (1, 17), (2, 17), (3, 9)], 4, 40, [.pointer none, .pointer none, .pointer none, .string ByteArray.empty]⟩),
  (289, ⟨.arr 0 16, 0, 0, []⟩),
  (290, ⟨.st [(0, 289)], 0, 0, []⟩),
  (291, ⟨.st [(0, 289)], 0, 0, []⟩),
  (292, ⟨.int .u8, 1, 1, [.int .u8 0]⟩),
  (293, ⟨.int .u8, 1, 1, [.int .u8 0]⟩),
  (294, ⟨.func, 1, 8, [.nilFunc]⟩),
  (295, ⟨.int .i32, 1, 4, [.int .i32 0]⟩),
  (296, ⟨.int .i32, 1, 4, [.int .i32 0]⟩),
  (297, ⟨.st [(0, 12), (1, 12), (2, 77), (3, 292), (4, 5), (5, 5), (6, 293), (7, 294), (8, 275), (9, 295), (10, 296)], 11, 48, [.int .u64 0, .int .u64 0, .int .u32 0, .int .u8 0, .int .u8 0, .int .u8 0, .int .u8 0, .nilFunc, .pointer none, .int .i32 0, .int .i32 0]⟩),
  (298, ⟨.st [(0, 12), (1, 12), (2, 77), (3, 292), (4, 5), (5, 5), (6, 293), (7, 294), (8, 275), (9, 295), (10, 296)], 11, 48, [.int .u64 0, .int .u64 0, .int .u32 0, .int .u8 0, .int .u8 0, .int .u8 0, .int .u8 0, .nilFunc, .pointer none, .int .i32 0, .int .i32 0]⟩),
  (299, ⟨.func, 1, 8, [.nilFunc]⟩),
  (300, ⟨.func, 1, 8, [.nilFunc]⟩)]
set_option maxRecDepth 100000 in
theorem tab_ok : TabOk Go.Proofs.Tryz.prog tab :=
  .cons (.mk' (z := .nilFunc) ⟨_, _, _, Go.Proofs.Tryz.underlying1⟩ (by kernel_rfl) rfl (fun h => rfl))
  (.cons (.mk' (z := .int .i64 0) Go.Proofs.Tryz.underlying2 (by kernel_rfl) rfl (fun h => rfl))
  (.cons (.mk' (z := .int .i64 0) Go.Proofs.Tryz.underlying3 (by kernel_rfl) rfl (fun h => rfl))
  (.cons (.mk' (z := .bool false) Go.Proofs.Tryz.underlying4 (by kernel_rfl) rfl (fun h => rfl))
  (.cons (.mk' (z := .int .u8 0) Go.Proofs.Tryz.underlying5 (by kernel_rfl) rfl (fun h => rfl))
  (.cons (.mk' (z := .int .u8 0) Go.Proofs.Tryz.underlying6 (by kernel_rfl) rfl (fun h => rfl))
  (.cons (.mk' (z := .agg #[.int .i64 0, .int .i64 0, .bool false, .int .u8 0]) ⟨_, Go.Proofs.Tryz.underlying7, rfl⟩ (by kernel_rfl) rfl (fun h => by cases h))
  (.cons (.mk' (z := .agg #[.int .i64 0, .int .i64 0, .bool false, .int .u8 0]) ⟨_, Go.Proofs.Tryz.underlying8, rfl⟩ (by kernel_rfl) rfl (fun h => by cases h))
  (.cons (.mk' (z := .string ByteArray.empty) Go.Proofs.Tryz.underlying9 (by kernel_rfl) rfl (fun h => rfl))
  (.cons (.mk' (z := .string ByteArray.empty) Go.Proofs.Tryz.underlying10 (by kernel_rfl) rfl (fun h => rfl))
  (.cons (.mk' (z := .string ByteArray.empty) Go.Proofs.Tryz.underlying11 (by kernel_rfl) rfl (fun h => rfl))
  (.cons (.mk' (z := .int .u64 0) Go.Proofs.Tryz.underlying12 (by kernel_rfl) rfl (fun h => rfl))
  (.cons (.mk' (z := .agg #[.string ByteArray.empty, .int .u64 0]) ⟨_, Go.Proofs.Tryz.underlying13, rfl⟩ (by kernel_rfl) rfl (fun h => by cases h))
  (.cons (.mk' (z := .agg #[.string ByteArray.empty, .int .u64 0]) ⟨_, Go.Proofs.Tryz.underlying14, rfl⟩ (by kernel_rfl) rfl (fun h => by cases h))
  (.cons (.mk' (z := .pointer none) Go.Proofs.Tryz.underlying15 (by kernel_rfl) rfl (fun h => rfl))
  (.cons (.mk' (z := .pointer none) Go.Proofs.Tryz.underlying16 (by kernel_rfl) rfl (fun h => rfl))
  (.cons (.mk' (z := .pointer none) Go.Proofs.Tryz.underlying17 (by kernel_rfl) rfl (fun h => rfl))
  (.cons (.mk' (z := .agg #[.pointer none]) ⟨_, Go.Proofs.Tryz.underlying18, rfl⟩ (by kernel_rfl) rfl (fun h => by cases h))
  (.cons (.mk' (z := .agg #[.pointer none]) ⟨_, Go.Proofs.Tryz.underlying19, rfl⟩ (by kernel_rfl) rfl (fun h => by cases h))
  (.cons (.mk' (z := .nilIface) ⟨_, Go.Proofs.Tryz.underlying20⟩ (by kernel_rfl) rfl (fun h => rfl))
  (.cons (.mk' (z := .int .i32 0) Go.Proofs.Tryz.underlying21 (by kernel_rfl) rfl (fun h => rfl))
  (.cons (.mk' (z := .nilFunc) ⟨_, _, _, Go.Proofs.Tryz.underlying22⟩ (by kernel_rfl) rfl (fun h => rfl))
  (.cons (.mk' (z := .nilIface) ⟨_, Go.Proofs.Tryz.underlying23⟩ (by kernel_rfl) rfl (fun h => rfl))
  (.cons (.mk' (z := .nilIface) ⟨_, Go.Proofs.Tryz.underlying24⟩ (by kernel_rfl) rfl (fun h => rfl))
  (.cons (.mk' (z := .nilFunc) ⟨_, _, _, Go.Proofs.Tryz.underlying25⟩ (by kernel_rfl) rfl (fun h => rfl))
  (.cons (.mk' (z := .nilFunc) ⟨_, _, _, Go.Proofs.Tryz.underlying26⟩ (by kernel_rfl) rfl (fun h => rfl))
  (.cons (.mk' (z := .nilFunc) ⟨_, _, _, Go.Proofs.Tryz.underlying28⟩ (by kernel_rfl) rfl (fun h => rfl))
  (.cons (.mk' (z := .nilFunc) ⟨_, _, _, Go.Proofs.Tryz.underlying29⟩ (by kernel_rfl) rfl (fun h => rfl))
  (.cons (.mk' (z := .int .u64 0) Go.Proofs.Tryz.underlying30 (by kernel_rfl) rfl (fun h => rfl))
  (.cons (.mk' (z := .pointer none) Go.Proofs.Tryz.underlying31 (by kernel_rfl) rfl (fun h => rfl))
  (.cons (.mk' (z := .nilFunc) ⟨_, _, _, Go.Proofs.Tryz.underlying33⟩ (by kernel_rfl) rfl (fun h => rfl))
  (.cons (.mk' (z := .nilFunc) ⟨_, _, _, Go.Proofs.Tryz.underlying34⟩ (by kernel_rfl) rfl (fun h => rfl))
  (.cons (.mk' (z := .pointer none) Go.Proofs.Tryz.underlying35 (by kernel_rfl) rfl (fun h => rfl))
  (.cons (.mk' (z := .nilFunc) ⟨_, _, _, Go.Proofs.Tryz.underlying36⟩ (by kernel_rfl) rfl (fun h => rfl))
  (.cons (.mk' (z := .nilFunc) ⟨_, _, _, Go.Proofs.Tryz.underlying37⟩ (by kernel_rfl) rfl (fun h => rfl))
  (.cons (.mk' (z := .nilFunc) ⟨_, _, _, Go.Proofs.Tryz.underlying38⟩ (by kernel_rfl) rfl (fun h => rfl))
  (.cons (.mk' (z := .slice none 0 0) Go.Proofs.Tryz.underlying39 (by kernel_rfl) rfl (fun h => rfl))
  (.cons (.mk' (z := .pointer none) Go.Proofs.Tryz.underlying40 (by kernel_rfl) rfl (fun h => rfl))
  (.cons (.mk' (z := .nilFunc) ⟨_, _, _, Go.Proofs.Tryz.underlying41⟩ (by kernel_rfl) rfl (fun h => rfl))
  (.cons (.mk' (z := .map none) Go.Proofs.Tryz.underlying42 (by kernel_rfl) rfl (fun h => rfl))
  (.cons (.mk' (z := .int .i64 0) Go.Proofs.Tryz.underlying43 (by kernel_rfl) rfl (fun h => rfl))
  (.cons (.mk' (z := .nilFunc) ⟨_, _, _, Go.Proofs.Tryz.underlying44⟩ (by kernel_rfl) rfl (fun h => rfl))
  (.cons (.mk' (z := .nilFunc) ⟨_, _, _, Go.Proofs.Tryz.underlying45⟩ (by kernel_rfl) rfl (fun h => rfl))
  (.cons (.mk' (z := .slice none 0 0) Go.Proofs.Tryz.underlying46 (by kernel_rfl) rfl (fun h => rfl))
  (.cons (.mk' (z := .nilFunc) ⟨_, _, _, Go.Proofs.Tryz.underlying47⟩ (by kernel_rfl) rfl (fun h => rfl))
  (.cons (.mk' (z := .agg #[.int .i64 0, .string ByteArray.empty]) ⟨_, Go.Proofs.Tryz.underlying48, rfl⟩ (by kernel_rfl) rfl (fun h => by cases h))
  (.cons (.mk' (z := .agg #[.int .i64 0, .string ByteArray.empty]) ⟨_, Go.Proofs.Tryz.underlying49, rfl⟩ (by kernel_rfl) rfl (fun h => by cases h))
  (.cons (.mk' (z := .slice none 0 0) Go.Proofs.Tryz.underlying50 (by kernel_rfl) rfl (fun h => rfl))
  (.cons (.mk' (z := .nilFunc) ⟨_, _, _, Go.Proofs.Tryz.underlying51⟩ (by kernel_rfl) rfl (fun h => rfl))
  (.cons (.mk' (z := .nilFunc) ⟨_, _, _, Go.Proofs.Tryz.underlying52⟩ (by kernel_rfl) rfl (fun h => rfl))
  (.cons (.mk' (z := .nilFunc) ⟨_, _, _, Go.Proofs.Tryz.underlying53⟩ (by kernel_rfl) rfl (fun h => rfl))
  (.cons (.mk' (z := .nilFunc) ⟨_, _, _, Go.Proofs.Tryz.underlying54⟩ (by kernel_rfl) rfl (fun h => rfl))
  (.cons (.mk' (z := .nilFunc) ⟨_, _, _, Go.Proofs.Tryz.underlying55⟩ (by kernel_rfl) rfl (fun h => rfl))
  (.cons (.mk' (z := .nilFunc) ⟨_, _, _, Go.Proofs.Tryz.underlying56⟩ (by kernel_rfl) rfl (fun h => rfl))
  (.cons (.mk' (z := .nilFunc) ⟨_, _, _, Go.Proofs.Tryz.underlying57⟩ (by kernel_rfl) rfl (fun h => rfl))
  (.cons (.mk' (z := .slice none 0 0) Go.Proofs.Tryz.underlying58 (by kernel_rfl) rfl (fun h => rfl))
  (.cons (.mk' (z := .nilFunc) ⟨_, _, _, Go.Proofs.Tryz.underlying60⟩ (by kernel_rfl) rfl (fun h => rfl))
  (.cons (.mk' (z := .nilFunc) ⟨_, _, _, Go.Proofs.Tryz.underlying61⟩ (by kernel_rfl) rfl (fun h => rfl))
  (.cons (.mk' (z := .pointer none) Go.Proofs.Tryz.underlying62 (by kernel_rfl) rfl (fun h => rfl))
  (.cons (.mk' (z := .nilFunc) ⟨_, _, _, Go.Proofs.Tryz.underlying63⟩ (by kernel_rfl) rfl (fun h => rfl))
  (.cons (.mk' (z := .pointer none) Go.Proofs.Tryz.underlying64 (by kernel_rfl) rfl (fun h => rfl))
  (.cons (.mk' (z := .nilFunc) ⟨_, _, _, Go.Proofs.Tryz.underlying65⟩ (by kernel_rfl) rfl (fun h => rfl))
  (.cons (.mk' (z := .nilFunc) ⟨_, _, _, Go.Proofs.Tryz.underlying66⟩ (by kernel_rfl) rfl (fun h => rfl))
  (.cons (.mk' (z := .nilFunc) ⟨_, _, _, Go.Proofs.Tryz.underlying67⟩ (by kernel_rfl) rfl (fun h => rfl))
  (.cons (.mk' (z := .nilFunc) ⟨_, _, _, Go.Proofs.Tryz.underlying68⟩ (by kernel_rfl) rfl (fun h => rfl))
  (.cons (.mk' (z := .nilFunc) ⟨_, _, _, Go.Proofs.Tryz.underlying70⟩ (by kernel_rfl) rfl (fun h => rfl))
  (.cons (.mk' (z := .agg #[.int .i64 0, .int .u64 0, .int .u64 0, .int .u64 0, .int .u64 0, .int .u64 0, .int .i64 0, .int .i64 0]) ⟨_, Go.Proofs.Tryz.underlying71, rfl⟩ (by kernel_rfl) rfl (fun h => by cases h))
  (.cons (.mk' (z := .agg #[.int .i64 0, .int .u64 0, .int .u64 0, .int .u64 0, .int .u64 0, .int .u64 0, .int .i64 0, .int .i64 0]) ⟨_, Go.Proofs.Tryz.underlying72, rfl⟩ (by kernel_rfl) rfl (fun h => by cases h))
  (.cons (.mk' (z := .nilFunc) ⟨_, _, _, Go.Proofs.Tryz.underlying74⟩ (by kernel_rfl) rfl (fun h => rfl))
  (.cons (.mk' (z := .nilFunc) ⟨_, _, _, Go.Proofs.Tryz.underlying75⟩ (by kernel_rfl) rfl (fun h => rfl))
  (.cons (.mk' (z := .nilFunc) ⟨_, _, _, Go.Proofs.Tryz.underlying76⟩ (by kernel_rfl) rfl (fun h => rfl))
  (.cons (.mk' (z := .int .u32 0) Go.Proofs.Tryz.underlying77 (by kernel_rfl) rfl (fun h => rfl))
  (.cons (.mk' (z := .agg #[.int .u8 0, .int .u8 0, .int .u8 0]) Go.Proofs.Tryz.underlying78 (by kernel_rfl) rfl (fun h => by cases h))
  (.cons (.mk' (z := .agg #[.int .i64 0, .int .i64 0, .int .i64 0, .int .i64 0, .int .i64 0, .int .i64 0, .int .i64 0, .bool false, .int .u64 0, .int .u64 0, .int .u32 0, .int .i64 0, .int .u8 0, .int .u8 0, .int .u8 0]) ⟨_, Go.Proofs.Tryz.underlying79, rfl⟩ (by kernel_rfl) rfl (fun h => by cases h))
  (.cons (.mk' (z := .agg #[.int .i64 0, .int .i64 0, .int .i64 0, .int .i64 0, .int .i64 0, .int .i64 0, .int .i64 0, .bool false, .int .u64 0, .int .u64 0, .int .u32 0, .int .i64 0, .int .u8 0, .int .u8 0, .int .u8 0]) ⟨_, Go.Proofs.Tryz.underlying80, rfl⟩ (by kernel_rfl) rfl (fun h => by cases h))
  (.cons (.mk' (z := .agg #[.int .i64 0, .int .i64 0, .int .i64 0, .int .i64 0, .int .i64 0, .int .i64 0, .int .i64 0, .bool false, .int .u64 0, .int .u64 0, .int .u32 0, .int .i64 0, .int .u8 0, .int .u8 0, .int .u8 0, .slice none 0 0, .string ByteArray.empty]) ⟨_, Go.Proofs.Tryz.underlying81, rfl⟩ (by kernel_rfl) rfl (fun h => by cases h))
  (.cons (.mk' (z := .agg #[.int .i64 0, .int .i64 0, .int .i64 0, .int .i64 0, .int .i64 0, .int .i64 0, .int .i64 0, .bool false, .int .u64 0, .int .u64 0, .int .u32 0, .int .i64 0, .int .u8 0, .int .u8 0, .int .u8 0, .slice none 0 0, .string ByteArray.empty]) ⟨_, Go.Proofs.Tryz.underlying82, rfl⟩ (by kernel_rfl) rfl (fun h => by cases h))
  (.cons (.mk' (z := .nilFunc) ⟨_, _, _, Go.Proofs.Tryz.underlying83⟩ (by kernel_rfl) rfl (fun h => rfl))
  (.cons (.mk' (z := .pointer none) Go.Proofs.Tryz.underlying84 (by kernel_rfl) rfl (fun h => rfl))
  (.cons (.mk' (z := .nilFunc) ⟨_, _, _, Go.Proofs.Tryz.underlying85⟩ (by kernel_rfl) rfl (fun h => rfl))
  (.cons (.mk' (z := .agg #[.pointer none]) ⟨_, Go.Proofs.Tryz.underlying86, rfl⟩ (by kernel_rfl) rfl (fun h => by cases h))
  (.cons (.mk' (z := .agg #[.pointer none]) ⟨_, Go.Proofs.Tryz.underlying87, rfl⟩ (by kernel_rfl) rfl (fun h => by cases h))
  (.cons (.mk' (z := .pointer none) Go.Proofs.Tryz.underlying88 (by kernel_rfl) rfl (fun h => rfl))
  (.cons (.mk' (z := .agg #[.pointer none, .pointer none, .int .u64 0]) ⟨_, Go.Proofs.Tryz.underlying89, rfl⟩ (by kernel_rfl) rfl (fun h => by cases h))
  (.cons (.mk' (z := .agg #[.pointer none, .pointer none, .int .u64 0]) ⟨_, Go.Proofs.Tryz.underlying90, rfl⟩ (by kernel_rfl) rfl (fun h => by cases h))
  (.cons (.mk' (z := .pointer none) Go.Proofs.Tryz.underlying92 (by kernel_rfl) rfl (fun h => rfl))
  (.cons (.mk' (z := .agg #[.int .u64 0, .bool false]) ⟨_, Go.Proofs.Tryz.underlying93, rfl⟩ (by kernel_rfl) rfl (fun h => by cases h))
  (.cons (.mk' (z := .agg #[.int .u64 0, .bool false]) ⟨_, Go.Proofs.Tryz.underlying94, rfl⟩ (by kernel_rfl) rfl (fun h => by cases h))
  (.cons (.mk' (z := .agg #[.int .i64 0, .int .i64 0, .int .i64 0, .int .i64 0, .pointer none, .int .u64 0, .bool false, .int .u64 0, .bool false, .bool false, .int .i64 0]) ⟨_, Go.Proofs.Tryz.underlying95, rfl⟩ (by kernel_rfl) rfl (fun h => by cases h))
  (.cons (.mk' (z := .agg #[.int .i64 0, .int .i64 0, .int .i64 0, .int .i64 0, .pointer none, .int .u64 0, .bool false, .int .u64 0, .bool false, .bool false, .int .i64 0]) ⟨_, Go.Proofs.Tryz.underlying96, rfl⟩ (by kernel_rfl) rfl (fun h => by cases h))
  (.cons (.mk' (z := .pointer none) Go.Proofs.Tryz.underlying97 (by kernel_rfl) rfl (fun h => rfl))
  (.cons (.mk' (z := .agg #[.int .u64 0, .int .u64 0, .int .u64 0, .int .i64 0, .bool false, .int .i64 0, .pointer none, .bool false, .bool false, .int .i64 0]) ⟨_, Go.Proofs.Tryz.underlying98, rfl⟩ (by kernel_rfl) rfl (fun h => by cases h))
  (.cons (.mk' (z := .agg #[.int .u64 0, .int .u64 0, .int .u64 0, .int .i64 0, .bool false, .int .i64 0, .pointer none, .bool false, .bool false, .int .i64 0]) ⟨_, Go.Proofs.Tryz.underlying99, rfl⟩ (by kernel_rfl) rfl (fun h => by cases h))
  (.cons (.mk' (z := .map none) Go.Proofs.Tryz.underlying100 (by kernel_rfl) rfl (fun h => rfl))
  (.cons (.mk' (z := .agg #[.bool false, .map none, .map none, .map none, .map none, .slice none 0 0]) ⟨_, Go.Proofs.Tryz.underlying101, rfl⟩ (by kernel_rfl) rfl (fun h => by cases h))
  (.cons (.mk' (z := .agg #[.bool false, .map none, .map none, .map none, .map none, .slice none 0 0]) ⟨_, Go.Proofs.Tryz.underlying102, rfl⟩ (by kernel_rfl) rfl (fun h => by cases h))
  (.cons (.mk' (z := .nilFunc) ⟨_, _, _, Go.Proofs.Tryz.underlying103⟩ (by kernel_rfl) rfl (fun h => rfl))
  (.cons (.mk' (z := .nilFunc) ⟨_, _, _, Go.Proofs.Tryz.underlying104⟩ (by kernel_rfl) rfl (fun h => rfl))
  (.cons (.mk' (z := .nilFunc) ⟨_, _, _, Go.Proofs.Tryz.underlying105⟩ (by kernel_rfl) rfl (fun h => rfl))
  (.cons (.mk' (z := .nilFunc) ⟨_, _, _, Go.Proofs.Tryz.underlying106⟩ (by kernel_rfl) rfl (fun h => rfl))
  (.cons (.mk' (z := .nilFunc) ⟨_, _, _, Go.Proofs.Tryz.underlying108⟩ (by kernel_rfl) rfl (fun h => rfl))
  (.cons (.mk' (z := .nilFunc) ⟨_, _, _, Go.Proofs.Tryz.underlying110⟩ (by kernel_rfl) rfl (fun h => rfl))
  (.cons (.mk' (z := .nilFunc) ⟨_, _, _, Go.Proofs.Tryz.underlying111⟩ (by kernel_rfl) rfl (fun h => rfl))
  (.cons (.mk' (z := .nilFunc) ⟨_, _, _, Go.Proofs.Tryz.underlying112⟩ (by kernel_rfl) rfl (fun h => rfl))
  (.cons (.mk' (z := .nilFunc) ⟨_, _, _, Go.Proofs.Tryz.underlying114⟩ (by kernel_rfl) rfl (fun h => rfl))
  (.cons (.mk' (z := .nilFunc) ⟨_, _, _, Go.Proofs.Tryz.underlying115⟩ (by kernel_rfl) rfl (fun h => rfl))
  (.cons (.mk' (z := .agg #[.int .u64 0, .int .u64 0, .int .u64 0, .int .u64 0, .int .i64 0]) ⟨_, Go.Proofs.Tryz.underlying116, rfl⟩ (by kernel_rfl) rfl (fun h => by cases h))
  (.cons (.mk' (z := .agg #[.int .u64 0, .int .u64 0, .int .u64 0, .int .u64 0, .int .i64 0]) ⟨_, Go.Proofs.Tryz.underlying117, rfl⟩ (by kernel_rfl) rfl (fun h => by cases h))
  (.cons (.mk' (z := .slice none 0 0) Go.Proofs.Tryz.underlying118 (by kernel_rfl) rfl (fun h => rfl))
  (.cons (.mk' (z := .agg #[.slice none 0 0, .int .i64 0]) ⟨_, Go.Proofs.Tryz.underlying119, rfl⟩ (by kernel_rfl) rfl (fun h => by cases h))
  (.cons (.mk' (z := .agg #[.slice none 0 0, .int .i64 0]) ⟨_, Go.Proofs.Tryz.underlying120, rfl⟩ (by kernel_rfl) rfl (fun h => by cases h))
  (.cons (.mk' (z := .nilFunc) ⟨_, _, _, Go.Proofs.Tryz.underlying121⟩ (by kernel_rfl) rfl (fun h => rfl))
  (.cons (.mk' (z := .nilFunc) ⟨_, _, _, Go.Proofs.Tryz.underlying123⟩ (by kernel_rfl) rfl (fun h => rfl))
  (.cons (.mk' (z := .nilFunc) ⟨_, _, _, Go.Proofs.Tryz.underlying124⟩ (by kernel_rfl) rfl (fun h => rfl))
  (.cons (.mk' (z := .nilFunc) ⟨_, _, _, Go.Proofs.Tryz.underlying125⟩ (by kernel_rfl) rfl (fun h => rfl))
  (.cons (.mk' (z := .nilFunc) ⟨_, _, _, Go.Proofs.Tryz.underlying126⟩ (by kernel_rfl) rfl (fun h => rfl))
  (.cons (.mk' (z := .nilFunc) ⟨_, _, _, Go.Proofs.Tryz.underlying127⟩ (by kernel_rfl) rfl (fun h => rfl))
  (.cons (.mk' (z := .nilFunc) ⟨_, _, _, Go.Proofs.Tryz.underlying128⟩ (by kernel_rfl) rfl (fun h => rfl))
  (.cons (.mk' (z := .nilFunc) ⟨_, _, _, Go.Proofs.Tryz.underlying129⟩ (by kernel_rfl) rfl (fun h => rfl))
  (.cons (.mk' (z := .nilFunc) ⟨_, _, _, Go.Proofs.Tryz.underlying130⟩ (by kernel_rfl) rfl (fun h => rfl))
  (.cons (.mk' (z := .nilFunc) ⟨_, _, _, Go.Proofs.Tryz.underlying131⟩ (by kernel_rfl) rfl (fun h => rfl))
  (.cons (.mk' (z := .nilFunc) ⟨_, _, _, Go.Proofs.Tryz.underlying132⟩ (by kernel_rfl) rfl (fun h => rfl))
  (.cons (.mk' (z := .nilFunc) ⟨_, _, _, Go.Proofs.Tryz.underlying133⟩ (by kernel_rfl) rfl (fun h => rfl))
  (.cons (.mk' (z := .slice none 0 0) Go.Proofs.Tryz.underlying134 (by kernel_rfl) rfl (fun h => rfl))
  (.cons (.mk' (z := .nilFunc) ⟨_, _, _, Go.Proofs.Tryz.underlying135⟩ (by kernel_rfl) rfl (fun h => rfl))
  (.cons (.mk' (z := .pointer none) Go.Proofs.Tryz.underlying136 (by kernel_rfl) rfl (fun h => rfl))
  (.cons (.mk' (z := .nilFunc) ⟨_, _, _, Go.Proofs.Tryz.underlying137⟩ (by kernel_rfl) rfl (fun h => rfl))
  (.cons (.mk' (z := .pointer none) Go.Proofs.Tryz.underlying138 (by kernel_rfl) rfl (fun h => rfl))
  (.cons (.mk' (z := .nilFunc) ⟨_, _, _, Go.Proofs.Tryz.underlying139⟩ (by kernel_rfl) rfl (fun h => rfl))
  (.cons (.mk' (z := .pointer none) Go.Proofs.Tryz.underlying140 (by kernel_rfl) rfl (fun h => rfl))
  (.cons (.mk' (z := .nilFunc) ⟨_, _, _, Go.Proofs.Tryz.underlying141⟩ (by kernel_rfl) rfl (fun h => rfl))
  (.cons (.mk' (z := .nilFunc) ⟨_, _, _, Go.Proofs.Tryz.underlying142⟩ (by kernel_rfl) rfl (fun h => rfl))
  (.cons (.mk' (z := .slice none 0 0) Go.Proofs.Tryz.underlying143 (by kernel_rfl) rfl (fun h => rfl))
  (.cons (.mk' (z := .nilFunc) ⟨_, _, _, Go.Proofs.Tryz.underlying144⟩ (by kernel_rfl) rfl (fun h => rfl))
  (.cons (.mk' (z := .nilFunc) ⟨_, _, _, Go.Proofs.Tryz.underlying145⟩ (by kernel_rfl) rfl (fun h => rfl))
  (.cons (.mk' (z := .agg #[.slice none 0 0, .slice none 0 0, .slice none 0 0, .int .i64 0, .int .i64 0]) ⟨_, Go.Proofs.Tryz.underlying146, rfl⟩ (by kernel_rfl) rfl (fun h => by cases h))
  (.cons (.mk' (z := .agg #[.slice none 0 0, .slice none 0 0, .slice none 0 0, .int .i64 0, .int .i64 0]) ⟨_, Go.Proofs.Tryz.underlying147, rfl⟩ (by kernel_rfl) rfl (fun h => by cases h))
  (.cons (.mk' (z := .nilFunc) ⟨_, _, _, Go.Proofs.Tryz.underlying148⟩ (by kernel_rfl) rfl (fun h => rfl))
  (.cons (.mk' (z := .nilFunc) ⟨_, _, _, Go.Proofs.Tryz.underlying149⟩ (by kernel_rfl) rfl (fun h => rfl))
  (.cons (.mk' (z := .nilFunc) ⟨_, _, _, Go.Proofs.Tryz.underlying151⟩ (by kernel_rfl) rfl (fun h => rfl))
  (.cons (.mk' (z := .nilFunc) ⟨_, _, _, Go.Proofs.Tryz.underlying153⟩ (by kernel_rfl) rfl (fun h => rfl))
  (.cons (.mk' (z := .agg #[.int .i64 0, .int .i64 0]) ⟨_, Go.Proofs.Tryz.underlying154, rfl⟩ (by kernel_rfl) rfl (fun h => by cases h))
  (.cons (.mk' (z := .agg #[.int .i64 0, .int .i64 0]) ⟨_, Go.Proofs.Tryz.underlying155, rfl⟩ (by kernel_rfl) rfl (fun h => by cases h))
  (.cons (.mk' (z := .nilFunc) ⟨_, _, _, Go.Proofs.Tryz.underlying156⟩ (by kernel_rfl) rfl (fun h => rfl))
  (.cons (.mk' (z := .nilFunc) ⟨_, _, _, Go.Proofs.Tryz.underlying157⟩ (by kernel_rfl) rfl (fun h => rfl))
  (.cons (.mk' (z := .nilFunc) ⟨_, _, _, Go.Proofs.Tryz.underlying158⟩ (by kernel_rfl) rfl (fun h => rfl))
  (.cons (.mk' (z := .agg #[.int .i64 0, .int .u64 0]) ⟨_, Go.Proofs.Tryz.underlying159, rfl⟩ (by kernel_rfl) rfl (fun h => by cases h))
  (.cons (.mk' (z := .agg #[.int .i64 0, .int .u64 0]) ⟨_, Go.Proofs.Tryz.underlying160, rfl⟩ (by kernel_rfl) rfl (fun h => by cases h))
  (.cons (.mk' (z := .slice none 0 0) Go.Proofs.Tryz.underlying161 (by kernel_rfl) rfl (fun h => rfl))
  (.cons (.mk' (z := .agg #[.slice none 0 0]) ⟨_, Go.Proofs.Tryz.underlying162, rfl⟩ (by kernel_rfl) rfl (fun h => by cases h))
  (.cons (.mk' (z := .agg #[.slice none 0 0]) ⟨_, Go.Proofs.Tryz.underlying163, rfl⟩ (by kernel_rfl) rfl (fun h => by cases h))
  (.cons (.mk' (z := .agg #[.bool false, .int .i64 0, .int .i64 0, .int .i64 0]) ⟨_, Go.Proofs.Tryz.underlying164, rfl⟩ (by kernel_rfl) rfl (fun h => by cases h))
  (.cons (.mk' (z := .agg #[.bool false, .int .i64 0, .int .i64 0, .int .i64 0]) ⟨_, Go.Proofs.Tryz.underlying165, rfl⟩ (by kernel_rfl) rfl (fun h => by cases h))
  (.cons (.mk' (z := .int .u64 0) Go.Proofs.Tryz.underlying166 (by kernel_rfl) rfl (fun h => rfl))
  (.cons (.mk' (z := .nilFunc) ⟨_, _, _, Go.Proofs.Tryz.underlying167⟩ (by kernel_rfl) rfl (fun h => rfl))
  (.cons (.mk' (z := .nilFunc) ⟨_, _, _, Go.Proofs.Tryz.underlying168⟩ (by kernel_rfl) rfl (fun h => rfl))
  (.cons (.mk' (z := .nilFunc) ⟨_, _, _, Go.Proofs.Tryz.underlying169⟩ (by kernel_rfl) rfl (fun h => rfl))
  (.cons (.mk' (z := .map none) Go.Proofs.Tryz.underlying170 (by kernel_rfl) rfl (fun h => rfl))
  (.cons (.mk' (z := .agg #[.map none, .int .u64 0, .bool false, .int .u64 0, .bool false]) ⟨_, Go.Proofs.Tryz.underlying171, rfl⟩ (by kernel_rfl) rfl (fun h => by cases h))
  (.cons (.mk' (z := .agg #[.map none, .int .u64 0, .bool false, .int .u64 0, .bool false]) ⟨_, Go.Proofs.Tryz.underlying172, rfl⟩ (by kernel_rfl) rfl (fun h => by cases h))
  (.cons (.mk' (z := .slice none 0 0) Go.Proofs.Tryz.underlying173 (by kernel_rfl) rfl (fun h => rfl))
  (.cons (.mk' (z := .agg #[.slice none 0 0, .int .u64 0, .bool false]) ⟨_, Go.Proofs.Tryz.underlying174, rfl⟩ (by kernel_rfl) rfl (fun h => by cases h))
  (.cons (.mk' (z := .agg #[.slice none 0 0, .int .u64 0, .bool false]) ⟨_, Go.Proofs.Tryz.underlying175, rfl⟩ (by kernel_rfl) rfl (fun h => by cases h))
  (.cons (.mk' (z := .map none) Go.Proofs.Tryz.underlying176 (by kernel_rfl) rfl (fun h => rfl))
  (.cons (.mk' (z := .map none) Go.Proofs.Tryz.underlying177 (by kernel_rfl) rfl (fun h => rfl))
  (.cons (.mk' (z := .agg #[.int .i64 0, .bool false, .int .i64 0, .int .u64 0, .int .u64 0, .map none, .map none, .int .i64 0, .bool false, .int .i64 0, .int .u64 0, .slice none 0 0, .int .u64 0, .int .i64 0]) ⟨_, Go.Proofs.Tryz.underlying178, rfl⟩ (by kernel_rfl) rfl (fun h => by cases h))
  (.cons (.mk' (z := .agg #[.int .i64 0, .bool false, .int .i64 0, .int .u64 0, .int .u64 0, .map none, .map none, .int .i64 0, .bool false, .int .i64 0, .int .u64 0, .slice none 0 0, .int .u64 0, .int .i64 0]) ⟨_, Go.Proofs.Tryz.underlying179, rfl⟩ (by kernel_rfl) rfl (fun h => by cases h))
  (.cons (.mk' (z := .nilFunc) ⟨_, _, _, Go.Proofs.Tryz.underlying180⟩ (by kernel_rfl) rfl (fun h => rfl))
  (.cons (.mk' (z := .nilFunc) ⟨_, _, _, Go.Proofs.Tryz.underlying181⟩ (by kernel_rfl) rfl (fun h => rfl))
  (.cons (.mk' (z := .nilFunc) ⟨_, _, _, Go.Proofs.Tryz.underlying182⟩ (by kernel_rfl) rfl (fun h => rfl))
  (.cons (.mk' (z := .agg #[.int .u64 0, .int .i64 0, .int .i64 0]) ⟨_, Go.Proofs.Tryz.underlying183, rfl⟩ (by kernel_rfl) rfl (fun h => by cases h))
  (.cons (.mk' (z := .agg #[.int .u64 0, .int .i64 0, .int .i64 0]) ⟨_, Go.Proofs.Tryz.underlying184, rfl⟩ (by kernel_rfl) rfl (fun h => by cases h))
  (.cons (.mk' (z := .nilFunc) ⟨_, _, _, Go.Proofs.Tryz.underlying185⟩ (by kernel_rfl) rfl (fun h => rfl))
  (.cons (.mk' (z := .nilFunc) ⟨_, _, _, Go.Proofs.Tryz.underlying186⟩ (by kernel_rfl) rfl (fun h => rfl))
  (.cons (.mk' (z := .pointer none) Go.Proofs.Tryz.underlying187 (by kernel_rfl) rfl (fun h => rfl))
  (.cons (.mk' (z := .nilFunc) ⟨_, _, _, Go.Proofs.Tryz.underlying188⟩ (by kernel_rfl) rfl (fun h => rfl))
  (.cons (.mk' (z := .nilFunc) ⟨_, _, _, Go.Proofs.Tryz.underlying189⟩ (by kernel_rfl) rfl (fun h => rfl))
  (.cons (.mk' (z := .nilFunc) ⟨_, _, _, Go.Proofs.Tryz.underlying190⟩ (by kernel_rfl) rfl (fun h => rfl))
  (.cons (.mk' (z := .nilFunc) ⟨_, _, _, Go.Proofs.Tryz.underlying191⟩ (by kernel_rfl) rfl (fun h => rfl))
  (.cons (.mk' (z := .nilFunc) ⟨_, _, _, Go.Proofs.Tryz.underlying192⟩ (by kernel_rfl) rfl (fun h => rfl))
  (.cons (.mk' (z := .nilFunc) ⟨_, _, _, Go.Proofs.Tryz.underlying193⟩ (by kernel_rfl) rfl (fun h => rfl))
  (.cons (.mk' (z := .nilFunc) ⟨_, _, _, Go.Proofs.Tryz.underlying194⟩ (by kernel_rfl) rfl (fun h => rfl))
  (.cons (.mk' (z := .slice none 0 0) Go.Proofs.Tryz.underlying195 (by kernel_rfl) rfl (fun h => rfl))
  (.cons (.mk' (z := .nilFunc) ⟨_, _, _, Go.Proofs.Tryz.underlying197⟩ (by kernel_rfl) rfl (fun h => rfl))
  (.cons (.mk' (z := .nilFunc) ⟨_, _, _, Go.Proofs.Tryz.underlying199⟩ (by kernel_rfl) rfl (fun h => rfl))
  (.cons (.mk' (z := .nilFunc) ⟨_, _, _, Go.Proofs.Tryz.underlying201⟩ (by kernel_rfl) rfl (fun h => rfl))
  (.cons (.mk' (z := .nilFunc) ⟨_, _, _, Go.Proofs.Tryz.underlying203⟩ (by kernel_rfl) rfl (fun h => rfl))
  (.cons (.mk' (z := .nilFunc) ⟨_, _, _, Go.Proofs.Tryz.underlying204⟩ (by kernel_rfl) rfl (fun h => rfl))
  (.cons (.mk' (z := .nilFunc) ⟨_, _, _, Go.Proofs.Tryz.underlying205⟩ (by kernel_rfl) rfl (fun h => rfl))
  (.cons (.mk' (z := .nilFunc) ⟨_, _, _, Go.Proofs.Tryz.underlying206⟩ (by kernel_rfl) rfl (fun h => rfl))
  (.cons (.mk' (z := .nilFunc) ⟨_, _, _, Go.Proofs.Tryz.underlying207⟩ (by kernel_rfl) rfl (fun h => rfl))
  (.cons (.mk' (z := .nilFunc) ⟨_, _, _, Go.Proofs.Tryz.underlying209⟩ (by kernel_rfl) rfl (fun h => rfl))
  (.cons (.mk' (z := .nilFunc) ⟨_, _, _, Go.Proofs.Tryz.underlying210⟩ (by kernel_rfl) rfl (fun h => rfl))
  (.cons (.mk' (z := .nilFunc) ⟨_, _, _, Go.Proofs.Tryz.underlying211⟩ (by kernel_rfl) rfl (fun h => rfl))
  (.cons (.mk' (z := .nilIface) ⟨_, Go.Proofs.Tryz.underlying212⟩ (by kernel_rfl) rfl (fun h => rfl))
  (.cons (.mk' (z := .nilIface) ⟨_, Go.Proofs.Tryz.underlying213⟩ (by kernel_rfl) rfl (fun h => rfl))
  (.cons (.mk' (z := .nilFunc) ⟨_, _, _, Go.Proofs.Tryz.underlying214⟩ (by kernel_rfl) rfl (fun h => rfl))
  (.cons (.mk' (z := .nilFunc) ⟨_, _, _, Go.Proofs.Tryz.underlying215⟩ (by kernel_rfl) rfl (fun h => rfl))
  (.cons (.mk' (z := .nilFunc) ⟨_, _, _, Go.Proofs.Tryz.underlying216⟩ (by kernel_rfl) rfl (fun h => rfl))
  (.cons (.mk' (z := .nilFunc) ⟨_, _, _, Go.Proofs.Tryz.underlying217⟩ (by kernel_rfl) rfl (fun h => rfl))
  (.cons (.mk' (z := .nilFunc) ⟨_, _, _, Go.Proofs.Tryz.underlying218⟩ (by kernel_rfl) rfl (fun h => rfl))
  (.cons (.mk' (z := .nilFunc) ⟨_, _, _, Go.Proofs.Tryz.underlying219⟩ (by kernel_rfl) rfl (fun h => rfl))
  (.cons (.mk' (z := .nilFunc) ⟨_, _, _, Go.Proofs.Tryz.underlying220⟩ (by kernel_rfl) rfl (fun h => rfl))
  (.cons (.mk' (z := .nilFunc) ⟨_, _, _, Go.Proofs.Tryz.underlying222⟩ (by kernel_rfl) rfl (fun h => rfl))
  (.cons (.mk' (z := .nilFunc) ⟨_, _, _, Go.Proofs.Tryz.underlying224⟩ (by kernel_rfl) rfl (fun h => rfl))
  (.cons (.mk' (z := .nilFunc) ⟨_, _, _, Go.Proofs.Tryz.underlying225⟩ (by kernel_rfl) rfl (fun h => rfl))
  (.cons (.mk' (z := .nilFunc) ⟨_, _, _, Go.Proofs.Tryz.underlying226⟩ (by kernel_rfl) rfl (fun h => rfl))
  (.cons (.mk' (z := .nilFunc) ⟨_, _, _, Go.Proofs.Tryz.underlying227⟩ (by kernel_rfl) rfl (fun h => rfl))
  (.cons (.mk' (z := .nilFunc) ⟨_, _, _, Go.Proofs.Tryz.underlying228⟩ (by kernel_rfl) rfl (fun h => rfl))
  (.cons (.mk' (z := .nilFunc) ⟨_, _, _, Go.Proofs.Tryz.underlying230⟩ (by kernel_rfl) rfl (fun h => rfl))
  (.cons (.mk' (z := .nilFunc) ⟨_, _, _, Go.Proofs.Tryz.underlying231⟩ (by kernel_rfl) rfl (fun h => rfl))
  (.cons (.mk' (z := .nilFunc) ⟨_, _, _, Go.Proofs.Tryz.underlying232⟩ (by kernel_rfl) rfl (fun h => rfl))
  (.cons (.mk' (z := .nilFunc) ⟨_, _, _, Go.Proofs.Tryz.underlying233⟩ (by kernel_rfl) rfl (fun h => rfl))
  (.cons (.mk' (z := .nilFunc) ⟨_, _, _, Go.Proofs.Tryz.underlying234⟩ (by kernel_rfl) rfl (fun h => rfl))
  (.cons (.mk' (z := .nilFunc) ⟨_, _, _, Go.Proofs.Tryz.underlying236⟩ (by kernel_rfl) rfl (fun h => rfl))
  (.cons (.mk' (z := .nilFunc) ⟨_, _, _, Go.Proofs.Tryz.underlying237⟩ (by kernel_rfl) rfl (fun h => rfl))
  (.cons (.mk' (z := .nilFunc) ⟨_, _, _, Go.Proofs.Tryz.underlying239⟩ (by kernel_rfl) rfl (fun h => rfl))
  (.cons (.mk' (z := .nilFunc) ⟨_, _, _, Go.Proofs.Tryz.underlying240⟩ (by kernel_rfl) rfl (fun h => rfl))
  (.cons (.mk' (z := .agg #[.bool false, .bool false, .bool false, .bool false, .bool false, .bool false, .bool false, .bool false, .bool false, .bool false, .bool false, .bool false, .bool false, .bool false, .bool false, .bool false, .bool false, .bool false, .bool false, .bool false, .bool false, .bool false, .bool false, .bool false, .bool false, .bool false, .bool false, .bool false, .bool false, .bool false, .bool false, .bool false, .bool false, .bool false, .bool false, .bool false, .bool false, .bool false, .bool false, .bool false, .bool false, .bool false, .bool false, .bool false, .bool false, .bool false, .bool false, .bool false, .bool false, .bool false, .bool false, .bool false, .bool false, .bool false, .bool false, .bool false, .bool false, .bool false, .bool false, .bool false, .bool false, .bool false, .bool false, .bool false, .bool false, .bool false, .bool false, .bool false, .bool false, .bool false, .bool false, .bool false, .bool false, .bool false, .bool false, .bool false, .bool false, .bool false, .bool false, .bool false, .bool false, .bool false, .bool false, .bool false, .bool false, .bool false, .bool false, .bool false, .bool false, .bool false, .bool false, .bool false, .bool false, .bool false, .bool false, .bool false, .bool false, .bool false, .bool false, .bool false, .bool false, .bool false, .bool false, .bool false, .bool false, .bool false, .bool false, .bool false, .bool false, .bool false, .bool false, .bool false, .bool false, .bool false, .bool false, .bool false, .bool false, .bool false, .bool false, .bool false, .bool false, .bool false, .bool false, .bool false, .bool false, .bool false, .bool false, .bool false, .bool false, .bool false, .bool false, .bool false, .bool false, .bool false, .bool false, .bool false, .bool false, .bool false, .bool false, .bool false, .bool false, .bool false, .bool false, .bool false, .bool false, .bool false, .bool false, .bool false, .bool false, .bool false, .bool false, .bool false, .bool false, .bool false, .bool false, .bool false, .bool false, .bool false, .bool false, .bool false, .bool false, .bool false, .bool false, .bool false, .bool false, .bool false, .bool false, .bool false, .bool false, .bool false, .bool false, .bool false, .bool false, .bool false, .bool false, .bool false, .bool false, .bool false, .bool false, .bool false, .bool false, .bool false, .bool false, .bool false, .bool false, .bool false, .bool false, .bool false, .bool false, .bool false, .bool false, .bool false, .bool false, .bool false, .bool false, .bool false, .bool false, .bool false, .bool false, .bool false, .bool false, .bool false, .bool false, .bool false, .bool false, .bool false, .bool false, .bool false, .bool false, .bool false, .bool false, .bool false, .bool false, .bool false, .bool false, .bool false, .bool false, .bool false, .bool false, .bool false, .bool false, .bool false, .bool false, .bool false, .bool false, .bool false, .bool false, .bool false, .bool false, .bool false, .bool false, .bool false, .bool false, .bool false, .bool false, .bool false, .bool false, .bool false, .bool false, .bool false, .bool false, .bool false, .bool false, .bool false, .bool false, .bool false, .bool false, .bool false, .bool false, .bool false, .bool false, .bool false, .bool false, .bool false, .bool false, .bool false]) Go.Proofs.Tryz.underlying241 (by kernel_rfl) rfl (fun h => by cases h))
  (.cons (.mk' (z := .agg #[.bool false, .bool false, .bool false, .bool false, .bool false, .bool false, .bool false, .bool false, .bool false, .bool false, .bool false, .bool false, .bool false, .bool false, .bool false, .bool false, .bool false, .bool false, .bool false, .bool false, .bool false, .bool false, .bool false, .bool false, .bool false, .bool false, .bool false, .bool false, .bool false, .bool false, .bool false, .bool false, .bool false, .bool false, .bool false, .bool false, .bool false, .bool false, .bool false, .bool false, .bool false, .bool false, .bool false, .bool false, .bool false, .bool false, .bool false, .bool false, .bool false, .bool false, .bool false, .bool false, .bool false, .bool false, .bool false, .bool false, .bool false, .bool false, .bool false, .bool false, .bool false, .bool false, .bool false, .bool false, .bool false, .bool false, .bool false, .bool false, .bool false, .bool false, .bool false, .bool false, .bool false, .bool false, .bool false, .bool false, .bool false, .bool false, .bool false, .bool false, .bool false, .bool false, .bool false, .bool false, .bool false, .bool false, .bool false, .bool false, .bool false, .bool false, .bool false, .bool false, .bool false, .bool false, .bool false, .bool false, .bool false, .bool false, .bool false, .bool false, .bool false, .bool false, .bool false, .bool false, .bool false, .bool false, .bool false, .bool false, .bool false, .bool false, .bool false, .bool false, .bool false, .bool false, .bool false, .bool false, .bool false, .bool false, .bool false, .bool false, .bool false, .bool false, .bool false, .bool false, .bool false, .bool false, .bool false, .bool false, .bool false, .bool false, .bool false, .bool false, .bool false, .bool false, .bool false, .bool false, .bool false, .bool false, .bool false, .bool false, .bool false, .bool false, .bool false, .bool false, .bool false, .bool false, .bool false, .bool false, .bool false, .bool false, .bool false, .bool false, .bool false, .bool false, .bool false, .bool false, .bool false, .bool false, .bool false, .bool false, .bool false, .bool false, .bool false, .bool false, .bool false, .bool false, .bool false, .bool false, .bool false, .bool false, .bool false, .bool false, .bool false, .bool false, .bool false, .bool false, .bool false, .bool false, .bool false, .bool false, .bool false, .bool false, .bool false, .bool false, .bool false, .bool false, .bool false, .bool false, .bool false, .bool false, .bool false, .bool false, .bool false, .bool false, .bool false, .bool false, .bool false, .bool false, .bool false, .bool false, .bool false, .bool false, .bool false, .bool false, .bool false, .bool false, .bool false, .bool false, .bool false, .bool false, .bool false, .bool false, .bool false, .bool false, .bool false, .bool false, .bool false, .bool false, .bool false, .bool false, .bool false, .bool false, .bool false, .bool false, .bool false, .bool false, .bool false, .bool false, .bool false, .bool false, .bool false, .bool false, .bool false, .bool false, .bool false, .bool false, .bool false, .bool false, .bool false, .bool false, .bool false, .bool false, .bool false, .bool false, .bool false, .bool false, .bool false, .bool false, .bool false, .bool false, .bool false, .bool false, .bool false, .bool false, .bool false, .bool false]) Go.Proofs.Tryz.underlying242 (by kernel_rfl) rfl (fun h => by cases h))
  (.cons (.mk' (z := .nilFunc) ⟨_, _, _, Go.Proofs.Tryz.underlying244⟩ (by kernel_rfl) rfl (fun h => rfl))
  (.cons (.mk' (z := .nilFunc) ⟨_, _, _, Go.Proofs.Tryz.underlying245⟩ (by kernel_rfl) rfl (fun h => rfl))
  (.cons (.mk' (z := .pointer none) Go.Proofs.Tryz.underlying246 (by kernel_rfl) rfl (fun h => rfl))
  (.cons (.mk' (z := .nilFunc) ⟨_, _, _, Go.Proofs.Tryz.underlying247⟩ (by kernel_rfl) rfl (fun h => rfl))
  (.cons (.mk' (z := .nilFunc) ⟨_, _, _, Go.Proofs.Tryz.underlying248⟩ (by kernel_rfl) rfl (fun h => rfl))
  (.cons (.mk' (z := .nilFunc) ⟨_, _, _, Go.Proofs.Tryz.underlying249⟩ (by kernel_rfl) rfl (fun h => rfl))
  (.cons (.mk' (z := .nilFunc) ⟨_, _, _, Go.Proofs.Tryz.underlying251⟩ (by kernel_rfl) rfl (fun h => rfl))
  (.cons (.mk' (z := .nilFunc) ⟨_, _, _, Go.Proofs.Tryz.underlying252⟩ (by kernel_rfl) rfl (fun h => rfl))
  (.cons (.mk' (z := .agg #[.int .u8 0, .int .u8 0, .int .u8 0, .int .u8 0, .int .u8 0, .int .u8 0, .int .u8 0, .int .u8 0, .int .u8 0, .int .u8 0, .int .u8 0, .int .u8 0, .int .u8 0, .int .u8 0, .int .u8 0, .int .u8 0, .int .u8 0, .int .u8 0, .int .u8 0, .int .u8 0, .int .u8 0, .int .u8 0, .int .u8 0, .int .u8 0]) Go.Proofs.Tryz.underlying253 (by kernel_rfl) rfl (fun h => by cases h))
  (.cons (.mk' (z := .nilFunc) ⟨_, _, _, Go.Proofs.Tryz.underlying254⟩ (by kernel_rfl) rfl (fun h => rfl))
  (.cons (.mk' (z := .nilFunc) ⟨_, _, _, Go.Proofs.Tryz.underlying256⟩ (by kernel_rfl) rfl (fun h => rfl))
  (.cons (.mk' (z := .int .i64 0) Go.Proofs.Tryz.underlying257 (by kernel_rfl) rfl (fun h => rfl))
  (.cons (.mk' (z := .nilFunc) ⟨_, _, _, Go.Proofs.Tryz.underlying258⟩ (by kernel_rfl) rfl (fun h => rfl))
  (.cons (.mk' (z := .nilFunc) ⟨_, _, _, Go.Proofs.Tryz.underlying259⟩ (by kernel_rfl) rfl (fun h => rfl))
  (.cons (.mk' (z := .pointer none) Go.Proofs.Tryz.underlying260 (by kernel_rfl) rfl (fun h => rfl))
  (.cons (.mk' (z := .nilFunc) ⟨_, _, _, Go.Proofs.Tryz.underlying261⟩ (by kernel_rfl) rfl (fun h => rfl))
  (.cons (.mk' (z := .nilFunc) ⟨_, _, _, Go.Proofs.Tryz.underlying262⟩ (by kernel_rfl) rfl (fun h => rfl))
  (.cons (.mk' (z := .nilFunc) ⟨_, _, _, Go.Proofs.Tryz.underlying263⟩ (by kernel_rfl) rfl (fun h => rfl))
  (.cons (.mk' (z := .nilFunc) ⟨_, _, _, Go.Proofs.Tryz.underlying264⟩ (by kernel_rfl) rfl (fun h => rfl))
  (.cons (.mk' (z := .nilFunc) ⟨_, _, _, Go.Proofs.Tryz.underlying265⟩ (by kernel_rfl) rfl (fun h => rfl))
  (.cons (.mk' (z := .agg #[.int .u64 0, .int .u64 0, .int .u64 0, .int .u64 0, .int .u64 0, .int .u64 0, .int .u64 0, .int .u64 0, .int .u64 0, .int .u64 0, .int .u64 0, .int .u64 0, .int .u64 0, .int .u64 0, .int .u64 0, .int .u64 0, .int .u64 0, .int .u64 0, .int .u64 0, .int .u64 0]) Go.Proofs.Tryz.underlying266 (by kernel_rfl) rfl (fun h => by cases h))
  (.cons (.mk' (z := .agg #[.int .u8 0, .int .u8 0, .int .u8 0, .int .u8 0, .int .u8 0, .int .u8 0, .int .u8 0, .int .u8 0, .int .u8 0, .int .u8 0, .int .u8 0, .int .u8 0, .int .u8 0, .int .u8 0, .int .u8 0, .int .u8 0, .int .u8 0, .int .u8 0, .int .u8 0, .int .u8 0, .int .u8 0, .int .u8 0, .int .u8 0, .int .u8 0, .int .u8 0, .int .u8 0, .int .u8 0, .int .u8 0, .int .u8 0, .int .u8 0, .int .u8 0, .int .u8 0, .int .u8 0, .int .u8 0, .int .u8 0, .int .u8 0, .int .u8 0, .int .u8 0, .int .u8 0, .int .u8 0, .int .u8 0, .int .u8 0, .int .u8 0, .int .u8 0, .int .u8 0, .int .u8 0, .int .u8 0, .int .u8 0, .int .u8 0, .int .u8 0, .int .u8 0, .int .u8 0, .int .u8 0, .int .u8 0, .int .u8 0, .int .u8 0, .int .u8 0, .int .u8 0, .int .u8 0, .int .u8 0, .int .u8 0, .int .u8 0, .int .u8 0, .int .u8 0, .int .u8 0]) Go.Proofs.Tryz.underlying267 (by kernel_rfl) rfl (fun h => by cases h))
  (.cons (.mk' (z := .nilFunc) ⟨_, _, _, Go.Proofs.Tryz.underlying268⟩ (by kernel_rfl) rfl (fun h => rfl))
  (.cons (.mk' (z := .nilFunc) ⟨_, _, _, Go.Proofs.Tryz.underlying269⟩ (by kernel_rfl) rfl (fun h => rfl))
  (.cons (.mk' (z := .agg #[.string ByteArray.empty, .string ByteArray.empty, .nilIface]) ⟨_, Go.Proofs.Tryz.underlying270, rfl⟩ (by kernel_rfl) rfl (fun h => by cases h))
  (.cons (.mk' (z := .agg #[.string ByteArray.empty, .string ByteArray.empty, .nilIface]) ⟨_, Go.Proofs.Tryz.underlying271, rfl⟩ (by kernel_rfl) rfl (fun h => by cases h))
  (.cons (.mk' (z := .nilFunc) ⟨_, _, _, Go.Proofs.Tryz.underlying272⟩ (by kernel_rfl) rfl (fun h => rfl))
  (.cons (.mk' (z := .nilFunc) ⟨_, _, _, Go.Proofs.Tryz.underlying273⟩ (by kernel_rfl) rfl (fun h => rfl))
  (.cons (.mk' (z := .nilFunc) ⟨_, _, _, Go.Proofs.Tryz.underlying274⟩ (by kernel_rfl) rfl (fun h => rfl))
  (.cons (.mk' (z := .pointer none) Go.Proofs.Tryz.underlying275 (by kernel_rfl) rfl (fun h => rfl))
  (.cons (.mk' (z := .pointer none) Go.Proofs.Tryz.underlying276 (by kernel_rfl) rfl (fun h => rfl))
  (.cons (.mk' (z := .agg #[.string ByteArray.empty]) ⟨_, Go.Proofs.Tryz.underlying277, rfl⟩ (by kernel_rfl) rfl (fun h => by cases h))
  (.cons (.mk' (z := .agg #[.string ByteArray.empty]) ⟨_, Go.Proofs.Tryz.underlying278, rfl⟩ (by kernel_rfl) rfl (fun h => by cases h))
  (.cons (.mk' (z := .agg #[.int .u8 0, .int .u8 0, .int .u8 0, .int .u8 0, .int .u8 0, .int .u8 0, .int .u8 0, .int .u8 0, .int .u8 0, .int .u8 0, .int .u8 0, .int .u8 0, .int .u8 0, .int .u8 0, .int .u8 0, .int .u8 0, .int .u8 0, .int .u8 0, .int .u8 0, .int .u8 0, .int .u8 0, .int .u8 0, .int .u8 0, .int .u8 0, .int .u8 0, .int .u8 0, .int .u8 0, .int .u8 0, .int .u8 0, .int .u8 0, .int .u8 0, .int .u8 0, .int .u8 0, .int .u8 0, .int .u8 0, .int .u8 0, .int .u8 0, .int .u8 0, .int .u8 0, .int .u8 0, .int .u8 0, .int .u8 0, .int .u8 0, .int .u8 0, .int .u8 0, .int .u8 0, .int .u8 0, .int .u8 0, .int .u8 0, .int .u8 0, .int .u8 0, .int .u8 0, .int .u8 0, .int .u8 0, .int .u8 0, .int .u8 0, .int .u8 0, .int .u8 0, .int .u8 0, .int .u8 0, .int .u8 0, .int .u8 0, .int .u8 0, .int .u8 0, .int .u8 0, .int .u8 0, .int .u8 0, .int .u8 0, .int .u8 0, .int .u8 0, .int .u8 0, .int .u8 0, .int .u8 0, .int .u8 0, .int .u8 0, .int .u8 0, .int .u8 0, .int .u8 0, .int .u8 0, .int .u8 0, .int .u8 0, .int .u8 0, .int .u8 0, .int .u8 0, .int .u8 0, .int .u8 0, .int .u8 0, .int .u8 0, .int .u8 0, .int .u8 0, .int .u8 0, .int .u8 0, .int .u8 0, .int .u8 0, .int .u8 0, .int .u8 0, .int .u8 0, .int .u8 0, .int .u8 0, .int .u8 0, .int .u8 0, .int .u8 0, .int .u8 0, .int .u8 0, .int .u8 0, .int .u8 0, .int .u8 0, .int .u8 0, .int .u8 0, .int .u8 0, .int .u8 0, .int .u8 0, .int .u8 0, .int .u8 0, .int .u8 0, .int .u8 0, .int .u8 0, .int .u8 0, .int .u8 0, .int .u8 0, .int .u8 0, .int .u8 0, .int .u8 0, .int .u8 0, .int .u8 0, .int .u8 0, .int .u8 0, .int .u8 0, .int .u8 0, .int .u8 0, .int .u8 0, .int .u8 0, .int .u8 0, .int .u8 0, .int .u8 0, .int .u8 0, .int .u8 0, .int .u8 0, .int .u8 0, .int .u8 0, .int .u8 0, .int .u8 0, .int .u8 0, .int .u8 0, .int .u8 0, .int .u8 0, .int .u8 0, .int .u8 0, .int .u8 0, .int .u8 0, .int .u8 0, .int .u8 0, .int .u8 0, .int .u8 0, .int .u8 0, .int .u8 0, .int .u8 0, .int .u8 0, .int .u8 0, .int .u8 0, .int .u8 0, .int .u8 0, .int .u8 0, .int .u8 0, .int .u8 0, .int .u8 0, .int .u8 0, .int .u8 0, .int .u8 0, .int .u8 0, .int .u8 0, .int .u8 0, .int .u8 0, .int .u8 0, .int .u8 0, .int .u8 0, .int .u8 0, .int .u8 0, .int .u8 0, .int .u8 0, .int .u8 0, .int .u8 0, .int .u8 0, .int .u8 0, .int .u8 0, .int .u8 0, .int .u8 0, .int .u8 0, .int .u8 0, .int .u8 0, .int .u8 0, .int .u8 0, .int .u8 0, .int .u8 0, .int .u8 0, .int .u8 0, .int .u8 0, .int .u8 0, .int .u8 0, .int .u8 0, .int .u8 0, .int .u8 0, .int .u8 0, .int .u8 0, .int .u8 0, .int .u8 0, .int .u8 0, .int .u8 0, .int .u8 0, .int .u8 0, .int .u8 0, .int .u8 0, .int .u8 0, .int .u8 0, .int .u8 0, .int .u8 0, .int .u8 0, .int .u8 0, .int .u8 0, .int .u8 0, .int .u8 0, .int .u8 0, .int .u8 0, .int .u8 0, .int .u8 0, .int .u8 0, .int .u8 0, .int .u8 0, .int .u8 0, .int .u8 0, .int .u8 0, .int .u8 0, .int .u8 0, .int .u8 0, .int .u8 0, .int .u8 0, .int .u8 0, .int .u8 0, .int .u8 0, .int .u8 0, .int .u8 0, .int .u8 0, .int .u8 0, .int .u8 0, .int .u8 0, .int .u8 0, .int .u8 0, .int .u8 0, .int .u8 0, .int .u8 0, .int .u8 0, .int .u8 0, .int .u8 0, .int .u8 0, .int .u8 0, .int .u8 0]) Go.Proofs.Tryz.underlying279 (by kernel_rfl) rfl (fun h => by cases h))
  (.cons (.mk' (z := .agg #[.int .u8 0, .int .u8 0]) ⟨_, Go.Proofs.Tryz.underlying280, rfl⟩ (by kernel_rfl) rfl (fun h => by cases h))
  (.cons (.mk' (z := .agg #[.int .u8 0, .int .u8 0]) ⟨_, Go.Proofs.Tryz.underlying281, rfl⟩ (by kernel_rfl) rfl (fun h => by cases h))
  (.cons (.mk' (z := .agg #[.int .u8 0, .int .u8 0, .int .u8 0, .int .u8 0, .int .u8 0, .int .u8 0, .int .u8 0, .int .u8 0, .int .u8 0, .int .u8 0, .int .u8 0, .int .u8 0, .int .u8 0, .int .u8 0, .int .u8 0, .int .u8 0, .int .u8 0, .int .u8 0, .int .u8 0, .int .u8 0, .int .u8 0, .int .u8 0, .int .u8 0, .int .u8 0, .int .u8 0, .int .u8 0, .int .u8 0, .int .u8 0, .int .u8 0, .int .u8 0, .int .u8 0, .int .u8 0]) Go.Proofs.Tryz.underlying282 (by kernel_rfl) rfl (fun h => by cases h))
  (.cons (.mk' (z := .agg #[.int .u8 0, .int .u8 0, .int .u8 0, .int .u8 0, .int .u8 0, .int .u8 0, .int .u8 0, .int .u8 0, .int .u8 0, .int .u8 0, .int .u8 0, .int .u8 0, .int .u8 0, .int .u8 0, .int .u8 0, .int .u8 0, .int .u8 0, .int .u8 0, .int .u8 0, .int .u8 0, .int .u8 0, .int .u8 0, .int .u8 0, .int .u8 0, .int .u8 0, .int .u8 0, .int .u8 0, .int .u8 0, .int .u8 0, .int .u8 0, .int .u8 0, .int .u8 0]) Go.Proofs.Tryz.underlying283 (by kernel_rfl) rfl (fun h => by cases h))
  (.cons (.mk' (z := .agg #[.int .u8 0, .int .u8 0, .int .u8 0, .int .u8 0, .int .u8 0, .int .u8 0, .int .u8 0, .int .u8 0, .int .u8 0, .int .u8 0, .int .u8 0, .int .u8 0, .int .u8 0, .int .u8 0, .int .u8 0, .int .u8 0, .int .u8 0, .int .u8 0, .int .u8 0, .int .u8 0, .int .u8 0, .int .u8 0, .int .u8 0, .int .u8 0, .int .u8 0, .int .u8 0, .int .u8 0, .int .u8 0, .int .u8 0, .int .u8 0, .int .u8 0, .int .u8 0, .int .u8 0, .int .u8 0, .int .u8 0, .int .u8 0, .int .u8 0, .int .u8 0, .int .u8 0, .int .u8 0, .int .u8 0, .int .u8 0, .int .u8 0, .int .u8 0, .int .u8 0, .int .u8 0, .int .u8 0, .int .u8 0, .int .u8 0, .int .u8 0, .int .u8 0, .int .u8 0, .int .u8 0, .int .u8 0, .int .u8 0, .int .u8 0, .int .u8 0, .int .u8 0, .int .u8 0, .int .u8 0, .int .u8 0, .int .u8 0, .int .u8 0, .int .u8 0]) Go.Proofs.Tryz.underlying284 (by kernel_rfl) rfl (fun h => by cases h))
  (.cons (.mk' (z := .nilFunc) ⟨_, _, _, Go.Proofs.Tryz.underlying285⟩ (by kernel_rfl) rfl (fun h => rfl))
  (.cons (.mk' (z := .nilFunc) ⟨_, _, _, Go.Proofs.Tryz.underlying286⟩ (by kernel_rfl) rfl (fun h => rfl))
  (.cons (.mk' (z := .agg #[.pointer none, .pointer none, .pointer none, .string ByteArray.empty]) ⟨_, Go.Proofs.Tryz.underlying287, rfl⟩ (by kernel_rfl) rfl (fun h => by cases h))
  (.cons (.mk' (z := .agg #[.pointer none, .pointer none, .pointer none, .string ByteArray.empty]) ⟨_, Go.Proofs.Tryz.underlying288, rfl⟩ (by kernel_rfl) rfl (fun h => by cases h))
  (.cons (.mk' (z := .agg #[]) Go.Proofs.Tryz.underlying289 (by kernel_rfl) rfl (fun h => by cases h))
  (.cons (.mk' (z := .agg #[]) ⟨_, Go.Proofs.Tryz.underlying290, rfl⟩ (by kernel_rfl) rfl (fun h => by cases h))
  (.cons (.mk' (z := .agg #[]) ⟨_, Go.Proofs.Tryz.underlying291, rfl⟩ (by kernel_rfl) rfl (fun h => by cases h))
  (.cons (.mk' (z := .int .u8 0) Go.Proofs.Tryz.underlying292 (by kernel_rfl) rfl (fun h => rfl))
  (.cons (.mk' (z := .int .u8 0) Go.Proofs.Tryz.underlying293 (by kernel_rfl) rfl (fun h => rfl))
  (.cons (.mk' (z := .nilFunc) ⟨_, _, _, Go.Proofs.Tryz.underlying294⟩ (by kernel_rfl) rfl (fun h => rfl))
  (.cons (.mk' (z := .int .i32 0) Go.Proofs.Tryz.underlying295 (by kernel_rfl) rfl (fun h => rfl))
  (.cons (.mk' (z := .int .i32 0) Go.Proofs.Tryz.underlying296 (by kernel_rfl) rfl (fun h => rfl))
  (.cons (.mk' (z := .agg #[.int .u64 0, .int .u64 0, .int .u32 0, .int .u8 0, .int .u8 0, .int .u8 0, .int .u8 0, .nilFunc, .pointer none, .int .i32 0, .int .i32 0]) ⟨_, Go.Proofs.Tryz.underlying297, rfl⟩ (by kernel_rfl) rfl (fun h => by cases h))
  (.cons (.mk' (z := .agg #[.int .u64 0, .int .u64 0, .int .u32 0, .int .u8 0, .int .u8 0, .int .u8 0, .int .u8 0, .nilFunc, .pointer none, .int .i32 0, .int .i32 0]) ⟨_, Go.Proofs.Tryz.underlying298, rfl⟩ (by kernel_rfl) rfl (fun h => by cases h))
  (.cons (.mk' (z := .nilFunc) ⟨_, _, _, Go.Proofs.Tryz.underlying299⟩ (by kernel_rfl) rfl (fun h => rfl))
  (.cons (.mk' (z := .nilFunc) ⟨_, _, _, Go.Proofs.Tryz.underlying300⟩ (by kernel_rfl) rfl (fun h => rfl))
  (.nil)))))))))))))))))))))))))))))))))))))))))))))))))))))))))))))))))))))))))))))))))))))))))))))))))))))))))))))))))))))))))))))))))))))))))))))))))))))))))))))))))))))))))))))))))))))))))))))))))))))))))))))))))))))))))))))))))))))))))))))))))))))))))))))))))))))))))))))))))))
theorem mixed : Go.Proofs.Tryz.prog.follows .mixedOrders = true := by kernel_rfl
end Go.Sx.T

