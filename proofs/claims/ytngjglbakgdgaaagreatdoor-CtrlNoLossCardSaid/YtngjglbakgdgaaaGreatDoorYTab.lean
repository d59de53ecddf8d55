import Derived.Test.YtngjglbakgdgaaaGreatDoorL6
import Derived.Test.YtngjglbakgdgaaaGreatDoorProg
set_option linter.all false
namespace Go.Sx.T
open Go Go.Sx Go.Proofs
set_option maxRecDepth 100000
def tab : Tab := [(1, ⟨.func, 1, 8, [.nilFunc]⟩),
  (2, ⟨.int .i64, 1, 8, [.int .i64 0]⟩),
  (3, ⟨.int .i64, 1, 8, [.int .i64 0]⟩),
  (4, ⟨.bool, 1, 1, [.bool false]⟩),
  (5, ⟨.int .u8, 1, 1, [.int .u8 0]⟩),
  (6, ⟨.int .u8, 1, 1, [.int .u8 0]⟩),
  (7, ⟨.st [(0, 2), (1, 3), (2, 4), (3, 6)], 4, 24, [.int .i64 0, .int .i64 0, .bool false, .int .u8 0]⟩),
  (8, ⟨.st [(0, 2), (1, 3), (2, 4), (3, 6)], 4, 24, [.int .i64 0, .int .i64 0, .bool false, .int .u8 0]⟩),
  (9, ⟨.str, 1, 16, [.string ByteArray.empty]⟩),
  (10, ⟨.str, 1, 16, [.string ByteArray.empty]⟩),
  (11, ⟨.str, 1, 16, [.string ByteArray.empty]⟩),
  (12, ⟨.int .u64, 1, 8, [.int .u64 0]⟩),
  (13, ⟨.st [(0, 9), (1, 12)], 2, 24, [.string ByteArray.empty, .int .u64 0]⟩),
  (14, ⟨.st [(0, 9), (1, 12)], 2, 24, [.string ByteArray.empty, .int .u64 0]⟩),
  (15, ⟨.ptr 303, 1, 8, [.pointer none]⟩),
  (16, ⟨.ptr 306, 1, 8, [.pointer none]⟩),
  (17, ⟨.ptr 313, 1, 8, [.pointer none]⟩),
  (18, ⟨.st [(0, 17)], 1, 8, [.pointer none]⟩),
  (19, ⟨.st [(0, 17)], 1, 8, [.pointer none]⟩),
  (20, ⟨.iface, 1, 16, [.nilIface]⟩),
  (21, ⟨.int .i32, 1, 4, [.int .i32 0]⟩),
  (22, ⟨.func, 1, 8, [.nilFunc]⟩),
  (23, ⟨.func, 1, 8, [.nilFunc]⟩),
  (25, ⟨.func, 1, 8, [.nilFunc]⟩),
  (26, ⟨.func, 1, 8, [.nilFunc]⟩),
  (27, ⟨.func, 1, 8, [.nilFunc]⟩),
  (28, ⟨.iface, 1, 16, [.nilIface]⟩),
  (29, ⟨.iface, 1, 16, [.nilIface]⟩),
  (30, ⟨.func, 1, 8, [.nilFunc]⟩),
  (31, ⟨.func, 1, 8, [.nilFunc]⟩),
  (32, ⟨.func, 1, 8, [.nilFunc]⟩),
  (33, ⟨.int .u64, 1, 8, [.int .u64 0]⟩),
  (34, ⟨.func, 1, 8, [.nilFunc]⟩),
  (35, ⟨.func, 1, 8, [.nilFunc]⟩),
  (36, ⟨.ptr 123, 1, 8, [.pointer none]⟩),
  (37, ⟨.func, 1, 8, [.nilFunc]⟩),
  (38, ⟨.func, 1, 8, [.nilFunc]⟩),
  (39, ⟨.func, 1, 8, [.nilFunc]⟩),
  (40, ⟨.sl 33, 1, 24, [.slice none 0 0]⟩),
  (41, ⟨.st [(0, 40), (1, 40), (2, 40), (3, 3), (4, 2)], 5, 88, [.slice none 0 0, .slice none 0 0, .slice none 0 0, .int .i64 0, .int .i64 0]⟩),
  (42, ⟨.st [(0, 40), (1, 40), (2, 40), (3, 3), (4, 2)], 5, 88, [.slice none 0 0, .slice none 0 0, .slice none 0 0, .int .i64 0, .int .i64 0]⟩),
  (43, ⟨.func, 1, 8, [.nilFunc]⟩),
  (44, ⟨.func, 1, 8, [.nilFunc]⟩),
  (45, ⟨.func, 1, 8, [.nilFunc]⟩),
  (47, ⟨.func, 1, 8, [.nilFunc]⟩),
  (48, ⟨.ptr 129, 1, 8, [.pointer none]⟩),
  (50, ⟨.func, 1, 8, [.nilFunc]⟩),
  (51, ⟨.func, 1, 8, [.nilFunc]⟩),
  (52, ⟨.func, 1, 8, [.nilFunc]⟩),
  (53, ⟨.func, 1, 8, [.nilFunc]⟩),
  (54, ⟨.sl 3, 1, 24, [.slice none 0 0]⟩),
  (55, ⟨.ptr 132, 1, 8, [.pointer none]⟩),
  (56, ⟨.func, 1, 8, [.nilFunc]⟩),
  (57, ⟨.map 3 4, 1, 8, [.map none]⟩),
  (58, ⟨.int .i64, 1, 8, [.int .i64 0]⟩),
  (59, ⟨.func, 1, 8, [.nilFunc]⟩),
  (60, ⟨.func, 1, 8, [.nilFunc]⟩),
  (61, ⟨.sl 64, 1, 24, [.slice none 0 0]⟩),
  (62, ⟨.func, 1, 8, [.nilFunc]⟩),
  (63, ⟨.st [(0, 3), (1, 9)], 2, 24, [.int .i64 0, .string ByteArray.empty]⟩),
  (64, ⟨.st [(0, 3), (1, 9)], 2, 24, [.int .i64 0, .string ByteArray.empty]⟩),
  (65, ⟨.sl 5, 1, 24, [.slice none 0 0]⟩),
  (66, ⟨.func, 1, 8, [.nilFunc]⟩),
  (67, ⟨.func, 1, 8, [.nilFunc]⟩),
  (68, ⟨.func, 1, 8, [.nilFunc]⟩),
  (69, ⟨.func, 1, 8, [.nilFunc]⟩),
  (70, ⟨.sl 74, 1, 24, [.slice none 0 0]⟩),
  (71, ⟨.ptr 79, 1, 8, [.pointer none]⟩),
  (72, ⟨.func, 1, 8, [.nilFunc]⟩),
  (73, ⟨.st [(0, 3), (1, 3), (2, 9), (3, 61)], 4, 56, [.int .i64 0, .int .i64 0, .string ByteArray.empty, .slice none 0 0]⟩),
  (74, ⟨.st [(0, 3), (1, 3), (2, 9), (3, 61)], 4, 56, [.int .i64 0, .int .i64 0, .string ByteArray.empty, .slice none 0 0]⟩),
  (75, ⟨.func, 1, 8, [.nilFunc]⟩),
  (76, ⟨.func, 1, 8, [.nilFunc]⟩),
  (77, ⟨.arr 9 9, 9, 144, [.string ByteArray.empty, .string ByteArray.empty, .string ByteArray.empty, .string ByteArray.empty, .string ByteArray.empty, .string ByteArray.empty, .string ByteArray.empty, .string ByteArray.empty, .string ByteArray.empty]⟩),
  (78, ⟨.st [(0, 4), (1, 77), (10, 77), (19, 77), (28, 77), (37, 61)], 38, 608, [.bool false, .string ByteArray.empty, .string ByteArray.empty, .string ByteArray.empty, .string ByteArray.empty, .string ByteArray.empty, .string ByteArray.empty, .string ByteArray.empty, .string ByteArray.empty, .string ByteArray.empty, .string ByteArray.empty, .string ByteArray.empty, .string ByteArray.empty, .string ByteArray.empty, .string ByteArray.empty, .string ByteArray.empty, .string ByteArray.empty, .string ByteArray.empty, .string ByteArray.empty, .string ByteArray.empty, .string ByteArray.empty, .string ByteArray.empty, .string ByteArray.empty, .string ByteArray.empty, .string ByteArray.empty, .string ByteArray.empty, .string ByteArray.empty, .string ByteArray.empty, .string ByteArray.empty, .string ByteArray.empty, .string ByteArray.empty, .string ByteArray.empty, .string ByteArray.empty, .string ByteArray.empty, .string ByteArray.empty, .string ByteArray.empty, .string ByteArray.empty, .slice none 0 0]⟩),
  (79, ⟨.st [(0, 4), (1, 77), (10, 77), (19, 77), (28, 77), (37, 61)], 38, 608, [.bool false, .string ByteArray.empty, .string ByteArray.empty, .string ByteArray.empty, .string ByteArray.empty, .string ByteArray.empty, .string ByteArray.empty, .string ByteArray.empty, .string ByteArray.empty, .string ByteArray.empty, .string ByteArray.empty, .string ByteArray.empty, .string ByteArray.empty, .string ByteArray.empty, .string ByteArray.empty, .string ByteArray.empty, .string ByteArray.empty, .string ByteArray.empty, .string ByteArray.empty, .string ByteArray.empty, .string ByteArray.empty, .string ByteArray.empty, .string ByteArray.empty, .string ByteArray.empty, .string ByteArray.empty, .string ByteArray.empty, .string ByteArray.empty, .string ByteArray.empty, .string ByteArray.empty, .string ByteArray.empty, .string ByteArray.empty, .string ByteArray.empty, .string ByteArray.empty, .string ByteArray.empty, .string ByteArray.empty, .string ByteArray.empty, .string ByteArray.empty, .slice none 0 0]⟩),
  (80, ⟨.func, 1, 8, [.nilFunc]⟩),
  (81, ⟨.sl 4, 1, 24, [.slice none 0 0]⟩),
  (82, ⟨.func, 1, 8, [.nilFunc]⟩),
  (83, ⟨.ptr 142, 1, 8, [.pointer none]⟩),
  (84, ⟨.func, 1, 8, [.nilFunc]⟩),
  (85, ⟨.func, 1, 8, [.nilFunc]⟩),
  (86, ⟨.func, 1, 8, [.nilFunc]⟩),
  (87, ⟨.ptr 147, 1, 8, [.pointer none]⟩),
  (88, ⟨.func, 1, 8, [.nilFunc]⟩),
  (89, ⟨.func, 1, 8, [.nilFunc]⟩),
  (90, ⟨.func, 1, 8, [.nilFunc]⟩),
  (92, ⟨.func, 1, 8, [.nilFunc]⟩),
  (93, ⟨.st [(0, 3), (1, 33), (2, 33), (3, 33), (4, 33), (5, 33), (6, 3), (7, 3)], 8, 64, [.int .i64 0, .int .u64 0, .int .u64 0, .int .u64 0, .int .u64 0, .int .u64 0, .int .i64 0, .int .i64 0]⟩),
  (94, ⟨.st [(0, 3), (1, 33), (2, 33), (3, 33), (4, 33), (5, 33), (6, 3), (7, 3)], 8, 64, [.int .i64 0, .int .u64 0, .int .u64 0, .int .u64 0, .int .u64 0, .int .u64 0, .int .i64 0, .int .i64 0]⟩),
  (96, ⟨.func, 1, 8, [.nilFunc]⟩),
  (97, ⟨.func, 1, 8, [.nilFunc]⟩),
  (98, ⟨.int .u32, 1, 4, [.int .u32 0]⟩),
  (99, ⟨.arr 3 5, 3, 3, [.int .u8 0, .int .u8 0, .int .u8 0]⟩),
  (100, ⟨.st [(0, 3), (1, 3), (2, 3), (3, 3), (4, 3), (5, 3), (6, 3), (7, 4), (8, 33), (9, 33), (10, 98), (11, 3), (12, 99)], 15, 104, [.int .i64 0, .int .i64 0, .int .i64 0, .int .i64 0, .int .i64 0, .int .i64 0, .int .i64 0, .bool false, .int .u64 0, .int .u64 0, .int .u32 0, .int .i64 0, .int .u8 0, .int .u8 0, .int .u8 0]⟩),
  (101, ⟨.st [(0, 3), (1, 3), (2, 3), (3, 3), (4, 3), (5, 3), (6, 3), (7, 4), (8, 33), (9, 33), (10, 98), (11, 3), (12, 99)], 15, 104, [.int .i64 0, .int .i64 0, .int .i64 0, .int .i64 0, .int .i64 0, .int .i64 0, .int .i64 0, .bool false, .int .u64 0, .int .u64 0, .int .u32 0, .int .i64 0, .int .u8 0, .int .u8 0, .int .u8 0]⟩),
  (102, ⟨.st [(0, 101), (15, 61), (16, 9)], 17, 144, [.int .i64 0, .int .i64 0, .int .i64 0, .int .i64 0, .int .i64 0, .int .i64 0, .int .i64 0, .bool false, .int .u64 0, .int .u64 0, .int .u32 0, .int .i64 0, .int .u8 0, .int .u8 0, .int .u8 0, .slice none 0 0, .string ByteArray.empty]⟩),
  (103, ⟨.st [(0, 101), (15, 61), (16, 9)], 17, 144, [.int .i64 0, .int .i64 0, .int .i64 0, .int .i64 0, .int .i64 0, .int .i64 0, .int .i64 0, .bool false, .int .u64 0, .int .u64 0, .int .u32 0, .int .i64 0, .int .u8 0, .int .u8 0, .int .u8 0, .slice none 0 0, .string ByteArray.empty]⟩),
  (104, ⟨.func, 1, 8, [.nilFunc]⟩),
  (106, ⟨.func, 1, 8, [.nilFunc]⟩),
  (108, ⟨.func, 1, 8, [.nilFunc]⟩),
  (109, ⟨.func, 1, 8, [.nilFunc]⟩),
  (110, ⟨.func, 1, 8, [.nilFunc]⟩),
  (111, ⟨.ptr 114, 1, 8, [.pointer none]⟩),
  (112, ⟨.func, 1, 8, [.nilFunc]⟩),
  (113, ⟨.st [(0, 48)], 1, 8, [.pointer none]⟩),
  (114, ⟨.st [(0, 48)], 1, 8, [.pointer none]⟩),
  (115, ⟨.ptr 117, 1, 8, [.pointer none]⟩),
  (116, ⟨.st [(0, 36), (1, 83), (2, 33)], 3, 24, [.pointer none, .pointer none, .int .u64 0]⟩),
  (117, ⟨.st [(0, 36), (1, 83), (2, 33)], 3, 24, [.pointer none, .pointer none, .int .u64 0]⟩),
  (119, ⟨.func, 1, 8, [.nilFunc]⟩),
  (120, ⟨.int .u64, 1, 8, [.int .u64 0]⟩),
  (121, ⟨.ptr 181, 1, 8, [.pointer none]⟩),
  (122, ⟨.st [(0, 33), (1, 33), (2, 33), (3, 2), (4, 4), (5, 2), (6, 121), (7, 4), (8, 4), (9, 2)], 10, 72, [.int .u64 0, .int .u64 0, .int .u64 0, .int .i64 0, .bool false, .int .i64 0, .pointer none, .bool false, .bool false, .int .i64 0]⟩),
  (123, ⟨.st [(0, 33), (1, 33), (2, 33), (3, 2), (4, 4), (5, 2), (6, 121), (7, 4), (8, 4), (9, 2)], 10, 72, [.int .u64 0, .int .u64 0, .int .u64 0, .int .i64 0, .bool false, .int .i64 0, .pointer none, .bool false, .bool false, .int .i64 0]⟩),
  (125, ⟨.ptr 183, 1, 8, [.pointer none]⟩),
  (126, ⟨.st [(0, 33), (1, 4)], 2, 16, [.int .u64 0, .bool false]⟩),
  (127, ⟨.st [(0, 33), (1, 4)], 2, 16, [.int .u64 0, .bool false]⟩),
  (128, ⟨.st [(0, 3), (1, 3), (2, 3), (3, 3), (4, 125), (5, 127), (7, 127), (9, 4), (10, 2)], 11, 88, [.int .i64 0, .int .i64 0, .int .i64 0, .int .i64 0, .pointer none, .int .u64 0, .bool false, .int .u64 0, .bool false, .bool false, .int .i64 0]⟩),
  (129, ⟨.st [(0, 3), (1, 3), (2, 3), (3, 3), (4, 125), (5, 127), (7, 127), (9, 4), (10, 2)], 11, 88, [.int .i64 0, .int .i64 0, .int .i64 0, .int .i64 0, .pointer none, .int .u64 0, .bool false, .int .u64 0, .bool false, .bool false, .int .i64 0]⟩),
  (130, ⟨.map 3 9, 1, 8, [.map none]⟩),
  (131, ⟨.st [(0, 4), (1, 130), (2, 130), (3, 130), (4, 130), (5, 61)], 6, 64, [.bool false, .map none, .map none, .map none, .map none, .slice none 0 0]⟩),
  (132, ⟨.st [(0, 4), (1, 130), (2, 130), (3, 130), (4, 130), (5, 61)], 6, 64, [.bool false, .map none, .map none, .map none, .map none, .slice none 0 0]⟩),
  (133, ⟨.func, 1, 8, [.nilFunc]⟩),
  (134, ⟨.func, 1, 8, [.nilFunc]⟩),
  (135, ⟨.func, 1, 8, [.nilFunc]⟩),
  (136, ⟨.func, 1, 8, [.nilFunc]⟩),
  (138, ⟨.func, 1, 8, [.nilFunc]⟩),
  (139, ⟨.func, 1, 8, [.nilFunc]⟩),
  (140, ⟨.func, 1, 8, [.nilFunc]⟩),
  (141, ⟨.st [(0, 33), (1, 33), (2, 33), (3, 33), (4, 2)], 5, 40, [.int .u64 0, .int .u64 0, .int .u64 0, .int .u64 0, .int .i64 0]⟩),
  (142, ⟨.st [(0, 33), (1, 33), (2, 33), (3, 33), (4, 2)], 5, 40, [.int .u64 0, .int .u64 0, .int .u64 0, .int .u64 0, .int .i64 0]⟩),
  (143, ⟨.func, 1, 8, [.nilFunc]⟩),
  (144, ⟨.func, 1, 8, [.nilFunc]⟩),
  (145, ⟨.sl 9, 1, 24, [.slice none 0 0]⟩),
  (146, ⟨.st [(0, 145), (1, 3)], 2, 32, [.slice none 0 0, .int .i64 0]⟩),
  (147, ⟨.st [(0, 145), (1, 3)], 2, 32, [.slice none 0 0, .int .i64 0]⟩),
  (149, ⟨.func, 1, 8, [.nilFunc]⟩),
  (150, ⟨.func, 1, 8, [.nilFunc]⟩),
  (151, ⟨.func, 1, 8, [.nilFunc]⟩),
  (152, ⟨.func, 1, 8, [.nilFunc]⟩),
  (153, ⟨.func, 1, 8, [.nilFunc]⟩),
  (154, ⟨.func, 1, 8, [.nilFunc]⟩),
  (155, ⟨.func, 1, 8, [.nilFunc]⟩),
  (156, ⟨.func, 1, 8, [.nilFunc]⟩),
  (157, ⟨.func, 1, 8, [.nilFunc]⟩),
  (158, ⟨.func, 1, 8, [.nilFunc]⟩),
  (159, ⟨.ptr 188, 1, 8, [.pointer none]⟩),
  (160, ⟨.func, 1, 8, [.nilFunc]⟩),
  (161, ⟨.ptr 191, 1, 8, [.pointer none]⟩),
  (162, ⟨.func, 1, 8, [.nilFunc]⟩),
  (163, ⟨.ptr 195, 1, 8, [.pointer none]⟩),
  (164, ⟨.func, 1, 8, [.nilFunc]⟩),
  (165, ⟨.func, 1, 8, [.nilFunc]⟩),
  (166, ⟨.sl 175, 1, 24, [.slice none 0 0]⟩),
  (167, ⟨.func, 1, 8, [.nilFunc]⟩),
  (168, ⟨.func, 1, 8, [.nilFunc]⟩),
  (169, ⟨.func, 1, 8, [.nilFunc]⟩),
  (170, ⟨.func, 1, 8, [.nilFunc]⟩),
  (171, ⟨.func, 1, 8, [.nilFunc]⟩),
  (173, ⟨.func, 1, 8, [.nilFunc]⟩),
  (174, ⟨.st [(0, 3), (1, 3)], 2, 16, [.int .i64 0, .int .i64 0]⟩),
  (175, ⟨.st [(0, 3), (1, 3)], 2, 16, [.int .i64 0, .int .i64 0]⟩),
  (176, ⟨.func, 1, 8, [.nilFunc]⟩),
  (177, ⟨.st [(0, 2), (1, 33)], 2, 16, [.int .i64 0, .int .u64 0]⟩),
  (178, ⟨.st [(0, 2), (1, 33)], 2, 16, [.int .i64 0, .int .u64 0]⟩),
  (179, ⟨.sl 178, 1, 24, [.slice none 0 0]⟩),
  (180, ⟨.st [(0, 179)], 1, 24, [.slice none 0 0]⟩),
  (181, ⟨.st [(0, 179)], 1, 24, [.slice none 0 0]⟩),
  (182, ⟨.st [(0, 4), (1, 2), (2, 2), (3, 2)], 4, 32, [.bool false, .int .i64 0, .int .i64 0, .int .i64 0]⟩),
  (183, ⟨.st [(0, 4), (1, 2), (2, 2), (3, 2)], 4, 32, [.bool false, .int .i64 0, .int .i64 0, .int .i64 0]⟩),
  (184, ⟨.func, 1, 8, [.nilFunc]⟩),
  (185, ⟨.func, 1, 8, [.nilFunc]⟩),
  (186, ⟨.map 33 3, 1, 8, [.map none]⟩),
  (187, ⟨.st [(0, 186), (1, 33), (2, 4), (3, 33), (4, 4)], 5, 40, [.map none, .int .u64 0, .bool false, .int .u64 0, .bool false]⟩),
  (188, ⟨.st [(0, 186), (1, 33), (2, 4), (3, 33), (4, 4)], 5, 40, [.map none, .int .u64 0, .bool false, .int .u64 0, .bool false]⟩),
  (189, ⟨.sl 200, 1, 24, [.slice none 0 0]⟩),
  (190, ⟨.st [(0, 189), (1, 33), (2, 4)], 3, 40, [.slice none 0 0, .int .u64 0, .bool false]⟩),
  (191, ⟨.st [(0, 189), (1, 33), (2, 4)], 3, 40, [.slice none 0 0, .int .u64 0, .bool false]⟩),
  (192, ⟨.map 33 2, 1, 8, [.map none]⟩),
  (193, ⟨.map 33 4, 1, 8, [.map none]⟩),
  (194, ⟨.st [(0, 2), (1, 4), (2, 2), (3, 33), (4, 33), (5, 192), (6, 193), (7, 3), (8, 4), (9, 2), (10, 33), (11, 40), (12, 33), (13, 2)], 14, 128, [.int .i64 0, .bool false, .int .i64 0, .int .u64 0, .int .u64 0, .map none, .map none, .int .i64 0, .bool false, .int .i64 0, .int .u64 0, .slice none 0 0, .int .u64 0, .int .i64 0]⟩),
  (195, ⟨.st [(0, 2), (1, 4), (2, 2), (3, 33), (4, 33), (5, 192), (6, 193), (7, 3), (8, 4), (9, 2), (10, 33), (11, 40), (12, 33), (13, 2)], 14, 128, [.int .i64 0, .bool false, .int .i64 0, .int .u64 0, .int .u64 0, .map none, .map none, .int .i64 0, .bool false, .int .i64 0, .int .u64 0, .slice none 0 0, .int .u64 0, .int .i64 0]⟩),
  (196, ⟨.func, 1, 8, [.nilFunc]⟩),
  (197, ⟨.func, 1, 8, [.nilFunc]⟩),
  (198, ⟨.func, 1, 8, [.nilFunc]⟩),
  (199, ⟨.st [(0, 33), (1, 2), (2, 3)], 3, 24, [.int .u64 0, .int .i64 0, .int .i64 0]⟩),
  (200, ⟨.st [(0, 33), (1, 2), (2, 3)], 3, 24, [.int .u64 0, .int .i64 0, .int .i64 0]⟩),
  (201, ⟨.func, 1, 8, [.nilFunc]⟩),
  (202, ⟨.func, 1, 8, [.nilFunc]⟩),
  (203, ⟨.ptr 200, 1, 8, [.pointer none]⟩),
  (204, ⟨.func, 1, 8, [.nilFunc]⟩),
  (205, ⟨.func, 1, 8, [.nilFunc]⟩),
  (206, ⟨.func, 1, 8, [.nilFunc]⟩),
  (207, ⟨.func, 1, 8, [.nilFunc]⟩),
  (208, ⟨.func, 1, 8, [.nilFunc]⟩),
  (209, ⟨.func, 1, 8, [.nilFunc]⟩),
  (210, ⟨.func, 1, 8, [.nilFunc]⟩),
  (211, ⟨.sl 2, 1, 24, [.slice none 0 0]⟩),
  (213, ⟨.func, 1, 8, [.nilFunc]⟩),
  (215, ⟨.func, 1, 8, [.nilFunc]⟩),
  (217, ⟨.func, 1, 8, [.nilFunc]⟩),
  (219, ⟨.func, 1, 8, [.nilFunc]⟩),
  (220, ⟨.func, 1, 8, [.nilFunc]⟩),
  (221, ⟨.func, 1, 8, [.nilFunc]⟩),
  (222, ⟨.func, 1, 8, [.nilFunc]⟩),
  (223, ⟨.func, 1, 8, [.nilFunc]⟩),
  (225, ⟨.func, 1, 8, [.nilFunc]⟩),
  (226, ⟨.func, 1, 8, [.nilFunc]⟩),
  (227, ⟨.func, 1, 8, [.nilFunc]⟩),
  (228, ⟨.iface, 1, 16, [.nilIface]⟩),
  (229, ⟨.iface, 1, 16, [.nilIface]⟩),
  (230, ⟨.func, 1, 8, [.nilFunc]⟩),
  (231, ⟨.func, 1, 8, [.nilFunc]⟩),
  (232, ⟨.func, 1, 8, [.nilFunc]⟩),
  (233, ⟨.func, 1, 8, [.nilFunc]⟩),
  (234, ⟨.func, 1, 8, [.nilFunc]⟩),
  (235, ⟨.func, 1, 8, [.nilFunc]⟩),
  (236, ⟨.func, 1, 8, [.nilFunc]⟩),
  (238, ⟨.func, 1, 8, [.nilFunc]⟩),
  (240, ⟨.func, 1, 8, [.nilFunc]⟩),
  (241, ⟨.func, 1, 8, [.nilFunc]⟩),
  (242, ⟨.func, 1, 8, [.nilFunc]⟩),
  (243, ⟨.func, 1, 8, [.nilFunc]⟩),
  (244, ⟨.func, 1, 8, [.nilFunc]⟩),
  (246, ⟨.func, 1, 8, [.nilFunc]⟩),
  (247, ⟨.func, 1, 8, [.nilFunc]⟩),
  (248, ⟨.func, 1, 8, [.nilFunc]⟩),
  (249, ⟨.func, 1, 8, [.nilFunc]⟩),
  (251, ⟨.func, 1, 8, [.nilFunc]⟩),
  (252, ⟨.func, 1, 8, [.nilFunc]⟩),
  (254, ⟨.func, 1, 8, [.nilFunc]⟩),
  (255, ⟨.func, 1, 8, [.nilFunc]⟩),
  (256, ⟨.arr 256 4, 256, 256, [.bool false, .bool false, .bool false, .bool false, .bool false, .bool false, .bool false, .bool false, .bool false, .bool false, .bool false, .bool false, .bool false, .bool false, .bool false, .bool false, .bool false, .bool false, .bool false, .bool false, .bool false, .bool false, .bool false, .bool false, .bool false, .bool false, .bool false, .bool false, .bool false, .bool false, .bool false, .bool false, .bool false, .bool false, .bool false, .bool false, .bool false, .bool false, .bool false, .bool false, .bool false, .bool false, .bool false, .bool false, .bool false, .bool false, .bool false, .bool false, .bool false, .bool false, .bool false, .bool false, .bool false, .bool false, .bool false, .bool false, .bool false, .bool false, .bool false, .bool false, .bool false, .bool false, .bool false, .bool false, .bool false, .bool false, .bool false, .bool false, .bool false, .bool false, .bool false, .bool false, .bool false, .bool false, .bool false, .bool false, .bool false, .bool false, .bool false, .bool false, .bool false, .bool false, .bool false, .bool false, .bool false, .bool false, .bool false, .bool false, .bool false, .bool false, .bool false, .bool false, .bool false, .bool false, .bool false, .bool false, .bool false, .bool false, .bool false, .bool false, .bool false, .bool false, .bool false, .bool false, .bool false, .bool false, .bool false, .bool false, .bool false, .bool false, .bool false, .bool false, .bool false, .bool false, .bool false, .bool false, .bool false, .bool false, .bool false, .bool false, .bool false, .bool false, .bool false, .bool false, .bool false, .bool false, .bool false, .bool false, .bool false, .bool false, .bool false, .bool false, .bool false, .bool false, .bool false, .bool false, .bool false, .bool false, .bool false, .bool false, .bool false, .bool false, .bool false, .bool false, .bool false, .bool false, .bool false, .bool false, .bool false, .bool false, .bool false, .bool false, .bool false, .bool false, .bool false, .bool false, .bool false, .bool false, .bool false, .bool false, .bool false, .bool false, .bool false, .bool false, .bool false, .bool false, .bool false, .bool false, .bool false, .bool false, .bool false, .bool false, .bool false, .bool false, .bool false, .bool false, .bool false, .bool false, .bool false, .bool false, .bool false, .bool false, .bool false, .bool false, .bool false, .bool false, .bool false, .bool false, .bool false, .bool false, .bool false, .bool false, .bool false, .bool false, .bool false, .bool false, .bool false, .bool false, .bool false, .bool false, .bool false, .bool false, .bool false, .bool false, .bool false, .bool false, .bool false, .bool false, .bool false, .bool false, .bool false, .bool false, .bool false, .bool false, .bool false, .bool false, .bool false, .bool false, .bool false, .bool false, .bool false, .bool false, .bool false, .bool false, .bool false, .bool false, .bool false, .bool false, .bool false, .bool false, .bool false, .bool false, .bool false, .bool false, .bool false, .bool false, .bool false, .bool false, .bool false, .bool false, .bool false, .bool false, .bool false, .bool false, .bool false, .bool false, .bool false, .bool false, .bool false, .bool false, .bool false, .bool false, .bool false, .bool false, .bool false, .bool false]⟩),
  (257, ⟨.arr 256 4, 256, 256, [.bool false, .bool false, .bool false, .bool false, .bool false, .bool false, .bool false, .bool false, .bool false, .bool false, .bool false, .bool false, .bool false, .bool false, .bool false, .bool false, .bool false, .bool false, .bool false, .bool false, .bool false, .bool false, .bool false, .bool false, .bool false, .bool false, .bool false, .bool false, .bool false, .bool false, .bool false, .bool false, .bool false, .bool false, .bool false, .bool false, .bool false, .bool false, .bool false, .bool false, .bool false, .bool false, .bool false, .bool false, .bool false, .bool false, .bool false, .bool false, .bool false, .bool false, .bool false, .bool false, .bool false, .bool false, .bool false, .bool false, .bool false, .bool false, .bool false, .bool false, .bool false, .bool false, .bool false, .bool false, .bool false, .bool false, .bool false, .bool false, .bool false, .bool false, .bool false, .bool false, .bool false, .bool false, .bool false, .bool false, .bool false, .bool false, .bool false, .bool false, .bool false, .bool false, .bool false, .bool false, .bool false, .bool false, .bool false, .bool false, .bool false, .bool false, .bool false, .bool false, .bool false, .bool false, .bool false, .bool false, .bool false, .bool false, .bool false, .bool false, .bool false, .bool false, .bool false, .bool false, .bool false, .bool false, .bool false, .bool false, .bool false, .bool false, .bool false, .bool false, .bool false, .bool false, .bool false, .bool false, .bool false, .bool false, .bool false, .bool false, .bool false, .bool false, .bool false, .bool false, .bool false, .bool false, .bool false, .bool false, .bool false, .bool false, .bool false, .bool false, .bool false, .bool false, .bool false, .bool false, .bool false, .bool false, .bool false, .bool false, .bool false, .bool false, .bool false, .bool false, .bool false, .bool false, .bool false, .bool false, .bool false, .bool false, .bool false, .bool false, .bool false, .bool false, .bool false, .bool false, .bool false, .bool false, .bool false, .bool false, .bool false, .bool false, .bool false, .bool false, .bool false, .bool false, .bool false, .bool false, .bool false, .bool false, .bool false, .bool false, .bool false, .bool false, .bool false, .bool false, .bool false, .bool false, .bool false, .bool false, .bool false, .bool false, .bool false, .bool false, .bool false, .bool false, .bool false, .bool false, .bool false, .bool false, .bool false, .bool false, .bool false, .bool false, .bool false, .bool false, .bool false, .bool false, .bool false, .bool false, .bool false, .bool false, .bool false, .bool false, .bool false, .bool false, .bool false, .bool false, .bool false, .bool false, .bool false, .bool false, .bool false, .bool false, .bool false, .bool false, .bool false, .bool false, .bool false, .bool false, .bool false, .bool false, .bool false, .bool false, .bool false, .bool false, .bool false, .bool false, .bool false, .bool false, .bool false, .bool false, .bool false, .bool false, .bool false, .bool false, .bool false, .bool false, .bool false, .bool false, .bool false, .bool false, .bool false, .bool false, .bool false, .bool false, .bool false, .bool false, .bool false, .bool false, .bool false, .bool false, .bool false, .bool false, .bool false, .bool false]⟩),
  (259, ⟨.func, 1, 8, [.nilFunc]⟩),
  (260, ⟨.func, 1, 8, [.nilFunc]⟩),
  (261, ⟨.ptr 257, 1, 8, [.pointer none]⟩),
  (262, ⟨.func, 1, 8, [.nilFunc]⟩),
  (263, ⟨.func, 1, 8, [.nilFunc]⟩),
  (264, ⟨.func, 1, 8, [.nilFunc]⟩),
  (266, ⟨.func, 1, 8, [.nilFunc]⟩),
  (267, ⟨.func, 1, 8, [.nilFunc]⟩),
  (268, ⟨.arr 24 5, 24, 24, [.int .u8 0, .int .u8 0, .int .u8 0, .int .u8 0, .int .u8 0, .int .u8 0, .int .u8 0, .int .u8 0, .int .u8 0, .int .u8 0, .int .u8 0, .int .u8 0, .int .u8 0, .int .u8 0, .int .u8 0, .int .u8 0, .int .u8 0, .int .u8 0, .int .u8 0, .int .u8 0, .int .u8 0, .int .u8 0, .int .u8 0, .int .u8 0]⟩),
  (269, ⟨.func, 1, 8, [.nilFunc]⟩),
  (271, ⟨.func, 1, 8, [.nilFunc]⟩),
  (272, ⟨.int .i64, 1, 8, [.int .i64 0]⟩),
  (273, ⟨.func, 1, 8, [.nilFunc]⟩),
  (274, ⟨.func, 1, 8, [.nilFunc]⟩),
  (275, ⟨.ptr 286, 1, 8, [.pointer none]⟩),
  (276, ⟨.func, 1, 8, [.nilFunc]⟩),
  (277, ⟨.func, 1, 8, [.nilFunc]⟩),
  (278, ⟨.func, 1, 8, [.nilFunc]⟩),
  (279, ⟨.func, 1, 8, [.nilFunc]⟩),
  (280, ⟨.func, 1, 8, [.nilFunc]⟩),
  (281, ⟨.arr 20 33, 20, 160, [.int .u64 0, .int .u64 0, .int .u64 0, .int .u64 0, .int .u64 0, .int .u64 0, .int .u64 0, .int .u64 0, .int .u64 0, .int .u64 0, .int .u64 0, .int .u64 0, .int .u64 0, .int .u64 0, .int .u64 0, .int .u64 0, .int .u64 0, .int .u64 0, .int .u64 0, .int .u64 0]⟩),
  (282, ⟨.arr 65 5, 65, 65, [.int .u8 0, .int .u8 0, .int .u8 0, .int .u8 0, .int .u8 0, .int .u8 0, .int .u8 0, .int .u8 0, .int .u8 0, .int .u8 0, .int .u8 0, .int .u8 0, .int .u8 0, .int .u8 0, .int .u8 0, .int .u8 0, .int .u8 0, .int .u8 0, .int .u8 0, .int .u8 0, .int .u8 0, .int .u8 0, .int .u8 0, .int .u8 0, .int .u8 0, .int .u8 0, .int .u8 0, .int .u8 0, .int .u8 0, .int .u8 0, .int .u8 0, .int .u8 0, .int .u8 0, .int .u8 0, .int .u8 0, .int .u8 0, .int .u8 0, .int .u8 0, .int .u8 0, .int .u8 0, .int .u8 0, .int .u8 0, .int .u8 0, .int .u8 0, .int .u8 0, .int .u8 0, .int .u8 0, .int .u8 0, .int .u8 0, .int .u8 0, .int .u8 0, .int .u8 0, .int .u8 0, .int .u8 0, .int .u8 0, .int .u8 0, .int .u8 0, .int .u8 0, .int .u8 0, .int .u8 0, .int .u8 0, .int .u8 0, .int .u8 0, .int .u8 0, .int .u8 0]⟩),
  (283, ⟨.func, 1, 8, [.nilFunc]⟩),
  (284, ⟨.func, 1, 8, [.nilFunc]⟩),
  (285, ⟨.st [(0, 9), (1, 9), (2, 229)], 3, 48, [.string ByteArray.empty, .string ByteArray.empty, .nilIface]⟩),
  (286, ⟨.st [(0, 9), (1, 9), (2, 229)], 3, 48, [.string ByteArray.empty, .string ByteArray.empty, .nilIface]⟩),
  (287, ⟨.func, 1, 8, [.nilFunc]⟩),
  (288, ⟨.func, 1, 8, [.nilFunc]⟩),
  (289, ⟨.func, 1, 8, [.nilFunc]⟩),
  (290, ⟨.ptr 5, 1, 8, [.pointer none]⟩),
  (291, ⟨.ptr 293, 1, 8, [.pointer none]⟩),
  (292, ⟨.st [(0, 9)], 1, 16, [.string ByteArray.empty]⟩),
  (293, ⟨.st [(0, 9)], 1, 16, [.string ByteArray.empty]⟩),
  (294, ⟨.arr 256 5, 256, 256, [.int .u8 0, .int .u8 0, .int .u8 0, .int .u8 0, .int .u8 0, .int .u8 0, .int .u8 0, .int .u8 0, .int .u8 0, .int .u8 0, .int .u8 0, .int .u8 0, .int .u8 0, .int .u8 0, .int .u8 0, .int .u8 0, .int .u8 0, .int .u8 0, .int .u8 0, .int .u8 0, .int .u8 0, .int .u8 0, .int .u8 0, .int .u8 0, .int .u8 0, .int .u8 0, .int .u8 0, .int .u8 0, .int .u8 0, .int .u8 0, .int .u8 0, .int .u8 0, .int .u8 0, .int .u8 0, .int .u8 0, .int .u8 0, .int .u8 0, .int .u8 0, .int .u8 0, .int .u8 0, .int .u8 0, .int .u8 0, .int .u8 0, .int .u8 0, .int .u8 0, .int .u8 0, .int .u8 0, .int .u8 0, .int .u8 0, .int .u8 0, .int .u8 0, .int .u8 0, .int .u8 0, .int .u8 0, .int .u8 0, .int .u8 0, .int .u8 0, .int .u8 0, .int .u8 0, .int .u8 0, .int .u8 0, .int .u8 0, .int .u8 0, .int .u8 0, .int .u8 0, .int .u8 0, .int .u8 0, .int .u8 0, .int .u8 0, .int .u8 0, .int .u8 0, .int .u8 0, .int .u8 0, .int .u8 0, .int .u8 0, .int .u8 0, .int .u8 0, .int .u8 0, .int .u8 0, .int .u8 0, .int .u8 0, .int .u8 0, .int .u8 0, .int .u8 0, .int .u8 0, .int .u8 0, .int .u8 0, .int .u8 0, .int .u8 0, .int .u8 0, .int .u8 0, .int .u8 0, .int .u8 0, .int .u8 0, .int .u8 0, .int .u8 0, .int .u8 0, .int .u8 0, .int .u8 0, .int .u8 0, .int .u8 0, .int .u8 0, .int .u8 0, .int .u8 0, .int .u8 0, .int .u8 0, .int .u8 0, .int .u8 0, .int .u8 0, .int .u8 0, .int .u8 0, .int .u8 0, .int .u8 0, .int .u8 0, .int .u8 0, .int .u8 0, .int .u8 0, .int .u8 0, .int .u8 0, .int .u8 0, .int .u8 0, .int .u8 0, .int .u8 0, .int .u8 0, .int .u8 0, .int .u8 0, .int .u8 0, .int .u8 0, .int .u8 0, .int .u8 0, .int .u8 0, .int .u8 0, .int .u8 0, .int .u8 0, .int .u8 0, .int .u8 0, .int .u8 0, .int .u8 0, .int .u8 0, .int .u8 0, .int .u8 0, .int .u8 0, .int .u8 0, .int .u8 0, .int .u8 0, .int .u8 0, .int .u8 0, .int .u8 0, .int .u8 0, .int .u8 0, .int .u8 0, .int .u8 0, .int .u8 0, .int .u8 0, .int .u8 0, .int .u8 0, .int .u8 0, .int .u8 0, .int .u8 0, .int .u8 0, .int .u8 0, .int .u8 0, .int .u8 0, .int .u8 0, .int .u8 0, .int .u8 0, .int .u8 0, .int .u8 0, .int .u8 0, .int .u8 0, .int .u8 0, .int .u8 0, .int .u8 0, .int .u8 0, .int .u8 0, .int .u8 0, .int .u8 0, .int .u8 0, .int .u8 0, .int .u8 0, .int .u8 0, .int .u8 0, .int .u8 0, .int .u8 0, .int .u8 0, .int .u8 0, .int .u8 0, .int .u8 0, .int .u8 0, .int .u8 0, .int .u8 0, .int .u8 0, .int .u8 0, .int .u8 0, .int .u8 0, .int .u8 0, .int .u8 0, .int .u8 0, .int .u8 0, .int .u8 0, .int .u8 0, .int .u8 0, .int .u8 0, .int .u8 0, .int .u8 0, .int .u8 0, .int .u8 0, .int .u8 0, .int .u8 0, .int .u8 0, .int .u8 0, .int .u8 0, .int .u8 0, .int .u8 0, .int .u8 0, .int .u8 0, .int .u8 0, .int .u8 0, .int .u8 0, .int .u8 0, .int .u8 0, .int .u8 0, .int .u8 0, .int .u8 0, .int .u8 0, .int .u8 0, .int .u8 0, .int .u8 0, .int .u8 0, .int .u8 0, .int .u8 0, .int .u8 0, .int .u8 0, .int .u8 0, .int .u8 0, .int .u8 0, .int .u8 0, .int .u8 0, .int .u8 0, .int .u8 0, .int .u8 0, .int .u8 0, .int .u8 0, .int .u8 0, .int .u8 0, .int .u8 0, .int .u8 0, .int .u8 0, .int .u8 0, .int .u8 0, .int .u8 0, .int .u8 0, .int .u8 0, .int .u8 0, .int .u8 0, .int .u8 0]⟩),
  (295, ⟨.st [(0, 5), (1, 5)], 2, 2, [.int .u8 0, .int .u8 0]⟩),
  (296, ⟨.st [(0, 5), (1, 5)], 2, 2, [.int .u8 0, .int .u8 0]⟩),
  (297, ⟨.arr 16 296, 32, 32, [.int .u8 0, .int .u8 0, .int .u8 0, .int .u8 0, .int .u8 0, .int .u8 0, .int .u8 0, .int .u8 0, .int .u8 0, .int .u8 0, .int .u8 0, .int .u8 0, .int .u8 0, .int .u8 0, .int .u8 0, .int .u8 0, .int .u8 0, .int .u8 0, .int .u8 0, .int .u8 0, .int .u8 0, .int .u8 0, .int .u8 0, .int .u8 0, .int .u8 0, .int .u8 0, .int .u8 0, .int .u8 0, .int .u8 0, .int .u8 0, .int .u8 0, .int .u8 0]⟩),
  (298, ⟨.arr 32 5, 32, 32, [.int .u8 0, .int .u8 0, .int .u8 0, .int .u8 0, .int .u8 0, .int .u8 0, .int .u8 0, .int .u8 0, .int .u8 0, .int .u8 0, .int .u8 0, .int .u8 0, .int .u8 0, .int .u8 0, .int .u8 0, .int .u8 0, .int .u8 0, .int .u8 0, .int .u8 0, .int .u8 0, .int .u8 0, .int .u8 0, .int .u8 0, .int .u8 0, .int .u8 0, .int .u8 0, .int .u8 0, .int .u8 0, .int .u8 0, .int .u8 0, .int .u8 0, .int .u8 0]⟩),
  (299, ⟨.arr 64 5, 64, 64, [.int .u8 0, .int .u8 0, .int .u8 0, .int .u8 0, .int .u8 0, .int .u8 0, .int .u8 0, .int .u8 0, .int .u8 0, .int .u8 0, .int .u8 0, .int .u8 0, .int .u8 0, .int .u8 0, .int .u8 0, .int .u8 0, .int .u8 0, .int .u8 0, .int .u8 0, .int .u8 0, .int .u8 0, .int .u8 0, .int .u8 0, .int .u8 0, .int .u8 0, .int .u8 0, .int .u8 0, .int .u8 0, .int .u8 0, .int .u8 0, .int .u8 0, .int .u8 0, .int .u8 0, .int .u8 0, .int .u8 0, .int .u8 0, .int .u8 0, .int .u8 0, .int .u8 0, .int .u8 0, .int .u8 0, .int .u8 0, .int .u8 0, .int .u8 0, .int .u8 0, .int .u8 0, .int .u8 0, .int .u8 0, .int .u8 0, .int .u8 0, .int .u8 0, .int .u8 0, .int .u8 0, .int .u8 0, .int .u8 0, .int .u8 0, .int .u8 0, .int .u8 0, .int .u8 0, .int .u8 0, .int .u8 0, .int .u8 0, .int .u8 0, .int .u8 0]⟩),
  (300, ⟨.func, 1, 8, [.nilFunc]⟩),
  (301, ⟨.func, 1, 8, [.nilFunc]⟩),
  (302, ⟨.st [(0, 17), (1, 17), (2, 17), (3, 9)], 4, 40, [.pointer none, .pointer none, .pointer none, .string ByteArray.empty]⟩),
  (303, ⟨.st [(0, 17), (1, 17), (2, 17), (3, 9)], 4, 40, [.pointer none, .pointer none, .pointer none, .string ByteArray.empty]⟩),
  (304, ⟨.arr 0 16, 0, 0, []⟩),
  (305, ⟨.st [(0, 304)], 0, 0, []⟩),
  (306, ⟨.st [(0, 304)], 0, 0, []⟩),
  (307, ⟨.int .u8, 1, 1, [.int .u8 0]⟩),
  (308, ⟨.int .u8, 1, 1, [.int .u8 0]⟩),
  (309, ⟨.func, 1, 8, [.nilFunc]⟩),
  (310, ⟨.int .i32, 1, 4, [.int .i32 0]⟩),
  (311, ⟨.int .i32, 1, 4, [.int .i32 0]⟩),
  (312, ⟨.st [(0, 12), (1, 12), (2, 98), (3, 307), (4, 5), (5, 5), (6, 308), (7, 309), (8, 290), (9, 310), (10, 311)], 11, 48, [.int .u64 0, .int .u64 0, .int .u32 0, .int .u8 0, .int .u8 0, .int .u8 0, .int .u8 0, .nilFunc, .pointer none, .int .i32 0, .int .i32 0]⟩),
  (313, ⟨.st [(0, 12), (1, 12), (2, 98), (3, 307), (4, 5), (5, 5), (6, 308), (7, 309), (8, 290), (9, 310), (10, 311)], 11, 48, [.int .u64 0, .int .u64 0, .int .u32 0, .int .u8 0, .int .u8 0, .int .u8 0, .int .u8 0, .nilFunc, .pointer none, .int .i32 0, .int .i32 0]⟩),
  (314, ⟨.func, 1, 8, [.nilFunc]⟩),
  (315, ⟨.func, 1, 8, [.nilFunc]⟩),
  (316, ⟨.func, 1, 8, [.nilFunc]⟩),
  (317, ⟨.sl 40, 1, 24, [.slice none 0 0]⟩),
  (318, ⟨.func, 1, 8, [.nilFunc]⟩)]
set_option maxRecDepth 100000 in
theorem tab_ok : TabOk Go.Proofs.Tryz.prog tab :=
  .cons (.mk' (z := .nilFunc) ⟨_, _, _, Go.Proofs.Tryz.underlying1⟩ (by kernel_rfl) rfl (fun h => rfl))
  (.cons (.mk' (z := .int .i64 0) Go.Proofs.Tryz.underlying2 (by kernel_rfl) rfl (fun h => rfl))
  (.cons (.mk' (z := .int .i64 0) Go.Proofs.Tryz.underlying3 (by kernel_rfl) rfl (fun h => rfl))
  (.cons (.mk' (z := .bool false) Go.Proofs.Tryz.underlying4 (by kernel_rfl) rfl (fun h => rfl))
  (.cons (.mk' (z := .int .u8 0) Go.Proofs.Tryz.underlying5 (by kernel_rfl) rfl (fun h => rfl))
  (.cons (.mk' (z := .int .u8 0) Go.Proofs.Tryz.underlying6 (by kernel_rfl) rfl (fun h => rfl))
  (.cons (.mk' (z := .agg #[.int .i64 0, .int .i64 0, .bool false, .int .u8 0]) ⟨_, Go.Proofs.Tryz.underlying7, rfl⟩ (by kernel_rfl) rfl (fun h => by cases h))
  (.cons (.mk' (z := .agg #[.int .i64 0, .int .i64 0, .bool false, .int .u8 0]) ⟨_, Go.Proofs.Tryz.underlying8, rfl⟩ (by kernel_rfl) rfl (fun h => by cases h))
  (.cons (.mk' (z := .string ByteArray.empty) Go.Proofs.Tryz.underlying9 (by kernel_rfl) rfl (fun h => rfl))
  (.cons (.mk' (z := .string ByteArray.empty) Go.Proofs.Tryz.underlying10 (by kernel_rfl) rfl (fun h => rfl))
  (.cons (.mk' (z := .string ByteArray.empty) Go.Proofs.Tryz.underlying11 (by kernel_rfl) rfl (fun h => rfl))
  (.cons (.mk' (z := .int .u64 0) Go.Proofs.Tryz.underlying12 (by kernel_rfl) rfl (fun h => rfl))
  (.cons (.mk' (z := .agg #[.string ByteArray.empty, .int .u64 0]) ⟨_, Go.Proofs.Tryz.underlying13, rfl⟩ (by kernel_rfl) rfl (fun h => by cases h))
  (.cons (.mk' (z := .agg #[.string ByteArray.empty, .int .u64 0]) ⟨_, Go.Proofs.Tryz.underlying14, rfl⟩ (by kernel_rfl) rfl (fun h => by cases h))
  (.cons (.mk' (z := .pointer none) Go.Proofs.Tryz.underlying15 (by kernel_rfl) rfl (fun h => rfl))
  (.cons (.mk' (z := .pointer none) Go.Proofs.Tryz.underlying16 (by kernel_rfl) rfl (fun h => rfl))
  (.cons (.mk' (z := .pointer none) Go.Proofs.Tryz.underlying17 (by kernel_rfl) rfl (fun h => rfl))
  (.cons (.mk' (z := .agg #[.pointer none]) ⟨_, Go.Proofs.Tryz.underlying18, rfl⟩ (by kernel_rfl) rfl (fun h => by cases h))
  (.cons (.mk' (z := .agg #[.pointer none]) ⟨_, Go.Proofs.Tryz.underlying19, rfl⟩ (by kernel_rfl) rfl (fun h => by cases h))
  (.cons (.mk' (z := .nilIface) ⟨_, Go.Proofs.Tryz.underlying20⟩ (by kernel_rfl) rfl (fun h => rfl))
  (.cons (.mk' (z := .int .i32 0) Go.Proofs.Tryz.underlying21 (by kernel_rfl) rfl (fun h => rfl))
  (.cons (.mk' (z := .nilFunc) ⟨_, _, _, Go.Proofs.Tryz.underlying22⟩ (by kernel_rfl) rfl (fun h => rfl))
  (.cons (.mk' (z := .nilFunc) ⟨_, _, _, Go.Proofs.Tryz.underlying23⟩ (by kernel_rfl) rfl (fun h => rfl))
  (.cons (.mk' (z := .nilFunc) ⟨_, _, _, Go.Proofs.Tryz.underlying25⟩ (by kernel_rfl) rfl (fun h => rfl))
  (.cons (.mk' (z := .nilFunc) ⟨_, _, _, Go.Proofs.Tryz.underlying26⟩ (by kernel_rfl) rfl (fun h => rfl))
  (.cons (.mk' (z := .nilFunc) ⟨_, _, _, Go.Proofs.Tryz.underlying27⟩ (by kernel_rfl) rfl (fun h => rfl))
  (.cons (.mk' (z := .nilIface) ⟨_, Go.Proofs.Tryz.underlying28⟩ (by kernel_rfl) rfl (fun h => rfl))
  (.cons (.mk' (z := .nilIface) ⟨_, Go.Proofs.Tryz.underlying29⟩ (by kernel_rfl) rfl (fun h => rfl))
  (.cons (.mk' (z := .nilFunc) ⟨_, _, _, Go.Proofs.Tryz.underlying30⟩ (by kernel_rfl) rfl (fun h => rfl))
  (.cons (.mk' (z := .nilFunc) ⟨_, _, _, Go.Proofs.Tryz.underlying31⟩ (by kernel_rfl) rfl (fun h => rfl))
  (.cons (.mk' (z := .nilFunc) ⟨_, _, _, Go.Proofs.Tryz.underlying32⟩ (by kernel_rfl) rfl (fun h => rfl))
  (.cons (.mk' (z := .int .u64 0) Go.Proofs.Tryz.underlying33 (by kernel_rfl) rfl (fun h => rfl))
  (.cons (.mk' (z := .nilFunc) ⟨_, _, _, Go.Proofs.Tryz.underlying34⟩ (by kernel_rfl) rfl (fun h => rfl))
  (.cons (.mk' (z := .nilFunc) ⟨_, _, _, Go.Proofs.Tryz.underlying35⟩ (by kernel_rfl) rfl (fun h => rfl))
  (.cons (.mk' (z := .pointer none) Go.Proofs.Tryz.underlying36 (by kernel_rfl) rfl (fun h => rfl))
  (.cons (.mk' (z := .nilFunc) ⟨_, _, _, Go.Proofs.Tryz.underlying37⟩ (by kernel_rfl) rfl (fun h => rfl))
  (.cons (.mk' (z := .nilFunc) ⟨_, _, _, Go.Proofs.Tryz.underlying38⟩ (by kernel_rfl) rfl (fun h => rfl))
  (.cons (.mk' (z := .nilFunc) ⟨_, _, _, Go.Proofs.Tryz.underlying39⟩ (by kernel_rfl) rfl (fun h => rfl))
  (.cons (.mk' (z := .slice none 0 0) Go.Proofs.Tryz.underlying40 (by kernel_rfl) rfl (fun h => rfl))
  (.cons (.mk' (z := .agg #[.slice none 0 0, .slice none 0 0, .slice none 0 0, .int .i64 0, .int .i64 0]) ⟨_, Go.Proofs.Tryz.underlying41, rfl⟩ (by kernel_rfl) rfl (fun h => by cases h))
  (.cons (.mk' (z := .agg #[.slice none 0 0, .slice none 0 0, .slice none 0 0, .int .i64 0, .int .i64 0]) ⟨_, Go.Proofs.Tryz.underlying42, rfl⟩ (by kernel_rfl) rfl (fun h => by cases h))
  (.cons (.mk' (z := .nilFunc) ⟨_, _, _, Go.Proofs.Tryz.underlying43⟩ (by kernel_rfl) rfl (fun h => rfl))
  (.cons (.mk' (z := .nilFunc) ⟨_, _, _, Go.Proofs.Tryz.underlying44⟩ (by kernel_rfl) rfl (fun h => rfl))
  (.cons (.mk' (z := .nilFunc) ⟨_, _, _, Go.Proofs.Tryz.underlying45⟩ (by kernel_rfl) rfl (fun h => rfl))
  (.cons (.mk' (z := .nilFunc) ⟨_, _, _, Go.Proofs.Tryz.underlying47⟩ (by kernel_rfl) rfl (fun h => rfl))
  (.cons (.mk' (z := .pointer none) Go.Proofs.Tryz.underlying48 (by kernel_rfl) rfl (fun h => rfl))
  (.cons (.mk' (z := .nilFunc) ⟨_, _, _, Go.Proofs.Tryz.underlying50⟩ (by kernel_rfl) rfl (fun h => rfl))
  (.cons (.mk' (z := .nilFunc) ⟨_, _, _, Go.Proofs.Tryz.underlying51⟩ (by kernel_rfl) rfl (fun h => rfl))
  (.cons (.mk' (z := .nilFunc) ⟨_, _, _, Go.Proofs.Tryz.underlying52⟩ (by kernel_rfl) rfl (fun h => rfl))
  (.cons (.mk' (z := .nilFunc) ⟨_, _, _, Go.Proofs.Tryz.underlying53⟩ (by kernel_rfl) rfl (fun h => rfl))
  (.cons (.mk' (z := .slice none 0 0) Go.Proofs.Tryz.underlying54 (by kernel_rfl) rfl (fun h => rfl))
  (.cons (.mk' (z := .pointer none) Go.Proofs.Tryz.underlying55 (by kernel_rfl) rfl (fun h => rfl))
  (.cons (.mk' (z := .nilFunc) ⟨_, _, _, Go.Proofs.Tryz.underlying56⟩ (by kernel_rfl) rfl (fun h => rfl))
  (.cons (.mk' (z := .map none) Go.Proofs.Tryz.underlying57 (by kernel_rfl) rfl (fun h => rfl))
  (.cons (.mk' (z := .int .i64 0) Go.Proofs.Tryz.underlying58 (by kernel_rfl) rfl (fun h => rfl))
  (.cons (.mk' (z := .nilFunc) ⟨_, _, _, Go.Proofs.Tryz.underlying59⟩ (by kernel_rfl) rfl (fun h => rfl))
  (.cons (.mk' (z := .nilFunc) ⟨_, _, _, Go.Proofs.Tryz.underlying60⟩ (by kernel_rfl) rfl (fun h => rfl))
  (.cons (.mk' (z := .slice none 0 0) Go.Proofs.Tryz.underlying61 (by kernel_rfl) rfl (fun h => rfl))
  (.cons (.mk' (z := .nilFunc) ⟨_, _, _, Go.Proofs.Tryz.underlying62⟩ (by kernel_rfl) rfl (fun h => rfl))
  (.cons (.mk' (z := .agg #[.int .i64 0, .string ByteArray.empty]) ⟨_, Go.Proofs.Tryz.underlying63, rfl⟩ (by kernel_rfl) rfl (fun h => by cases h))
  (.cons (.mk' (z := .agg #[.int .i64 0, .string ByteArray.empty]) ⟨_, Go.Proofs.Tryz.underlying64, rfl⟩ (by kernel_rfl) rfl (fun h => by cases h))
  (.cons (.mk' (z := .slice none 0 0) Go.Proofs.Tryz.underlying65 (by kernel_rfl) rfl (fun h => rfl))
  (.cons (.mk' (z := .nilFunc) ⟨_, _, _, Go.Proofs.Tryz.underlying66⟩ (by kernel_rfl) rfl (fun h => rfl))
  (.cons (.mk' (z := .nilFunc) ⟨_, _, _, Go.Proofs.Tryz.underlying67⟩ (by kernel_rfl) rfl (fun h => rfl))
  (.cons (.mk' (z := .nilFunc) ⟨_, _, _, Go.Proofs.Tryz.underlying68⟩ (by kernel_rfl) rfl (fun h => rfl))
  (.cons (.mk' (z := .nilFunc) ⟨_, _, _, Go.Proofs.Tryz.underlying69⟩ (by kernel_rfl) rfl (fun h => rfl))
  (.cons (.mk' (z := .slice none 0 0) Go.Proofs.Tryz.underlying70 (by kernel_rfl) rfl (fun h => rfl))
  (.cons (.mk' (z := .pointer none) Go.Proofs.Tryz.underlying71 (by kernel_rfl) rfl (fun h => rfl))
  (.cons (.mk' (z := .nilFunc) ⟨_, _, _, Go.Proofs.Tryz.underlying72⟩ (by kernel_rfl) rfl (fun h => rfl))
  (.cons (.mk' (z := .agg #[.int .i64 0, .int .i64 0, .string ByteArray.empty, .slice none 0 0]) ⟨_, Go.Proofs.Tryz.underlying73, rfl⟩ (by kernel_rfl) rfl (fun h => by cases h))
  (.cons (.mk' (z := .agg #[.int .i64 0, .int .i64 0, .string ByteArray.empty, .slice none 0 0]) ⟨_, Go.Proofs.Tryz.underlying74, rfl⟩ (by kernel_rfl) rfl (fun h => by cases h))
  (.cons (.mk' (z := .nilFunc) ⟨_, _, _, Go.Proofs.Tryz.underlying75⟩ (by kernel_rfl) rfl (fun h => rfl))
  (.cons (.mk' (z := .nilFunc) ⟨_, _, _, Go.Proofs.Tryz.underlying76⟩ (by kernel_rfl) rfl (fun h => rfl))
  (.cons (.mk' (z := .agg #[.string ByteArray.empty, .string ByteArray.empty, .string ByteArray.empty, .string ByteArray.empty, .string ByteArray.empty, .string ByteArray.empty, .string ByteArray.empty, .string ByteArray.empty, .string ByteArray.empty]) Go.Proofs.Tryz.underlying77 (by kernel_rfl) rfl (fun h => by cases h))
  (.cons (.mk' (z := .agg #[.bool false, .string ByteArray.empty, .string ByteArray.empty, .string ByteArray.empty, .string ByteArray.empty, .string ByteArray.empty, .string ByteArray.empty, .string ByteArray.empty, .string ByteArray.empty, .string ByteArray.empty, .string ByteArray.empty, .string ByteArray.empty, .string ByteArray.empty, .string ByteArray.empty, .string ByteArray.empty, .string ByteArray.empty, .string ByteArray.empty, .string ByteArray.empty, .string ByteArray.empty, .string ByteArray.empty, .string ByteArray.empty, .string ByteArray.empty, .string ByteArray.empty, .string ByteArray.empty, .string ByteArray.empty, .string ByteArray.empty, .string ByteArray.empty, .string ByteArray.empty, .string ByteArray.empty, .string ByteArray.empty, .string ByteArray.empty, .string ByteArray.empty, .string ByteArray.empty, .string ByteArray.empty, .string ByteArray.empty, .string ByteArray.empty, .string ByteArray.empty, .slice none 0 0]) ⟨_, Go.Proofs.Tryz.underlying78, rfl⟩ (by kernel_rfl) rfl (fun h => by cases h))
  (.cons (.mk' (z := .agg #[.bool false, .string ByteArray.empty, .string ByteArray.empty, .string ByteArray.empty, .string ByteArray.empty, .string ByteArray.empty, .string ByteArray.empty, .string ByteArray.empty, .string ByteArray.empty, .string ByteArray.empty, .string ByteArray.empty, .string ByteArray.empty, .string ByteArray.empty, .string ByteArray.empty, .string ByteArray.empty, .string ByteArray.empty, .string ByteArray.empty, .string ByteArray.empty, .string ByteArray.empty, .string ByteArray.empty, .string ByteArray.empty, .string ByteArray.empty, .string ByteArray.empty, .string ByteArray.empty, .string ByteArray.empty, .string ByteArray.empty, .string ByteArray.empty, .string ByteArray.empty, .string ByteArray.empty, .string ByteArray.empty, .string ByteArray.empty, .string ByteArray.empty, .string ByteArray.empty, .string ByteArray.empty, .string ByteArray.empty, .string ByteArray.empty, .string ByteArray.empty, .slice none 0 0]) ⟨_, Go.Proofs.Tryz.underlying79, rfl⟩ (by kernel_rfl) rfl (fun h => by cases h))
  (.cons (.mk' (z := .nilFunc) ⟨_, _, _, Go.Proofs.Tryz.underlying80⟩ (by kernel_rfl) rfl (fun h => rfl))
  (.cons (.mk' (z := .slice none 0 0) Go.Proofs.Tryz.underlying81 (by kernel_rfl) rfl (fun h => rfl))
  (.cons (.mk' (z := .nilFunc) ⟨_, _, _, Go.Proofs.Tryz.underlying82⟩ (by kernel_rfl) rfl (fun h => rfl))
  (.cons (.mk' (z := .pointer none) Go.Proofs.Tryz.underlying83 (by kernel_rfl) rfl (fun h => rfl))
  (.cons (.mk' (z := .nilFunc) ⟨_, _, _, Go.Proofs.Tryz.underlying84⟩ (by kernel_rfl) rfl (fun h => rfl))
  (.cons (.mk' (z := .nilFunc) ⟨_, _, _, Go.Proofs.Tryz.underlying85⟩ (by kernel_rfl) rfl (fun h => rfl))
  (.cons (.mk' (z := .nilFunc) ⟨_, _, _, Go.Proofs.Tryz.underlying86⟩ (by kernel_rfl) rfl (fun h => rfl))
  (.cons (.mk' (z := .pointer none) Go.Proofs.Tryz.underlying87 (by kernel_rfl) rfl (fun h => rfl))
  (.cons (.mk' (z := .nilFunc) ⟨_, _, _, Go.Proofs.Tryz.underlying88⟩ (by kernel_rfl) rfl (fun h => rfl))
  (.cons (.mk' (z := .nilFunc) ⟨_, _, _, Go.Proofs.Tryz.underlying89⟩ (by kernel_rfl) rfl (fun h => rfl))
  (.cons (.mk' (z := .nilFunc) ⟨_, _, _, Go.Proofs.Tryz.underlying90⟩ (by kernel_rfl) rfl (fun h => rfl))
  (.cons (.mk' (z := .nilFunc) ⟨_, _, _, Go.Proofs.Tryz.underlying92⟩ (by kernel_rfl) rfl (fun h => rfl))
  (.cons (.mk' (z := .agg #[.int .i64 0, .int .u64 0, .int .u64 0, .int .u64 0, .int .u64 0, .int .u64 0, .int .i64 0, .int .i64 0]) ⟨_, Go.Proofs.Tryz.underlying93, rfl⟩ (by kernel_rfl) rfl (fun h => by cases h))
  (.cons (.mk' (z := .agg #[.int .i64 0, .int .u64 0, .int .u64 0, .int .u64 0, .int .u64 0, .int .u64 0, .int .i64 0, .int .i64 0]) ⟨_, Go.Proofs.Tryz.underlying94, rfl⟩ (by kernel_rfl) rfl (fun h => by cases h))
  (.cons (.mk' (z := .nilFunc) ⟨_, _, _, Go.Proofs.Tryz.underlying96⟩ (by kernel_rfl) rfl (fun h => rfl))
  (.cons (.mk' (z := .nilFunc) ⟨_, _, _, Go.Proofs.Tryz.underlying97⟩ (by kernel_rfl) rfl (fun h => rfl))
  (.cons (.mk' (z := .int .u32 0) Go.Proofs.Tryz.underlying98 (by kernel_rfl) rfl (fun h => rfl))
  (.cons (.mk' (z := .agg #[.int .u8 0, .int .u8 0, .int .u8 0]) Go.Proofs.Tryz.underlying99 (by kernel_rfl) rfl (fun h => by cases h))
  (.cons (.mk' (z := .agg #[.int .i64 0, .int .i64 0, .int .i64 0, .int .i64 0, .int .i64 0, .int .i64 0, .int .i64 0, .bool false, .int .u64 0, .int .u64 0, .int .u32 0, .int .i64 0, .int .u8 0, .int .u8 0, .int .u8 0]) ⟨_, Go.Proofs.Tryz.underlying100, rfl⟩ (by kernel_rfl) rfl (fun h => by cases h))
  (.cons (.mk' (z := .agg #[.int .i64 0, .int .i64 0, .int .i64 0, .int .i64 0, .int .i64 0, .int .i64 0, .int .i64 0, .bool false, .int .u64 0, .int .u64 0, .int .u32 0, .int .i64 0, .int .u8 0, .int .u8 0, .int .u8 0]) ⟨_, Go.Proofs.Tryz.underlying101, rfl⟩ (by kernel_rfl) rfl (fun h => by cases h))
  (.cons (.mk' (z := .agg #[.int .i64 0, .int .i64 0, .int .i64 0, .int .i64 0, .int .i64 0, .int .i64 0, .int .i64 0, .bool false, .int .u64 0, .int .u64 0, .int .u32 0, .int .i64 0, .int .u8 0, .int .u8 0, .int .u8 0, .slice none 0 0, .string ByteArray.empty]) ⟨_, Go.Proofs.Tryz.underlying102, rfl⟩ (by kernel_rfl) rfl (fun h => by cases h))
  (.cons (.mk' (z := .agg #[.int .i64 0, .int .i64 0, .int .i64 0, .int .i64 0, .int .i64 0, .int .i64 0, .int .i64 0, .bool false, .int .u64 0, .int .u64 0, .int .u32 0, .int .i64 0, .int .u8 0, .int .u8 0, .int .u8 0, .slice none 0 0, .string ByteArray.empty]) ⟨_, Go.Proofs.Tryz.underlying103, rfl⟩ (by kernel_rfl) rfl (fun h => by cases h))
  (.cons (.mk' (z := .nilFunc) ⟨_, _, _, Go.Proofs.Tryz.underlying104⟩ (by kernel_rfl) rfl (fun h => rfl))
  (.cons (.mk' (z := .nilFunc) ⟨_, _, _, Go.Proofs.Tryz.underlying106⟩ (by kernel_rfl) rfl (fun h => rfl))
  (.cons (.mk' (z := .nilFunc) ⟨_, _, _, Go.Proofs.Tryz.underlying108⟩ (by kernel_rfl) rfl (fun h => rfl))
  (.cons (.mk' (z := .nilFunc) ⟨_, _, _, Go.Proofs.Tryz.underlying109⟩ (by kernel_rfl) rfl (fun h => rfl))
  (.cons (.mk' (z := .nilFunc) ⟨_, _, _, Go.Proofs.Tryz.underlying110⟩ (by kernel_rfl) rfl (fun h => rfl))
  (.cons (.mk' (z := .pointer none) Go.Proofs.Tryz.underlying111 (by kernel_rfl) rfl (fun h => rfl))
  (.cons (.mk' (z := .nilFunc) ⟨_, _, _, Go.Proofs.Tryz.underlying112⟩ (by kernel_rfl) rfl (fun h => rfl))
  (.cons (.mk' (z := .agg #[.pointer none]) ⟨_, Go.Proofs.Tryz.underlying113, rfl⟩ (by kernel_rfl) rfl (fun h => by cases h))
  (.cons (.mk' (z := .agg #[.pointer none]) ⟨_, Go.Proofs.Tryz.underlying114, rfl⟩ (by kernel_rfl) rfl (fun h => by cases h))
  (.cons (.mk' (z := .pointer none) Go.Proofs.Tryz.underlying115 (by kernel_rfl) rfl (fun h => rfl))
  (.cons (.mk' (z := .agg #[.pointer none, .pointer none, .int .u64 0]) ⟨_, Go.Proofs.Tryz.underlying116, rfl⟩ (by kernel_rfl) rfl (fun h => by cases h))
  (.cons (.mk' (z := .agg #[.pointer none, .pointer none, .int .u64 0]) ⟨_, Go.Proofs.Tryz.underlying117, rfl⟩ (by kernel_rfl) rfl (fun h => by cases h))
  (.cons (.mk' (z := .nilFunc) ⟨_, _, _, Go.Proofs.Tryz.underlying119⟩ (by kernel_rfl) rfl (fun h => rfl))
  (.cons (.mk' (z := .int .u64 0) Go.Proofs.Tryz.underlying120 (by kernel_rfl) rfl (fun h => rfl))
  (.cons (.mk' (z := .pointer none) Go.Proofs.Tryz.underlying121 (by kernel_rfl) rfl (fun h => rfl))
  (.cons (.mk' (z := .agg #[.int .u64 0, .int .u64 0, .int .u64 0, .int .i64 0, .bool false, .int .i64 0, .pointer none, .bool false, .bool false, .int .i64 0]) ⟨_, Go.Proofs.Tryz.underlying122, rfl⟩ (by kernel_rfl) rfl (fun h => by cases h))
  (.cons (.mk' (z := .agg #[.int .u64 0, .int .u64 0, .int .u64 0, .int .i64 0, .bool false, .int .i64 0, .pointer none, .bool false, .bool false, .int .i64 0]) ⟨_, Go.Proofs.Tryz.underlying123, rfl⟩ (by kernel_rfl) rfl (fun h => by cases h))
  (.cons (.mk' (z := .pointer none) Go.Proofs.Tryz.underlying125 (by kernel_rfl) rfl (fun h => rfl))
  (.cons (.mk' (z := .agg #[.int .u64 0, .bool false]) ⟨_, Go.Proofs.Tryz.underlying126, rfl⟩ (by kernel_rfl) rfl (fun h => by cases h))
  (.cons (.mk' (z := .agg #[.int .u64 0, .bool false]) ⟨_, Go.Proofs.Tryz.underlying127, rfl⟩ (by kernel_rfl) rfl (fun h => by cases h))
  (.cons (.mk' (z := .agg #[.int .i64 0, .int .i64 0, .int .i64 0, .int .i64 0, .pointer none, .int .u64 0, .bool false, .int .u64 0, .bool false, .bool false, .int .i64 0]) ⟨_, Go.Proofs.Tryz.underlying128, rfl⟩ (by kernel_rfl) rfl (fun h => by cases h))
  (.cons (.mk' (z := .agg #[.int .i64 0, .int .i64 0, .int .i64 0, .int .i64 0, .pointer none, .int .u64 0, .bool false, .int .u64 0, .bool false, .bool false, .int .i64 0]) ⟨_, Go.Proofs.Tryz.underlying129, rfl⟩ (by kernel_rfl) rfl (fun h => by cases h))
  (.cons (.mk' (z := .map none) Go.Proofs.Tryz.underlying130 (by kernel_rfl) rfl (fun h => rfl))
  (.cons (.mk' (z := .agg #[.bool false, .map none, .map none, .map none, .map none, .slice none 0 0]) ⟨_, Go.Proofs.Tryz.underlying131, rfl⟩ (by kernel_rfl) rfl (fun h => by cases h))
  (.cons (.mk' (z := .agg #[.bool false, .map none, .map none, .map none, .map none, .slice none 0 0]) ⟨_, Go.Proofs.Tryz.underlying132, rfl⟩ (by kernel_rfl) rfl (fun h => by cases h))
  (.cons (.mk' (z := .nilFunc) ⟨_, _, _, Go.Proofs.Tryz.underlying133⟩ (by kernel_rfl) rfl (fun h => rfl))
  (.cons (.mk' (z := .nilFunc) ⟨_, _, _, Go.Proofs.Tryz.underlying134⟩ (by kernel_rfl) rfl (fun h => rfl))
  (.cons (.mk' (z := .nilFunc) ⟨_, _, _, Go.Proofs.Tryz.underlying135⟩ (by kernel_rfl) rfl (fun h => rfl))
  (.cons (.mk' (z := .nilFunc) ⟨_, _, _, Go.Proofs.Tryz.underlying136⟩ (by kernel_rfl) rfl (fun h => rfl))
  (.cons (.mk' (z := .nilFunc) ⟨_, _, _, Go.Proofs.Tryz.underlying138⟩ (by kernel_rfl) rfl (fun h => rfl))
  (.cons (.mk' (z := .nilFunc) ⟨_, _, _, Go.Proofs.Tryz.underlying139⟩ (by kernel_rfl) rfl (fun h => rfl))
  (.cons (.mk' (z := .nilFunc) ⟨_, _, _, Go.Proofs.Tryz.underlying140⟩ (by kernel_rfl) rfl (fun h => rfl))
  (.cons (.mk' (z := .agg #[.int .u64 0, .int .u64 0, .int .u64 0, .int .u64 0, .int .i64 0]) ⟨_, Go.Proofs.Tryz.underlying141, rfl⟩ (by kernel_rfl) rfl (fun h => by cases h))
  (.cons (.mk' (z := .agg #[.int .u64 0, .int .u64 0, .int .u64 0, .int .u64 0, .int .i64 0]) ⟨_, Go.Proofs.Tryz.underlying142, rfl⟩ (by kernel_rfl) rfl (fun h => by cases h))
  (.cons (.mk' (z := .nilFunc) ⟨_, _, _, Go.Proofs.Tryz.underlying143⟩ (by kernel_rfl) rfl (fun h => rfl))
  (.cons (.mk' (z := .nilFunc) ⟨_, _, _, Go.Proofs.Tryz.underlying144⟩ (by kernel_rfl) rfl (fun h => rfl))
  (.cons (.mk' (z := .slice none 0 0) Go.Proofs.Tryz.underlying145 (by kernel_rfl) rfl (fun h => rfl))
  (.cons (.mk' (z := .agg #[.slice none 0 0, .int .i64 0]) ⟨_, Go.Proofs.Tryz.underlying146, rfl⟩ (by kernel_rfl) rfl (fun h => by cases h))
  (.cons (.mk' (z := .agg #[.slice none 0 0, .int .i64 0]) ⟨_, Go.Proofs.Tryz.underlying147, rfl⟩ (by kernel_rfl) rfl (fun h => by cases h))
  (.cons (.mk' (z := .nilFunc) ⟨_, _, _, Go.Proofs.Tryz.underlying149⟩ (by kernel_rfl) rfl (fun h => rfl))
  (.cons (.mk' (z := .nilFunc) ⟨_, _, _, Go.Proofs.Tryz.underlying150⟩ (by kernel_rfl) rfl (fun h => rfl))
  (.cons (.mk' (z := .nilFunc) ⟨_, _, _, Go.Proofs.Tryz.underlying151⟩ (by kernel_rfl) rfl (fun h => rfl))
  (.cons (.mk' (z := .nilFunc) ⟨_, _, _, Go.Proofs.Tryz.underlying152⟩ (by kernel_rfl) rfl (fun h => rfl))
  (.cons (.mk' (z := .nilFunc) ⟨_, _, _, Go.Proofs.Tryz.underlying153⟩ (by kernel_rfl) rfl (fun h => rfl))
  (.cons (.mk' (z := .nilFunc) ⟨_, _, _, Go.Proofs.Tryz.underlying154⟩ (by kernel_rfl) rfl (fun h => rfl))
  (.cons (.mk' (z := .nilFunc) ⟨_, _, _, Go.Proofs.Tryz.underlying155⟩ (by kernel_rfl) rfl (fun h => rfl))
  (.cons (.mk' (z := .nilFunc) ⟨_, _, _, Go.Proofs.Tryz.underlying156⟩ (by kernel_rfl) rfl (fun h => rfl))
  (.cons (.mk' (z := .nilFunc) ⟨_, _, _, Go.Proofs.Tryz.underlying157⟩ (by kernel_rfl) rfl (fun h => rfl))
  (.cons (.mk' (z := .nilFunc) ⟨_, _, _, Go.Proofs.Tryz.underlying158⟩ (by kernel_rfl) rfl (fun h => rfl))
  (.cons (.mk' (z := .pointer none) Go.Proofs.Tryz.underlying159 (by kernel_rfl) rfl (fun h => rfl))
  (.cons (.mk' (z := .nilFunc) ⟨_, _, _, Go.Proofs.Tryz.underlying160⟩ (by kernel_rfl) rfl (fun h => rfl))
  (.cons (.mk' (z := .pointer none) Go.Proofs.Tryz.underlying161 (by kernel_rfl) rfl (fun h => rfl))
  (.cons (.mk' (z := .nilFunc) ⟨_, _, _, Go.Proofs.Tryz.underlying162⟩ (by kernel_rfl) rfl (fun h => rfl))
  (.cons (.mk' (z := .pointer none) Go.Proofs.Tryz.underlying163 (by kernel_rfl) rfl (fun h => rfl))
  (.cons (.mk' (z := .nilFunc) ⟨_, _, _, Go.Proofs.Tryz.underlying164⟩ (by kernel_rfl) rfl (fun h => rfl))
  (.cons (.mk' (z := .nilFunc) ⟨_, _, _, Go.Proofs.Tryz.underlying165⟩ (by kernel_rfl) rfl (fun h => rfl))
  (.cons (.mk' (z := .slice none 0 0) Go.Proofs.Tryz.underlying166 (by kernel_rfl) rfl (fun h => rfl))
  (.cons (.mk' (z := .nilFunc) ⟨_, _, _, Go.Proofs.Tryz.underlying167⟩ (by kernel_rfl) rfl (fun h => rfl))
  (.cons (.mk' (z := .nilFunc) ⟨_, _, _, Go.Proofs.Tryz.underlying168⟩ (by kernel_rfl) rfl (fun h => rfl))
  (.cons (.mk' (z := .nilFunc) ⟨_, _, _, Go.Proofs.Tryz.underlying169⟩ (by kernel_rfl) rfl (fun h => rfl))
  (.cons (.mk' (z := .nilFunc) ⟨_, _, _, Go.Proofs.Tryz.underlying170⟩ (by kernel_rfl) rfl (fun h => rfl))
  (.cons (.mk' (z := .nilFunc) ⟨_, _, _, Go.Proofs.Tryz.underlying171⟩ (by kernel_rfl) rfl (fun h => rfl))
  (.cons (.mk' (z := .nilFunc) ⟨_, _, _, Go.Proofs.Tryz.underlying173⟩ (by kernel_rfl) rfl (fun h => rfl))
  (.cons (.mk' (z := .agg #[.int .i64 0, .int .i64 0]) ⟨_, Go.Proofs.Tryz.underlying174, rfl⟩ (by kernel_rfl) rfl (fun h => by cases h))
  (.cons (.mk' (z := .agg #[.int .i64 0, .int .i64 0]) ⟨_, Go.Proofs.Tryz.underlying175, rfl⟩ (by kernel_rfl) rfl (fun h => by cases h))
  (.cons (.mk' (z := .nilFunc) ⟨_, _, _, Go.Proofs.Tryz.underlying176⟩ (by kernel_rfl) rfl (fun h => rfl))
  (.cons (.mk' (z := .agg #[.int .i64 0, .int .u64 0]) ⟨_, Go.Proofs.Tryz.underlying177, rfl⟩ (by kernel_rfl) rfl (fun h => by cases h))
  (.cons (.mk' (z := .agg #[.int .i64 0, .int .u64 0]) ⟨_, Go.Proofs.Tryz.underlying178, rfl⟩ (by kernel_rfl) rfl (fun h => by cases h))
  (.cons (.mk' (z := .slice none 0 0) Go.Proofs.Tryz.underlying179 (by kernel_rfl) rfl (fun h => rfl))
  (.cons (.mk' (z := .agg #[.slice none 0 0]) ⟨_, Go.Proofs.Tryz.underlying180, rfl⟩ (by kernel_rfl) rfl (fun h => by cases h))
  (.cons (.mk' (z := .agg #[.slice none 0 0]) ⟨_, Go.Proofs.Tryz.underlying181, rfl⟩ (by kernel_rfl) rfl (fun h => by cases h))
  (.cons (.mk' (z := .agg #[.bool false, .int .i64 0, .int .i64 0, .int .i64 0]) ⟨_, Go.Proofs.Tryz.underlying182, rfl⟩ (by kernel_rfl) rfl (fun h => by cases h))
  (.cons (.mk' (z := .agg #[.bool false, .int .i64 0, .int .i64 0, .int .i64 0]) ⟨_, Go.Proofs.Tryz.underlying183, rfl⟩ (by kernel_rfl) rfl (fun h => by cases h))
  (.cons (.mk' (z := .nilFunc) ⟨_, _, _, Go.Proofs.Tryz.underlying184⟩ (by kernel_rfl) rfl (fun h => rfl))
  (.cons (.mk' (z := .nilFunc) ⟨_, _, _, Go.Proofs.Tryz.underlying185⟩ (by kernel_rfl) rfl (fun h => rfl))
  (.cons (.mk' (z := .map none) Go.Proofs.Tryz.underlying186 (by kernel_rfl) rfl (fun h => rfl))
  (.cons (.mk' (z := .agg #[.map none, .int .u64 0, .bool false, .int .u64 0, .bool false]) ⟨_, Go.Proofs.Tryz.underlying187, rfl⟩ (by kernel_rfl) rfl (fun h => by cases h))
  (.cons (.mk' (z := .agg #[.map none, .int .u64 0, .bool false, .int .u64 0, .bool false]) ⟨_, Go.Proofs.Tryz.underlying188, rfl⟩ (by kernel_rfl) rfl (fun h => by cases h))
  (.cons (.mk' (z := .slice none 0 0) Go.Proofs.Tryz.underlying189 (by kernel_rfl) rfl (fun h => rfl))
  (.cons (.mk' (z := .agg #[.slice none 0 0, .int .u64 0, .bool false]) ⟨_, Go.Proofs.Tryz.underlying190, rfl⟩ (by kernel_rfl) rfl (fun h => by cases h))
  (.cons (.mk' (z := .agg #[.slice none 0 0, .int .u64 0, .bool false]) ⟨_, Go.Proofs.Tryz.underlying191, rfl⟩ (by kernel_rfl) rfl (fun h => by cases h))
  (.cons (.mk' (z := .map none) Go.Proofs.Tryz.underlying192 (by kernel_rfl) rfl (fun h => rfl))
  (.cons (.mk' (z := .map none) Go.Proofs.Tryz.underlying193 (by kernel_rfl) rfl (fun h => rfl))
  (.cons (.mk' (z := .agg #[.int .i64 0, .bool false, .int .i64 0, .int .u64 0, .int .u64 0, .map none, .map none, .int .i64 0, .bool false, .int .i64 0, .int .u64 0, .slice none 0 0, .int .u64 0, .int .i64 0]) ⟨_, Go.Proofs.Tryz.underlying194, rfl⟩ (by kernel_rfl) rfl (fun h => by cases h))
  (.cons (.mk' (z := .agg #[.int .i64 0, .bool false, .int .i64 0, .int .u64 0, .int .u64 0, .map none, .map none, .int .i64 0, .bool false, .int .i64 0, .int .u64 0, .slice none 0 0, .int .u64 0, .int .i64 0]) ⟨_, Go.Proofs.Tryz.underlying195, rfl⟩ (by kernel_rfl) rfl (fun h => by cases h))
  (.cons (.mk' (z := .nilFunc) ⟨_, _, _, Go.Proofs.Tryz.underlying196⟩ (by kernel_rfl) rfl (fun h => rfl))
  (.cons (.mk' (z := .nilFunc) ⟨_, _, _, Go.Proofs.Tryz.underlying197⟩ (by kernel_rfl) rfl (fun h => rfl))
  (.cons (.mk' (z := .nilFunc) ⟨_, _, _, Go.Proofs.Tryz.underlying198⟩ (by kernel_rfl) rfl (fun h => rfl))
  (.cons (.mk' (z := .agg #[.int .u64 0, .int .i64 0, .int .i64 0]) ⟨_, Go.Proofs.Tryz.underlying199, rfl⟩ (by kernel_rfl) rfl (fun h => by cases h))
  (.cons (.mk' (z := .agg #[.int .u64 0, .int .i64 0, .int .i64 0]) ⟨_, Go.Proofs.Tryz.underlying200, rfl⟩ (by kernel_rfl) rfl (fun h => by cases h))
  (.cons (.mk' (z := .nilFunc) ⟨_, _, _, Go.Proofs.Tryz.underlying201⟩ (by kernel_rfl) rfl (fun h => rfl))
  (.cons (.mk' (z := .nilFunc) ⟨_, _, _, Go.Proofs.Tryz.underlying202⟩ (by kernel_rfl) rfl (fun h => rfl))
  (.cons (.mk' (z := .pointer none) Go.Proofs.Tryz.underlying203 (by kernel_rfl) rfl (fun h => rfl))
  (.cons (.mk' (z := .nilFunc) ⟨_, _, _, Go.Proofs.Tryz.underlying204⟩ (by kernel_rfl) rfl (fun h => rfl))
  (.cons (.mk' (z := .nilFunc) ⟨_, _, _, Go.Proofs.Tryz.underlying205⟩ (by kernel_rfl) rfl (fun h => rfl))
  (.cons (.mk' (z := .nilFunc) ⟨_, _, _, Go.Proofs.Tryz.underlying206⟩ (by kernel_rfl) rfl (fun h => rfl))
  (.cons (.mk' (z := .nilFunc) ⟨_, _, _, Go.Proofs.Tryz.underlying207⟩ (by kernel_rfl) rfl (fun h => rfl))
  (.cons (.mk' (z := .nilFunc) ⟨_, _, _, Go.Proofs.Tryz.underlying208⟩ (by kernel_rfl) rfl (fun h => rfl))
  (.cons (.mk' (z := .nilFunc) ⟨_, _, _, Go.Proofs.Tryz.underlying209⟩ (by kernel_rfl) rfl (fun h => rfl))
  (.cons (.mk' (z := .nilFunc) ⟨_, _, _, Go.Proofs.Tryz.underlying210⟩ (by kernel_rfl) rfl (fun h => rfl))
  (.cons (.mk' (z := .slice none 0 0) Go.Proofs.Tryz.underlying211 (by kernel_rfl) rfl (fun h => rfl))
  (.cons (.mk' (z := .nilFunc) ⟨_, _, _, Go.Proofs.Tryz.underlying213⟩ (by kernel_rfl) rfl (fun h => rfl))
  (.cons (.mk' (z := .nilFunc) ⟨_, _, _, Go.Proofs.Tryz.underlying215⟩ (by kernel_rfl) rfl (fun h => rfl))
  (.cons (.mk' (z := .nilFunc) ⟨_, _, _, Go.Proofs.Tryz.underlying217⟩ (by kernel_rfl) rfl (fun h => rfl))
  (.cons (.mk' (z := .nilFunc) ⟨_, _, _, Go.Proofs.Tryz.underlying219⟩ (by kernel_rfl) rfl (fun h => rfl))
  (.cons (.mk' (z := .nilFunc) ⟨_, _, _, Go.Proofs.Tryz.underlying220⟩ (by kernel_rfl) rfl (fun h => rfl))
  (.cons (.mk' (z := .nilFunc) ⟨_, _, _, Go.Proofs.Tryz.underlying221⟩ (by kernel_rfl) rfl (fun h => rfl))
  (.cons (.mk' (z := .nilFunc) ⟨_, _, _, Go.Proofs.Tryz.underlying222⟩ (by kernel_rfl) rfl (fun h => rfl))
  (.cons (.mk' (z := .nilFunc) ⟨_, _, _, Go.Proofs.Tryz.underlying223⟩ (by kernel_rfl) rfl (fun h => rfl))
  (.cons (.mk' (z := .nilFunc) ⟨_, _, _, Go.Proofs.Tryz.underlying225⟩ (by kernel_rfl) rfl (fun h => rfl))
  (.cons (.mk' (z := .nilFunc) ⟨_, _, _, Go.Proofs.Tryz.underlying226⟩ (by kernel_rfl) rfl (fun h => rfl))
  (.cons (.mk' (z := .nilFunc) ⟨_, _, _, Go.Proofs.Tryz.underlying227⟩ (by kernel_rfl) rfl (fun h => rfl))
  (.cons (.mk' (z := .nilIface) ⟨_, Go.Proofs.Tryz.underlying228⟩ (by kernel_rfl) rfl (fun h => rfl))
  (.cons (.mk' (z := .nilIface) ⟨_, Go.Proofs.Tryz.underlying229⟩ (by kernel_rfl) rfl (fun h => rfl))
  (.cons (.mk' (z := .nilFunc) ⟨_, _, _, Go.Proofs.Tryz.underlying230⟩ (by kernel_rfl) rfl (fun h => rfl))
  (.cons (.mk' (z := .nilFunc) ⟨_, _, _, Go.Proofs.Tryz.underlying231⟩ (by kernel_rfl) rfl (fun h => rfl))
  (.cons (.mk' (z := .nilFunc) ⟨_, _, _, Go.Proofs.Tryz.underlying232⟩ (by kernel_rfl) rfl (fun h => rfl))
  (.cons (.mk' (z := .nilFunc) ⟨_, _, _, Go.Proofs.Tryz.underlying233⟩ (by kernel_rfl) rfl (fun h => rfl))
  (.cons (.mk' (z := .nilFunc) ⟨_, _, _, Go.Proofs.Tryz.underlying234⟩ (by kernel_rfl) rfl (fun h => rfl))
  (.cons (.mk' (z := .nilFunc) ⟨_, _, _, Go.Proofs.Tryz.underlying235⟩ (by kernel_rfl) rfl (fun h => rfl))
  (.cons (.mk' (z := .nilFunc) ⟨_, _, _, Go.Proofs.Tryz.underlying236⟩ (by kernel_rfl) rfl (fun h => rfl))
  (.cons (.mk' (z := .nilFunc) ⟨_, _, _, Go.Proofs.Tryz.underlying238⟩ (by kernel_rfl) rfl (fun h => rfl))
  (.cons (.mk' (z := .nilFunc) ⟨_, _, _, Go.Proofs.Tryz.underlying240⟩ (by kernel_rfl) rfl (fun h => rfl))
  (.cons (.mk' (z := .nilFunc) ⟨_, _, _, Go.Proofs.Tryz.underlying241⟩ (by kernel_rfl) rfl (fun h => rfl))
  (.cons (.mk' (z := .nilFunc) ⟨_, _, _, Go.Proofs.Tryz.underlying242⟩ (by kernel_rfl) rfl (fun h => rfl))
  (.cons (.mk' (z := .nilFunc) ⟨_, _, _, Go.Proofs.Tryz.underlying243⟩ (by kernel_rfl) rfl (fun h => rfl))
  (.cons (.mk' (z := .nilFunc) ⟨_, _, _, Go.Proofs.Tryz.underlying244⟩ (by kernel_rfl) rfl (fun h => rfl))
  (.cons (.mk' (z := .nilFunc) ⟨_, _, _, Go.Proofs.Tryz.underlying246⟩ (by kernel_rfl) rfl (fun h => rfl))
  (.cons (.mk' (z := .nilFunc) ⟨_, _, _, Go.Proofs.Tryz.underlying247⟩ (by kernel_rfl) rfl (fun h => rfl))
  (.cons (.mk' (z := .nilFunc) ⟨_, _, _, Go.Proofs.Tryz.underlying248⟩ (by kernel_rfl) rfl (fun h => rfl))
  (.cons (.mk' (z := .nilFunc) ⟨_, _, _, Go.Proofs.Tryz.underlying249⟩ (by kernel_rfl) rfl (fun h => rfl))
  (.cons (.mk' (z := .nilFunc) ⟨_, _, _, Go.Proofs.Tryz.underlying251⟩ (by kernel_rfl) rfl (fun h => rfl))
  (.cons (.mk' (z := .nilFunc) ⟨_, _, _, Go.Proofs.Tryz.underlying252⟩ (by kernel_rfl) rfl (fun h => rfl))
  (.cons (.mk' (z := .nilFunc) ⟨_, _, _, Go.Proofs.Tryz.underlying254⟩ (by kernel_rfl) rfl (fun h => rfl))
  (.cons (.mk' (z := .nilFunc) ⟨_, _, _, Go.Proofs.Tryz.underlying255⟩ (by kernel_rfl) rfl (fun h => rfl))
  (.cons (.mk' (z := .agg #[.bool false, .bool false, .bool false, .bool false, .bool false, .bool false, .bool false, .bool false, .bool false, .bool false, .bool false, .bool false, .bool false, .bool false, .bool false, .bool false, .bool false, .bool false, .bool false, .bool false, .bool false, .bool false, .bool false, .bool false, .bool false, .bool false, .bool false, .bool false, .bool false, .bool false, .bool false, .bool false, .bool false, .bool false, .bool false, .bool false, .bool false, .bool false, .bool false, .bool false, .bool false, .bool false, .bool false, .bool false, .bool false, .bool false, .bool false, .bool false, .bool false, .bool false, .bool false, .bool false, .bool false, .bool false, .bool false, .bool false, .bool false, .bool false, .bool false, .bool false, .bool false, .bool false, .bool false, .bool false, .bool false, .bool false, .bool false, .bool false, .bool false, .bool false, .bool false, .bool false, .bool false, .bool false, .bool false, .bool false, .bool false, .bool false, .bool false, .bool false, .bool false, .bool false, .bool false, .bool false, .bool false, .bool false, .bool false, .bool false, .bool false, .bool false, .bool false, .bool false, .bool false, .bool false, .bool false, .bool false, .bool false, .bool false, .bool false, .bool false, .bool false, .bool false, .bool false, .bool false, .bool false, .bool false, .bool false, .bool false, .bool false, .bool false, .bool false, .bool false, .bool false, .bool false, .bool false, .bool false, .bool false, .bool false, .bool false, .bool false, .bool false, .bool false, .bool false, .bool false, .bool false, .bool false, .bool false, .bool false, .bool false, .bool false, .bool false, .bool false, .bool false, .bool false, .bool false, .bool false, .bool false, .bool false, .bool false, .bool false, .bool false, .bool false, .bool false, .bool false, .bool false, .bool false, .bool false, .bool false, .bool false, .bool false, .bool false, .bool false, .bool false, .bool false, .bool false, .bool false, .bool false, .bool false, .bool false, .bool false, .bool false, .bool false, .bool false, .bool false, .bool false, .bool false, .bool false, .bool false, .bool false, .bool false, .bool false, .bool false, .bool false, .bool false, .bool false, .bool false, .bool false, .bool false, .bool false, .bool false, .bool false, .bool false, .bool false, .bool false, .bool false, .bool false, .bool false, .bool false, .bool false, .bool false, .bool false, .bool false, .bool false, .bool false, .bool false, .bool false, .bool false, .bool false, .bool false, .bool false, .bool false, .bool false, .bool false, .bool false, .bool false, .bool false, .bool false, .bool false, .bool false, .bool false, .bool false, .bool false, .bool false, .bool false, .bool false, .bool false, .bool false, .bool false, .bool false, .bool false, .bool false, .bool false, .bool false, .bool false, .bool false, .bool false, .bool false, .bool false, .bool false, .bool false, .bool false, .bool false, .bool false, .bool false, .bool false, .bool false, .bool false, .bool false, .bool false, .bool false, .bool false, .bool false, .bool false, .bool false, .bool false, .bool false, .bool false, .bool false, .bool false, .bool false, .bool false, .bool false, .bool false, .bool false, .bool false, .bool false]) Go.Proofs.Tryz.underlying256 (by kernel_rfl) rfl (fun h => by cases h))
  (.cons (.mk' (z := .agg #[.bool false, .bool false, .bool false, .bool false, .bool false, .bool false, .bool false, .bool false, .bool false, .bool false, .bool false, .bool false, .bool false, .bool false, .bool false, .bool false, .bool false, .bool false, .bool false, .bool false, .bool false, .bool false, .bool false, .bool false, .bool false, .bool false, .bool false, .bool false, .bool false, .bool false, .bool false, .bool false, .bool false, .bool false, .bool false, .bool false, .bool false, .bool false, .bool false, .bool false, .bool false, .bool false, .bool false, .bool false, .bool false, .bool false, .bool false, .bool false, .bool false, .bool false, .bool false, .bool false, .bool false, .bool false, .bool false, .bool false, .bool false, .bool false, .bool false, .bool false, .bool false, .bool false, .bool false, .bool false, .bool false, .bool false, .bool false, .bool false, .bool false, .bool false, .bool false, .bool false, .bool false, .bool false, .bool false, .bool false, .bool false, .bool false, .bool false, .bool false, .bool false, .bool false, .bool false, .bool false, .bool false, .bool false, .bool false, .bool false, .bool false, .bool false, .bool false, .bool false, .bool false, .bool false, .bool false, .bool false, .bool false, .bool false, .bool false, .bool false, .bool false, .bool false, .bool false, .bool false, .bool false, .bool false, .bool false, .bool false, .bool false, .bool false, .bool false, .bool false, .bool false, .bool false, .bool false, .bool false, .bool false, .bool false, .bool false, .bool false, .bool false, .bool false, .bool false, .bool false, .bool false, .bool false, .bool false, .bool false, .bool false, .bool false, .bool false, .bool false, .bool false, .bool false, .bool false, .bool false, .bool false, .bool false, .bool false, .bool false, .bool false, .bool false, .bool false, .bool false, .bool false, .bool false, .bool false, .bool false, .bool false, .bool false, .bool false, .bool false, .bool false, .bool false, .bool false, .bool false, .bool false, .bool false, .bool false, .bool false, .bool false, .bool false, .bool false, .bool false, .bool false, .bool false, .bool false, .bool false, .bool false, .bool false, .bool false, .bool false, .bool false, .bool false, .bool false, .bool false, .bool false, .bool false, .bool false, .bool false, .bool false, .bool false, .bool false, .bool false, .bool false, .bool false, .bool false, .bool false, .bool false, .bool false, .bool false, .bool false, .bool false, .bool false, .bool false, .bool false, .bool false, .bool false, .bool false, .bool false, .bool false, .bool false, .bool false, .bool false, .bool false, .bool false, .bool false, .bool false, .bool false, .bool false, .bool false, .bool false, .bool false, .bool false, .bool false, .bool false, .bool false, .bool false, .bool false, .bool false, .bool false, .bool false, .bool false, .bool false, .bool false, .bool false, .bool false, .bool false, .bool false, .bool false, .bool false, .bool false, .bool false, .bool false, .bool false, .bool false, .bool false, .bool false, .bool false, .bool false, .bool false, .bool false, .bool false, .bool false, .bool false, .bool false, .bool false, .bool false, .bool false, .bool false, .bool false, .bool false, .bool false, .bool false, .bool false, .bool false]) Go.Proofs.Tryz.underlying257 (by kernel_rfl) rfl (fun h => by cases h))
  (.cons (.mk' (z := .nilFunc) ⟨_, _, _, Go.Proofs.Tryz.underlying259⟩ (by kernel_rfl) rfl (fun h => rfl))
  (.cons (.mk' (z := .nilFunc) ⟨_, _, _, Go.Proofs.Tryz.underlying260⟩ (by kernel_rfl) rfl (fun h => rfl))
  (.cons (.mk' (z := .pointer none) Go.Proofs.Tryz.underlying261 (by kernel_rfl) rfl (fun h => rfl))
  (.cons (.mk' (z := .nilFunc) ⟨_, _, _, Go.Proofs.Tryz.underlying262⟩ (by kernel_rfl) rfl (fun h => rfl))
  (.cons (.mk' (z := .nilFunc) ⟨_, _, _, Go.Proofs.Tryz.underlying263⟩ (by kernel_rfl) rfl (fun h => rfl))
  (.cons (.mk' (z := .nilFunc) ⟨_, _, _, Go.Proofs.Tryz.underlying264⟩ (by kernel_rfl) rfl (fun h => rfl))
  (.cons (.mk' (z := .nilFunc) ⟨_, _, _, Go.Proofs.Tryz.underlying266⟩ (by kernel_rfl) rfl (fun h => rfl))
  (.cons (.mk' (z := .nilFunc) ⟨_, _, _, Go.Proofs.Tryz.underlying267⟩ (by kernel_rfl) rfl (fun h => rfl))
  (.cons (.mk' (z := .agg #[.int .u8 0, .int .u8 0, .int .u8 0, .int .u8 0, .int .u8 0, .int .u8 0, .int .u8 0, .int .u8 0, .int .u8 0, .int .u8 0, .int .u8 0, .int .u8 0, .int .u8 0, .int .u8 0, .int .u8 0, .int .u8 0, .int .u8 0, .int .u8 0, .int .u8 0, .int .u8 0, .int .u8 0, .int .u8 0, .int .u8 0, .int .u8 0]) Go.Proofs.Tryz.underlying268 (by kernel_rfl) rfl (fun h => by cases h))
  (.cons (.mk' (z := .nilFunc) ⟨_, _, _, Go.Proofs.Tryz.underlying269⟩ (by kernel_rfl) rfl (fun h => rfl))
  (.cons (.mk' (z := .nilFunc) ⟨_, _, _, Go.Proofs.Tryz.underlying271⟩ (by kernel_rfl) rfl (fun h => rfl))
  (.cons (.mk' (z := .int .i64 0) Go.Proofs.Tryz.underlying272 (by kernel_rfl) rfl (fun h => rfl))
  (.cons (.mk' (z := .nilFunc) ⟨_, _, _, Go.Proofs.Tryz.underlying273⟩ (by kernel_rfl) rfl (fun h => rfl))
  (.cons (.mk' (z := .nilFunc) ⟨_, _, _, Go.Proofs.Tryz.underlying274⟩ (by kernel_rfl) rfl (fun h => rfl))
  (.cons (.mk' (z := .pointer none) Go.Proofs.Tryz.underlying275 (by kernel_rfl) rfl (fun h => rfl))
  (.cons (.mk' (z := .nilFunc) ⟨_, _, _, Go.Proofs.Tryz.underlying276⟩ (by kernel_rfl) rfl (fun h => rfl))
  (.cons (.mk' (z := .nilFunc) ⟨_, _, _, Go.Proofs.Tryz.underlying277⟩ (by kernel_rfl) rfl (fun h => rfl))
  (.cons (.mk' (z := .nilFunc) ⟨_, _, _, Go.Proofs.Tryz.underlying278⟩ (by kernel_rfl) rfl (fun h => rfl))
  (.cons (.mk' (z := .nilFunc) ⟨_, _, _, Go.Proofs.Tryz.underlying279⟩ (by kernel_rfl) rfl (fun h => rfl))
  (.cons (.mk' (z := .nilFunc) ⟨_, _, _, Go.Proofs.Tryz.underlying280⟩ (by kernel_rfl) rfl (fun h => rfl))
  (.cons (.mk' (z := .agg #[.int .u64 0, .int .u64 0, .int .u64 0, .int .u64 0, .int .u64 0, .int .u64 0, .int .u64 0, .int .u64 0, .int .u64 0, .int .u64 0, .int .u64 0, .int .u64 0, .int .u64 0, .int .u64 0, .int .u64 0, .int .u64 0, .int .u64 0, .int .u64 0, .int .u64 0, .int .u64 0]) Go.Proofs.Tryz.underlying281 (by kernel_rfl) rfl (fun h => by cases h))
  (.cons (.mk' (z := .agg #[.int .u8 0, .int .u8 0, .int .u8 0, .int .u8 0, .int .u8 0, .int .u8 0, .int .u8 0, .int .u8 0, .int .u8 0, .int .u8 0, .int .u8 0, .int .u8 0, .int .u8 0, .int .u8 0, .int .u8 0, .int .u8 0, .int .u8 0, .int .u8 0, .int .u8 0, .int .u8 0, .int .u8 0, .int .u8 0, .int .u8 0, .int .u8 0, .int .u8 0, .int .u8 0, .int .u8 0, .int .u8 0, .int .u8 0, .int .u8 0, .int .u8 0, .int .u8 0, .int .u8 0, .int .u8 0, .int .u8 0, .int .u8 0, .int .u8 0, .int .u8 0, .int .u8 0, .int .u8 0, .int .u8 0, .int .u8 0, .int .u8 0, .int .u8 0, .int .u8 0, .int .u8 0, .int .u8 0, .int .u8 0, .int .u8 0, .int .u8 0, .int .u8 0, .int .u8 0, .int .u8 0, .int .u8 0, .int .u8 0, .int .u8 0, .int .u8 0, .int .u8 0, .int .u8 0, .int .u8 0, .int .u8 0, .int .u8 0, .int .u8 0, .int .u8 0, .int .u8 0]) Go.Proofs.Tryz.underlying282 (by kernel_rfl) rfl (fun h => by cases h))
  (.cons (.mk' (z := .nilFunc) ⟨_, _, _, Go.Proofs.Tryz.underlying283⟩ (by kernel_rfl) rfl (fun h => rfl))
  (.cons (.mk' (z := .nilFunc) ⟨_, _, _, Go.Proofs.Tryz.underlying284⟩ (by kernel_rfl) rfl (fun h => rfl))
  (.cons (.mk' (z := .agg #[.string ByteArray.empty, .string ByteArray.empty, .nilIface]) ⟨_, Go.Proofs.Tryz.underlying285, rfl⟩ (by kernel_rfl) rfl (fun h => by cases h))
  (.cons (.mk' (z := .agg #[.string ByteArray.empty, .string ByteArray.empty, .nilIface]) ⟨_, Go.Proofs.Tryz.underlying286, rfl⟩ (by kernel_rfl) rfl (fun h => by cases h))
  (.cons (.mk' (z := .nilFunc) ⟨_, _, _, Go.Proofs.Tryz.underlying287⟩ (by kernel_rfl) rfl (fun h => rfl))
  (.cons (.mk' (z := .nilFunc) ⟨_, _, _, Go.Proofs.Tryz.underlying288⟩ (by kernel_rfl) rfl (fun h => rfl))
  (.cons (.mk' (z := .nilFunc) ⟨_, _, _, Go.Proofs.Tryz.underlying289⟩ (by kernel_rfl) rfl (fun h => rfl))
  (.cons (.mk' (z := .pointer none) Go.Proofs.Tryz.underlying290 (by kernel_rfl) rfl (fun h => rfl))
  (.cons (.mk' (z := .pointer none) Go.Proofs.Tryz.underlying291 (by kernel_rfl) rfl (fun h => rfl))
  (.cons (.mk' (z := .agg #[.string ByteArray.empty]) ⟨_, Go.Proofs.Tryz.underlying292, rfl⟩ (by kernel_rfl) rfl (fun h => by cases h))
  (.cons (.mk' (z := .agg #[.string ByteArray.empty]) ⟨_, Go.Proofs.Tryz.underlying293, rfl⟩ (by kernel_rfl) rfl (fun h => by cases h))
  (.cons (.mk' (z := .agg #[.int .u8 0, .int .u8 0, .int .u8 0, .int .u8 0, .int .u8 0, .int .u8 0, .int .u8 0, .int .u8 0, .int .u8 0, .int .u8 0, .int .u8 0, .int .u8 0, .int .u8 0, .int .u8 0, .int .u8 0, .int .u8 0, .int .u8 0, .int .u8 0, .int .u8 0, .int .u8 0, .int .u8 0, .int .u8 0, .int .u8 0, .int .u8 0, .int .u8 0, .int .u8 0, .int .u8 0, .int .u8 0, .int .u8 0, .int .u8 0, .int .u8 0, .int .u8 0, .int .u8 0, .int .u8 0, .int .u8 0, .int .u8 0, .int .u8 0, .int .u8 0, .int .u8 0, .int .u8 0, .int .u8 0, .int .u8 0, .int .u8 0, .int .u8 0, .int .u8 0, .int .u8 0, .int .u8 0, .int .u8 0, .int .u8 0, .int .u8 0, .int .u8 0, .int .u8 0, .int .u8 0, .int .u8 0, .int .u8 0, .int .u8 0, .int .u8 0, .int .u8 0, .int .u8 0, .int .u8 0, .int .u8 0, .int .u8 0, .int .u8 0, .int .u8 0, .int .u8 0, .int .u8 0, .int .u8 0, .int .u8 0, .int .u8 0, .int .u8 0, .int .u8 0, .int .u8 0, .int .u8 0, .int .u8 0, .int .u8 0, .int .u8 0, .int .u8 0, .int .u8 0, .int .u8 0, .int .u8 0, .int .u8 0, .int .u8 0, .int .u8 0, .int .u8 0, .int .u8 0, .int .u8 0, .int .u8 0, .int .u8 0, .int .u8 0, .int .u8 0, .int .u8 0, .int .u8 0, .int .u8 0, .int .u8 0, .int .u8 0, .int .u8 0, .int .u8 0, .int .u8 0, .int .u8 0, .int .u8 0, .int .u8 0, .int .u8 0, .int .u8 0, .int .u8 0, .int .u8 0, .int .u8 0, .int .u8 0, .int .u8 0, .int .u8 0, .int .u8 0, .int .u8 0, .int .u8 0, .int .u8 0, .int .u8 0, .int .u8 0, .int .u8 0, .int .u8 0, .int .u8 0, .int .u8 0, .int .u8 0, .int .u8 0, .int .u8 0, .int .u8 0, .int .u8 0, .int .u8 0, .int .u8 0, .int .u8 0, .int .u8 0, .int .u8 0, .int .u8 0, .int .u8 0, .int .u8 0, .int .u8 0, .int .u8 0, .int .u8 0, .int .u8 0, .int .u8 0, .int .u8 0, .int .u8 0, .int .u8 0, .int .u8 0, .int .u8 0, .int .u8 0, .int .u8 0, .int .u8 0, .int .u8 0, .int .u8 0, .int .u8 0, .int .u8 0, .int .u8 0, .int .u8 0, .int .u8 0, .int .u8 0, .int .u8 0, .int .u8 0, .int .u8 0, .int .u8 0, .int .u8 0, .int .u8 0, .int .u8 0, .int .u8 0, .int .u8 0, .int .u8 0, .int .u8 0, .int .u8 0, .int .u8 0, .int .u8 0, .int .u8 0, .int .u8 0, .int .u8 0, .int .u8 0, .int .u8 0, .int .u8 0, .int .u8 0, .int .u8 0, .int .u8 0, .int .u8 0, .int .u8 0, .int .u8 0, .int .u8 0, .int .u8 0, .int .u8 0, .int .u8 0, .int .u8 0, .int .u8 0, .int .u8 0, .int .u8 0, .int .u8 0, .int .u8 0, .int .u8 0, .int .u8 0, .int .u8 0, .int .u8 0, .int .u8 0, .int .u8 0, .int .u8 0, .int .u8 0, .int .u8 0, .int .u8 0, .int .u8 0, .int .u8 0, .int .u8 0, .int .u8 0, .int .u8 0, .int .u8 0, .int .u8 0, .int .u8 0, .int .u8 0, .int .u8 0, .int .u8 0, .int .u8 0, .int .u8 0, .int .u8 0, .int .u8 0, .int .u8 0, .int .u8 0, .int .u8 0, .int .u8 0, .int .u8 0, .int .u8 0, .int .u8 0, .int .u8 0, .int .u8 0, .int .u8 0, .int .u8 0, .int .u8 0, .int .u8 0, .int .u8 0, .int .u8 0, .int .u8 0, .int .u8 0, .int .u8 0, .int .u8 0, .int .u8 0, .int .u8 0, .int .u8 0, .int .u8 0, .int .u8 0, .int .u8 0, .int .u8 0, .int .u8 0, .int .u8 0, .int .u8 0, .int .u8 0, .int .u8 0, .int .u8 0, .int .u8 0, .int .u8 0, .int .u8 0, .int .u8 0, .int .u8 0, .int .u8 0, .int .u8 0, .int .u8 0, .int .u8 0, .int .u8 0]) Go.Proofs.Tryz.underlying294 (by kernel_rfl) rfl (fun h => by cases h))
  (.cons (.mk' (z := .agg #[.int .u8 0, .int .u8 0]) ⟨_, Go.Proofs.Tryz.underlying295, rfl⟩ (by kernel_rfl) rfl (fun h => by cases h))
  (.cons (.mk' (z := .agg #[.int .u8 0, .int .u8 0]) ⟨_, Go.Proofs.Tryz.underlying296, rfl⟩ (by kernel_rfl) rfl (fun h => by cases h))
  (.cons (.mk' (z := .agg #[.int .u8 0, .int .u8 0, .int .u8 0, .int .u8 0, .int .u8 0, .int .u8 0, .int .u8 0, .int .u8 0, .int .u8 0, .int .u8 0, .int .u8 0, .int .u8 0, .int .u8 0, .int .u8 0, .int .u8 0, .int .u8 0, .int .u8 0, .int .u8 0, .int .u8 0, .int .u8 0, .int .u8 0, .int .u8 0, .int .u8 0, .int .u8 0, .int .u8 0, .int .u8 0, .int .u8 0, .int .u8 0, .int .u8 0, .int .u8 0, .int .u8 0, .int .u8 0]) Go.Proofs.Tryz.underlying297 (by kernel_rfl) rfl (fun h => by cases h))
  (.cons (.mk' (z := .agg #[.int .u8 0, .int .u8 0, .int .u8 0, .int .u8 0, .int .u8 0, .int .u8 0, .int .u8 0, .int .u8 0, .int .u8 0, .int .u8 0, .int .u8 0, .int .u8 0, .int .u8 0, .int .u8 0, .int .u8 0, .int .u8 0, .int .u8 0, .int .u8 0, .int .u8 0, .int .u8 0, .int .u8 0, .int .u8 0, .int .u8 0, .int .u8 0, .int .u8 0, .int .u8 0, .int .u8 0, .int .u8 0, .int .u8 0, .int .u8 0, .int .u8 0, .int .u8 0]) Go.Proofs.Tryz.underlying298 (by kernel_rfl) rfl (fun h => by cases h))
  (.cons (.mk' (z := .agg #[.int .u8 0, .int .u8 0, .int .u8 0, .int .u8 0, .int .u8 0, .int .u8 0, .int .u8 0, .int .u8 0, .int .u8 0, .int .u8 0, .int .u8 0, .int .u8 0, .int .u8 0, .int .u8 0, .int .u8 0, .int .u8 0, .int .u8 0, .int .u8 0, .int .u8 0, .int .u8 0, .int .u8 0, .int .u8 0, .int .u8 0, .int .u8 0, .int .u8 0, .int .u8 0, .int .u8 0, .int .u8 0, .int .u8 0, .int .u8 0, .int .u8 0, .int .u8 0, .int .u8 0, .int .u8 0, .int .u8 0, .int .u8 0, .int .u8 0, .int .u8 0, .int .u8 0, .int .u8 0, .int .u8 0, .int .u8 0, .int .u8 0, .int .u8 0, .int .u8 0, .int .u8 0, .int .u8 0, .int .u8 0, .int .u8 0, .int .u8 0, .int .u8 0, .int .u8 0, .int .u8 0, .int .u8 0, .int .u8 0, .int .u8 0, .int .u8 0, .int .u8 0, .int .u8 0, .int .u8 0, .int .u8 0, .int .u8 0, .int .u8 0, .int .u8 0]) Go.Proofs.Tryz.underlying299 (by kernel_rfl) rfl (fun h => by cases h))
  (.cons (.mk' (z := .nilFunc) ⟨_, _, _, Go.Proofs.Tryz.underlying300⟩ (by kernel_rfl) rfl (fun h => rfl))
  (.cons (.mk' (z := .nilFunc) ⟨_, _, _, Go.Proofs.Tryz.underlying301⟩ (by kernel_rfl) rfl (fun h => rfl))
  (.cons (.mk' (z := .agg #[.pointer none, .pointer none, .pointer none, .string ByteArray.empty]) ⟨_, Go.Proofs.Tryz.underlying302, rfl⟩ (by kernel_rfl) rfl (fun h => by cases h))
  (.cons (.mk' (z := .agg #[.pointer none, .pointer none, .pointer none, .string ByteArray.empty]) ⟨_, Go.Proofs.Tryz.underlying303, rfl⟩ (by kernel_rfl) rfl (fun h => by cases h))
  (.cons (.mk' (z := .agg #[]) Go.Proofs.Tryz.underlying304 (by kernel_rfl) rfl (fun h => by cases h))
  (.cons (.mk' (z := .agg #[]) ⟨_, Go.Proofs.Tryz.underlying305, rfl⟩ (by kernel_rfl) rfl (fun h => by cases h))
  (.cons (.mk' (z := .agg #[]) ⟨_, Go.Proofs.Tryz.underlying306, rfl⟩ (by kernel_rfl) rfl (fun h => by cases h))
  (.cons (.mk' (z := .int .u8 0) Go.Proofs.Tryz.underlying307 (by kernel_rfl) rfl (fun h => rfl))
  (.cons (.mk' (z := .int .u8 0) Go.Proofs.Tryz.underlying308 (by kernel_rfl) rfl (fun h => rfl))
  (.cons (.mk' (z := .nilFunc) ⟨_, _, _, Go.Proofs.Tryz.underlying309⟩ (by kernel_rfl) rfl (fun h => rfl))
  (.cons (.mk' (z := .int .i32 0) Go.Proofs.Tryz.underlying310 (by kernel_rfl) rfl (fun h => rfl))
  (.cons (.mk' (z := .int .i32 0) Go.Proofs.Tryz.underlying311 (by kernel_rfl) rfl (fun h => rfl))
  (.cons (.mk' (z := .agg #[.int .u64 0, .int .u64 0, .int .u32 0, .int .u8 0, .int .u8 0, .int .u8 0, .int .u8 0, .nilFunc, .pointer none, .int .i32 0, .int .i32 0]) ⟨_, Go.Proofs.Tryz.underlying312, rfl⟩ (by kernel_rfl) rfl (fun h => by cases h))
  (.cons (.mk' (z := .agg #[.int .u64 0, .int .u64 0, .int .u32 0, .int .u8 0, .int .u8 0, .int .u8 0, .int .u8 0, .nilFunc, .pointer none, .int .i32 0, .int .i32 0]) ⟨_, Go.Proofs.Tryz.underlying313, rfl⟩ (by kernel_rfl) rfl (fun h => by cases h))
  (.cons (.mk' (z := .nilFunc) ⟨_, _, _, Go.Proofs.Tryz.underlying314⟩ (by kernel_rfl) rfl (fun h => rfl))
  (.cons (.mk' (z := .nilFunc) ⟨_, _, _, Go.Proofs.Tryz.underlying315⟩ (by kernel_rfl) rfl (fun h => rfl))
  (.cons (.mk' (z := .nilFunc) ⟨_, _, _, Go.Proofs.Tryz.underlying316⟩ (by kernel_rfl) rfl (fun h => rfl))
  (.cons (.mk' (z := .slice none 0 0) Go.Proofs.Tryz.underlying317 (by kernel_rfl) rfl (fun h => rfl))
  (.cons (.mk' (z := .nilFunc) ⟨_, _, _, Go.Proofs.Tryz.underlying318⟩ (by kernel_rfl) rfl (fun h => rfl))
  (.nil)))))))))))))))))))))))))))))))))))))))))))))))))))))))))))))))))))))))))))))))))))))))))))))))))))))))))))))))))))))))))))))))))))))))))))))))))))))))))))))))))))))))))))))))))))))))))))))))))))))))))))))))))))))))))))))))))))))))))))))))))))))))))))))))))))))))))))))))))))))))))))))))))))))
theorem mixed : Go.Proofs.Tryz.prog.follows .mixedOrders = true := by kernel_rfl
end Go.Sx.T

