import Derived.Test.YtabdgalicaifhaaGreatDoorL6
import Derived.Test.YtabdgalicaifhaaGreatDoorProg
set_option linter.all false
namespace Go.Sx.T
open Go Go.Sx Go.Proofs
set_option maxRecDepth 100000
def tab : Tab := [(1, ⟨.func, 1, 8, [.nilFunc]⟩),
  (2, ⟨.int .i64, 1, 8, [.int .i64 0]⟩),
  (3, ⟨.int .i64, 1, 8, [.int .i64 0]⟩),
  (4, ⟨.bool, 1, 1, [.bool false]⟩),
  (5, ⟨.int .u8, 1, 1, [.int .u8 0]⟩),
  (6, ⟨.int .u8, 1, 1, [.int .u8 0]⟩),
  (7, ⟨.st [(0, 2), (1, 3), (2, 4), (3, 6)], 4, 24, [.int .i64 0, .int .i64 0, .bool false, .int .u8 0]⟩),
  (8, ⟨.st [(0, 2), (1, 3), (2, 4), (3, 6)], 4, 24, [.int .i64 0, .int .i64 0, .bool false, .int .u8 0]⟩),
  (9, ⟨.str, 1, 16, [.string ByteArray.empty]⟩),
  (10, ⟨.str, 1, 16, [.string ByteArray.empty]⟩),
  (11, ⟨.str, 1, 16, [.string ByteArray.empty]⟩),
  (12, ⟨.int .u64, 1, 8, [.int .u64 0]⟩),
  (13, ⟨.st [(0, 9), (1, 12)], 2, 24, [.string ByteArray.empty, .int .u64 0]⟩),
  (14, ⟨.st [(0, 9), (1, 12)], 2, 24, [.string ByteArray.empty, .int .u64 0]⟩),
  (15, ⟨.ptr 240, 1, 8, [.pointer none]⟩),
  (16, ⟨.ptr 243, 1, 8, [.pointer none]⟩),
  (17, ⟨.ptr 250, 1, 8, [.pointer none]⟩),
  (18, ⟨.st [(0, 17)], 1, 8, [.pointer none]⟩),
  (19, ⟨.st [(0, 17)], 1, 8, [.pointer none]⟩),
  (20, ⟨.iface, 1, 16, [.nilIface]⟩),
  (21, ⟨.int .i32, 1, 4, [.int .i32 0]⟩),
  (22, ⟨.int .u64, 1, 8, [.int .u64 0]⟩),
  (23, ⟨.func, 1, 8, [.nilFunc]⟩),
  (24, ⟨.ptr 95, 1, 8, [.pointer none]⟩),
  (25, ⟨.func, 1, 8, [.nilFunc]⟩),
  (26, ⟨.func, 1, 8, [.nilFunc]⟩),
  (27, ⟨.func, 1, 8, [.nilFunc]⟩),
  (28, ⟨.func, 1, 8, [.nilFunc]⟩),
  (30, ⟨.func, 1, 8, [.nilFunc]⟩),
  (31, ⟨.sl 22, 1, 24, [.slice none 0 0]⟩),
  (32, ⟨.st [(0, 31), (1, 31), (2, 31), (3, 3), (4, 2)], 5, 88, [.slice none 0 0, .slice none 0 0, .slice none 0 0, .int .i64 0, .int .i64 0]⟩),
  (33, ⟨.st [(0, 31), (1, 31), (2, 31), (3, 3), (4, 2)], 5, 88, [.slice none 0 0, .slice none 0 0, .slice none 0 0, .int .i64 0, .int .i64 0]⟩),
  (34, ⟨.func, 1, 8, [.nilFunc]⟩),
  (35, ⟨.st [(0, 3), (1, 3)], 2, 16, [.int .i64 0, .int .i64 0]⟩),
  (36, ⟨.st [(0, 3), (1, 3)], 2, 16, [.int .i64 0, .int .i64 0]⟩),
  (37, ⟨.sl 36, 1, 24, [.slice none 0 0]⟩),
  (38, ⟨.func, 1, 8, [.nilFunc]⟩),
  (39, ⟨.func, 1, 8, [.nilFunc]⟩),
  (40, ⟨.sl 3, 1, 24, [.slice none 0 0]⟩),
  (41, ⟨.sl 2, 1, 24, [.slice none 0 0]⟩),
  (42, ⟨.func, 1, 8, [.nilFunc]⟩),
  (43, ⟨.func, 1, 8, [.nilFunc]⟩),
  (44, ⟨.func, 1, 8, [.nilFunc]⟩),
  (45, ⟨.func, 1, 8, [.nilFunc]⟩),
  (46, ⟨.sl 4, 1, 24, [.slice none 0 0]⟩),
  (47, ⟨.ptr 105, 1, 8, [.pointer none]⟩),
  (48, ⟨.func, 1, 8, [.nilFunc]⟩),
  (49, ⟨.func, 1, 8, [.nilFunc]⟩),
  (51, ⟨.func, 1, 8, [.nilFunc]⟩),
  (53, ⟨.func, 1, 8, [.nilFunc]⟩),
  (54, ⟨.func, 1, 8, [.nilFunc]⟩),
  (55, ⟨.func, 1, 8, [.nilFunc]⟩),
  (56, ⟨.func, 1, 8, [.nilFunc]⟩),
  (57, ⟨.func, 1, 8, [.nilFunc]⟩),
  (58, ⟨.sl 60, 1, 24, [.slice none 0 0]⟩),
  (59, ⟨.st [(0, 3), (1, 3), (2, 22), (3, 2)], 4, 32, [.int .i64 0, .int .i64 0, .int .u64 0, .int .i64 0]⟩),
  (60, ⟨.st [(0, 3), (1, 3), (2, 22), (3, 2)], 4, 32, [.int .i64 0, .int .i64 0, .int .u64 0, .int .i64 0]⟩),
  (61, ⟨.func, 1, 8, [.nilFunc]⟩),
  (62, ⟨.func, 1, 8, [.nilFunc]⟩),
  (63, ⟨.func, 1, 8, [.nilFunc]⟩),
  (64, ⟨.func, 1, 8, [.nilFunc]⟩),
  (65, ⟨.func, 1, 8, [.nilFunc]⟩),
  (66, ⟨.func, 1, 8, [.nilFunc]⟩),
  (67, ⟨.func, 1, 8, [.nilFunc]⟩),
  (68, ⟨.ptr 113, 1, 8, [.pointer none]⟩),
  (69, ⟨.func, 1, 8, [.nilFunc]⟩),
  (70, ⟨.func, 1, 8, [.nilFunc]⟩),
  (71, ⟨.func, 1, 8, [.nilFunc]⟩),
  (72, ⟨.func, 1, 8, [.nilFunc]⟩),
  (73, ⟨.map 2 4, 1, 8, [.map none]⟩),
  (74, ⟨.func, 1, 8, [.nilFunc]⟩),
  (75, ⟨.func, 1, 8, [.nilFunc]⟩),
  (76, ⟨.func, 1, 8, [.nilFunc]⟩),
  (77, ⟨.ptr 116, 1, 8, [.pointer none]⟩),
  (78, ⟨.func, 1, 8, [.nilFunc]⟩),
  (79, ⟨.ptr 120, 1, 8, [.pointer none]⟩),
  (80, ⟨.func, 1, 8, [.nilFunc]⟩),
  (81, ⟨.ptr 125, 1, 8, [.pointer none]⟩),
  (82, ⟨.func, 1, 8, [.nilFunc]⟩),
  (83, ⟨.ptr 127, 1, 8, [.pointer none]⟩),
  (84, ⟨.func, 1, 8, [.nilFunc]⟩),
  (85, ⟨.func, 1, 8, [.nilFunc]⟩),
  (87, ⟨.func, 1, 8, [.nilFunc]⟩),
  (88, ⟨.func, 1, 8, [.nilFunc]⟩),
  (90, ⟨.func, 1, 8, [.nilFunc]⟩),
  (91, ⟨.func, 1, 8, [.nilFunc]⟩),
  (92, ⟨.func, 1, 8, [.nilFunc]⟩),
  (93, ⟨.sl 98, 1, 24, [.slice none 0 0]⟩),
  (94, ⟨.st [(0, 93), (1, 22), (2, 4)], 3, 40, [.slice none 0 0, .int .u64 0, .bool false]⟩),
  (95, ⟨.st [(0, 93), (1, 22), (2, 4)], 3, 40, [.slice none 0 0, .int .u64 0, .bool false]⟩),
  (96, ⟨.func, 1, 8, [.nilFunc]⟩),
  (97, ⟨.st [(0, 22), (1, 2), (2, 3)], 3, 24, [.int .u64 0, .int .i64 0, .int .i64 0]⟩),
  (98, ⟨.st [(0, 22), (1, 2), (2, 3)], 3, 24, [.int .u64 0, .int .i64 0, .int .i64 0]⟩),
  (99, ⟨.ptr 98, 1, 8, [.pointer none]⟩),
  (100, ⟨.func, 1, 8, [.nilFunc]⟩),
  (101, ⟨.func, 1, 8, [.nilFunc]⟩),
  (102, ⟨.map 22 2, 1, 8, [.map none]⟩),
  (103, ⟨.map 22 4, 1, 8, [.map none]⟩),
  (104, ⟨.st [(0, 2), (1, 4), (2, 2), (3, 22), (4, 22), (5, 102), (6, 103), (7, 3), (8, 4), (9, 2), (10, 22), (11, 31), (12, 22), (13, 2)], 14, 128, [.int .i64 0, .bool false, .int .i64 0, .int .u64 0, .int .u64 0, .map none, .map none, .int .i64 0, .bool false, .int .i64 0, .int .u64 0, .slice none 0 0, .int .u64 0, .int .i64 0]⟩),
  (105, ⟨.st [(0, 2), (1, 4), (2, 2), (3, 22), (4, 22), (5, 102), (6, 103), (7, 3), (8, 4), (9, 2), (10, 22), (11, 31), (12, 22), (13, 2)], 14, 128, [.int .i64 0, .bool false, .int .i64 0, .int .u64 0, .int .u64 0, .map none, .map none, .int .i64 0, .bool false, .int .i64 0, .int .u64 0, .slice none 0 0, .int .u64 0, .int .i64 0]⟩),
  (106, ⟨.func, 1, 8, [.nilFunc]⟩),
  (107, ⟨.func, 1, 8, [.nilFunc]⟩),
  (108, ⟨.int .u64, 1, 8, [.int .u64 0]⟩),
  (109, ⟨.func, 1, 8, [.nilFunc]⟩),
  (110, ⟨.func, 1, 8, [.nilFunc]⟩),
  (111, ⟨.map 22 3, 1, 8, [.map none]⟩),
  (112, ⟨.st [(0, 111), (1, 22), (2, 4), (3, 22), (4, 4)], 5, 40, [.map none, .int .u64 0, .bool false, .int .u64 0, .bool false]⟩),
  (113, ⟨.st [(0, 111), (1, 22), (2, 4), (3, 22), (4, 4)], 5, 40, [.map none, .int .u64 0, .bool false, .int .u64 0, .bool false]⟩),
  (114, ⟨.func, 1, 8, [.nilFunc]⟩),
  (115, ⟨.st [(0, 4), (1, 2), (2, 2), (3, 2)], 4, 32, [.bool false, .int .i64 0, .int .i64 0, .int .i64 0]⟩),
  (116, ⟨.st [(0, 4), (1, 2), (2, 2), (3, 2)], 4, 32, [.bool false, .int .i64 0, .int .i64 0, .int .i64 0]⟩),
  (117, ⟨.st [(0, 22), (1, 4)], 2, 16, [.int .u64 0, .bool false]⟩),
  (118, ⟨.st [(0, 22), (1, 4)], 2, 16, [.int .u64 0, .bool false]⟩),
  (119, ⟨.st [(0, 3), (1, 3), (2, 3), (3, 3), (4, 77), (5, 118), (7, 118), (9, 4), (10, 2)], 11, 88, [.int .i64 0, .int .i64 0, .int .i64 0, .int .i64 0, .pointer none, .int .u64 0, .bool false, .int .u64 0, .bool false, .bool false, .int .i64 0]⟩),
  (120, ⟨.st [(0, 3), (1, 3), (2, 3), (3, 3), (4, 77), (5, 118), (7, 118), (9, 4), (10, 2)], 11, 88, [.int .i64 0, .int .i64 0, .int .i64 0, .int .i64 0, .pointer none, .int .u64 0, .bool false, .int .u64 0, .bool false, .bool false, .int .i64 0]⟩),
  (121, ⟨.st [(0, 2), (1, 22)], 2, 16, [.int .i64 0, .int .u64 0]⟩),
  (122, ⟨.st [(0, 2), (1, 22)], 2, 16, [.int .i64 0, .int .u64 0]⟩),
  (123, ⟨.sl 122, 1, 24, [.slice none 0 0]⟩),
  (124, ⟨.st [(0, 123)], 1, 24, [.slice none 0 0]⟩),
  (125, ⟨.st [(0, 123)], 1, 24, [.slice none 0 0]⟩),
  (126, ⟨.st [(0, 22), (1, 22), (2, 22), (3, 2), (4, 4), (5, 2), (6, 81), (7, 4), (8, 4), (9, 2)], 10, 72, [.int .u64 0, .int .u64 0, .int .u64 0, .int .i64 0, .bool false, .int .i64 0, .pointer none, .bool false, .bool false, .int .i64 0]⟩),
  (127, ⟨.st [(0, 22), (1, 22), (2, 22), (3, 2), (4, 4), (5, 2), (6, 81), (7, 4), (8, 4), (9, 2)], 10, 72, [.int .u64 0, .int .u64 0, .int .u64 0, .int .i64 0, .bool false, .int .i64 0, .pointer none, .bool false, .bool false, .int .i64 0]⟩),
  (128, ⟨.func, 1, 8, [.nilFunc]⟩),
  (129, ⟨.func, 1, 8, [.nilFunc]⟩),
  (130, ⟨.func, 1, 8, [.nilFunc]⟩),
  (131, ⟨.func, 1, 8, [.nilFunc]⟩),
  (132, ⟨.func, 1, 8, [.nilFunc]⟩),
  (134, ⟨.func, 1, 8, [.nilFunc]⟩),
  (135, ⟨.func, 1, 8, [.nilFunc]⟩),
  (136, ⟨.int .u32, 1, 4, [.int .u32 0]⟩),
  (137, ⟨.arr 3 5, 3, 3, [.int .u8 0, .int .u8 0, .int .u8 0]⟩),
  (138, ⟨.st [(0, 3), (1, 3), (2, 3), (3, 3), (4, 3), (5, 3), (6, 3), (7, 4), (8, 22), (9, 22), (10, 136), (11, 3), (12, 137)], 15, 104, [.int .i64 0, .int .i64 0, .int .i64 0, .int .i64 0, .int .i64 0, .int .i64 0, .int .i64 0, .bool false, .int .u64 0, .int .u64 0, .int .u32 0, .int .i64 0, .int .u8 0, .int .u8 0, .int .u8 0]⟩),
  (139, ⟨.st [(0, 3), (1, 3), (2, 3), (3, 3), (4, 3), (5, 3), (6, 3), (7, 4), (8, 22), (9, 22), (10, 136), (11, 3), (12, 137)], 15, 104, [.int .i64 0, .int .i64 0, .int .i64 0, .int .i64 0, .int .i64 0, .int .i64 0, .int .i64 0, .bool false, .int .u64 0, .int .u64 0, .int .u32 0, .int .i64 0, .int .u8 0, .int .u8 0, .int .u8 0]⟩),
  (140, ⟨.st [(0, 3), (1, 9)], 2, 24, [.int .i64 0, .string ByteArray.empty]⟩),
  (141, ⟨.st [(0, 3), (1, 9)], 2, 24, [.int .i64 0, .string ByteArray.empty]⟩),
  (142, ⟨.sl 141, 1, 24, [.slice none 0 0]⟩),
  (143, ⟨.st [(0, 139), (15, 142), (16, 9)], 17, 144, [.int .i64 0, .int .i64 0, .int .i64 0, .int .i64 0, .int .i64 0, .int .i64 0, .int .i64 0, .bool false, .int .u64 0, .int .u64 0, .int .u32 0, .int .i64 0, .int .u8 0, .int .u8 0, .int .u8 0, .slice none 0 0, .string ByteArray.empty]⟩),
  (144, ⟨.st [(0, 139), (15, 142), (16, 9)], 17, 144, [.int .i64 0, .int .i64 0, .int .i64 0, .int .i64 0, .int .i64 0, .int .i64 0, .int .i64 0, .bool false, .int .u64 0, .int .u64 0, .int .u32 0, .int .i64 0, .int .u8 0, .int .u8 0, .int .u8 0, .slice none 0 0, .string ByteArray.empty]⟩),
  (145, ⟨.int .i64, 1, 8, [.int .i64 0]⟩),
  (147, ⟨.func, 1, 8, [.nilFunc]⟩),
  (149, ⟨.func, 1, 8, [.nilFunc]⟩),
  (151, ⟨.func, 1, 8, [.nilFunc]⟩),
  (152, ⟨.func, 1, 8, [.nilFunc]⟩),
  (153, ⟨.func, 1, 8, [.nilFunc]⟩),
  (154, ⟨.func, 1, 8, [.nilFunc]⟩),
  (155, ⟨.func, 1, 8, [.nilFunc]⟩),
  (156, ⟨.func, 1, 8, [.nilFunc]⟩),
  (157, ⟨.iface, 1, 16, [.nilIface]⟩),
  (158, ⟨.iface, 1, 16, [.nilIface]⟩),
  (159, ⟨.func, 1, 8, [.nilFunc]⟩),
  (161, ⟨.func, 1, 8, [.nilFunc]⟩),
  (162, ⟨.func, 1, 8, [.nilFunc]⟩),
  (163, ⟨.func, 1, 8, [.nilFunc]⟩),
  (164, ⟨.func, 1, 8, [.nilFunc]⟩),
  (165, ⟨.func, 1, 8, [.nilFunc]⟩),
  (166, ⟨.func, 1, 8, [.nilFunc]⟩),
  (167, ⟨.func, 1, 8, [.nilFunc]⟩),
  (168, ⟨.func, 1, 8, [.nilFunc]⟩),
  (169, ⟨.func, 1, 8, [.nilFunc]⟩),
  (171, ⟨.func, 1, 8, [.nilFunc]⟩),
  (173, ⟨.func, 1, 8, [.nilFunc]⟩),
  (175, ⟨.func, 1, 8, [.nilFunc]⟩),
  (176, ⟨.func, 1, 8, [.nilFunc]⟩),
  (177, ⟨.func, 1, 8, [.nilFunc]⟩),
  (178, ⟨.sl 9, 1, 24, [.slice none 0 0]⟩),
  (179, ⟨.sl 5, 1, 24, [.slice none 0 0]⟩),
  (180, ⟨.func, 1, 8, [.nilFunc]⟩),
  (181, ⟨.func, 1, 8, [.nilFunc]⟩),
  (182, ⟨.func, 1, 8, [.nilFunc]⟩),
  (183, ⟨.func, 1, 8, [.nilFunc]⟩),
  (184, ⟨.func, 1, 8, [.nilFunc]⟩),
  (185, ⟨.func, 1, 8, [.nilFunc]⟩),
  (187, ⟨.func, 1, 8, [.nilFunc]⟩),
  (188, ⟨.func, 1, 8, [.nilFunc]⟩),
  (190, ⟨.func, 1, 8, [.nilFunc]⟩),
  (191, ⟨.func, 1, 8, [.nilFunc]⟩),
  (192, ⟨.arr 256 4, 256, 256, [.bool false, .bool false, .bool false, .bool false, .bool false, .bool false, .bool false, .bool false, .bool false, .bool false, .bool false, .bool false, .bool false, .bool false, .bool false, .bool false, .bool false, .bool false, .bool false, .bool false, .bool false, .bool false, .bool false, .bool false, .bool false, .bool false, .bool false, .bool false, .bool false, .bool false, .bool false, .bool false, .bool false, .bool false, .bool false, .bool false, .bool false, .bool false, .bool false, .bool false, .bool false, .bool false, .bool false, .bool false, .bool false, .bool false, .bool false, .bool false, .bool false, .bool false, .bool false, .bool false, .bool false, .bool false, .bool false, .bool false, .bool false, .bool false, .bool false, .bool false, .bool false, .bool false, .bool false, .bool false, .bool false, .bool false, .bool false, .bool false, .bool false, .bool false, .bool false, .bool false, .bool false, .bool false, .bool false, .bool false, .bool false, .bool false, .bool false, .bool false, .bool false, .bool false, .bool false, .bool false, .bool false, .bool false, .bool false, .bool false, .bool false, .bool false, .bool false, .bool false, .bool false, .bool false, .bool false, .bool false, .bool false, .bool false, .bool false, .bool false, .bool false, .bool false, .bool false, .bool false, .bool false, .bool false, .bool false, .bool false, .bool false, .bool false, .bool false, .bool false, .bool false, .bool false, .bool false, .bool false, .bool false, .bool false, .bool false, .bool false, .bool false, .bool false, .bool false, .bool false, .bool false, .bool false, .bool false, .bool false, .bool false, .bool false, .bool false, .bool false, .bool false, .bool false, .bool false, .bool false, .bool false, .bool false, .bool false, .bool false, .bool false, .bool false, .bool false, .bool false, .bool false, .bool false, .bool false, .bool false, .bool false, .bool false, .bool false, .bool false, .bool false, .bool false, .bool false, .bool false, .bool false, .bool false, .bool false, .bool false, .bool false, .bool false, .bool false, .bool false, .bool false, .bool false, .bool false, .bool false, .bool false, .bool false, .bool false, .bool false, .bool false, .bool false, .bool false, .bool false, .bool false, .bool false, .bool false, .bool false, .bool false, .bool false, .bool false, .bool false, .bool false, .bool false, .bool false, .bool false, .bool false, .bool false, .bool false, .bool false, .bool false, .bool false, .bool false, .bool false, .bool false, .bool false, .bool false, .bool false, .bool false, .bool false, .bool false, .bool false, .bool false, .bool false, .bool false, .bool false, .bool false, .bool false, .bool false, .bool false, .bool false, .bool false, .bool false, .bool false, .bool false, .bool false, .bool false, .bool false, .bool false, .bool false, .bool false, .bool false, .bool false, .bool false, .bool false, .bool false, .bool false, .bool false, .bool false, .bool false, .bool false, .bool false, .bool false, .bool false, .bool false, .bool false, .bool false, .bool false, .bool false, .bool false, .bool false, .bool false, .bool false, .bool false, .bool false, .bool false, .bool false, .bool false, .bool false, .bool false, .bool false, .bool false, .bool false, .bool false]⟩),
  (193, ⟨.arr 256 4, 256, 256, [.bool false, .bool false, .bool false, .bool false, .bool false, .bool false, .bool false, .bool false, .bool false, .bool false, .bool false, .bool false, .bool false, .bool false, .bool false, .bool false, .bool false, .bool false, .bool false, .bool false, .bool false, .bool false, .bool false, .bool false, .bool false, .bool false, .bool false, .bool false, .bool false, .bool false, .bool false, .bool false, .bool false, .bool false, .bool false, .bool false, .bool false, .bool false, .bool false, .bool false, .bool false, .bool false, .bool false, .bool false, .bool false, .bool false, .bool false, .bool false, .bool false, .bool false, .bool false, .bool false, .bool false, .bool false, .bool false, .bool false, .bool false, .bool false, .bool false, .bool false, .bool false, .bool false, .bool false, .bool false, .bool false, .bool false, .bool false, .bool false, .bool false, .bool false, .bool false, .bool false, .bool false, .bool false, .bool false, .bool false, .bool false, .bool false, .bool false, .bool false, .bool false, .bool false, .bool false, .bool false, .bool false, .bool false, .bool false, .bool false, .bool false, .bool false, .bool false, .bool false, .bool false, .bool false, .bool false, .bool false, .bool false, .bool false, .bool false, .bool false, .bool false, .bool false, .bool false, .bool false, .bool false, .bool false, .bool false, .bool false, .bool false, .bool false, .bool false, .bool false, .bool false, .bool false, .bool false, .bool false, .bool false, .bool false, .bool false, .bool false, .bool false, .bool false, .bool false, .bool false, .bool false, .bool false, .bool false, .bool false, .bool false, .bool false, .bool false, .bool false, .bool false, .bool false, .bool false, .bool false, .bool false, .bool false, .bool false, .bool false, .bool false, .bool false, .bool false, .bool false, .bool false, .bool false, .bool false, .bool false, .bool false, .bool false, .bool false, .bool false, .bool false, .bool false, .bool false, .bool false, .bool false, .bool false, .bool false, .bool false, .bool false, .bool false, .bool false, .bool false, .bool false, .bool false, .bool false, .bool false, .bool false, .bool false, .bool false, .bool false, .bool false, .bool false, .bool false, .bool false, .bool false, .bool false, .bool false, .bool false, .bool false, .bool false, .bool false, .bool false, .bool false, .bool false, .bool false, .bool false, .bool false, .bool false, .bool false, .bool false, .bool false, .bool false, .bool false, .bool false, .bool false, .bool false, .bool false, .bool false, .bool false, .bool false, .bool false, .bool false, .bool false, .bool false, .bool false, .bool false, .bool false, .bool false, .bool false, .bool false, .bool false, .bool false, .bool false, .bool false, .bool false, .bool false, .bool false, .bool false, .bool false, .bool false, .bool false, .bool false, .bool false, .bool false, .bool false, .bool false, .bool false, .bool false, .bool false, .bool false, .bool false, .bool false, .bool false, .bool false, .bool false, .bool false, .bool false, .bool false, .bool false, .bool false, .bool false, .bool false, .bool false, .bool false, .bool false, .bool false, .bool false, .bool false, .bool false, .bool false, .bool false, .bool false, .bool false, .bool false]⟩),
  (195, ⟨.func, 1, 8, [.nilFunc]⟩),
  (196, ⟨.func, 1, 8, [.nilFunc]⟩),
  (197, ⟨.ptr 193, 1, 8, [.pointer none]⟩),
  (198, ⟨.func, 1, 8, [.nilFunc]⟩),
  (199, ⟨.func, 1, 8, [.nilFunc]⟩),
  (200, ⟨.func, 1, 8, [.nilFunc]⟩),
  (201, ⟨.func, 1, 8, [.nilFunc]⟩),
  (203, ⟨.func, 1, 8, [.nilFunc]⟩),
  (204, ⟨.func, 1, 8, [.nilFunc]⟩),
  (205, ⟨.func, 1, 8, [.nilFunc]⟩),
  (206, ⟨.arr 24 5, 24, 24, [.int .u8 0, .int .u8 0, .int .u8 0, .int .u8 0, .int .u8 0, .int .u8 0, .int .u8 0, .int .u8 0, .int .u8 0, .int .u8 0, .int .u8 0, .int .u8 0, .int .u8 0, .int .u8 0, .int .u8 0, .int .u8 0, .int .u8 0, .int .u8 0, .int .u8 0, .int .u8 0, .int .u8 0, .int .u8 0, .int .u8 0, .int .u8 0]⟩),
  (207, ⟨.func, 1, 8, [.nilFunc]⟩),
  (209, ⟨.func, 1, 8, [.nilFunc]⟩),
  (210, ⟨.int .i64, 1, 8, [.int .i64 0]⟩),
  (211, ⟨.func, 1, 8, [.nilFunc]⟩),
  (212, ⟨.func, 1, 8, [.nilFunc]⟩),
  (213, ⟨.ptr 223, 1, 8, [.pointer none]⟩),
  (214, ⟨.func, 1, 8, [.nilFunc]⟩),
  (215, ⟨.func, 1, 8, [.nilFunc]⟩),
  (216, ⟨.func, 1, 8, [.nilFunc]⟩),
  (217, ⟨.func, 1, 8, [.nilFunc]⟩),
  (218, ⟨.arr 20 22, 20, 160, [.int .u64 0, .int .u64 0, .int .u64 0, .int .u64 0, .int .u64 0, .int .u64 0, .int .u64 0, .int .u64 0, .int .u64 0, .int .u64 0, .int .u64 0, .int .u64 0, .int .u64 0, .int .u64 0, .int .u64 0, .int .u64 0, .int .u64 0, .int .u64 0, .int .u64 0, .int .u64 0]⟩),
  (219, ⟨.arr 65 5, 65, 65, [.int .u8 0, .int .u8 0, .int .u8 0, .int .u8 0, .int .u8 0, .int .u8 0, .int .u8 0, .int .u8 0, .int .u8 0, .int .u8 0, .int .u8 0, .int .u8 0, .int .u8 0, .int .u8 0, .int .u8 0, .int .u8 0, .int .u8 0, .int .u8 0, .int .u8 0, .int .u8 0, .int .u8 0, .int .u8 0, .int .u8 0, .int .u8 0, .int .u8 0, .int .u8 0, .int .u8 0, .int .u8 0, .int .u8 0, .int .u8 0, .int .u8 0, .int .u8 0, .int .u8 0, .int .u8 0, .int .u8 0, .int .u8 0, .int .u8 0, .int .u8 0, .int .u8 0, .int .u8 0, .int .u8 0, .int .u8 0, .int .u8 0, .int .u8 0, .int .u8 0, .int .u8 0, .int .u8 0, .int .u8 0, .int .u8 0, .int .u8 0, .int .u8 0, .int .u8 0, .int .u8 0, .int .u8 0, .int .u8 0, .int .u8 0, .int .u8 0, .int .u8 0, .int .u8 0, .int .u8 0, .int .u8 0, .int .u8 0, .int .u8 0, .int .u8 0, .int .u8 0]⟩),
  (220, ⟨.func, 1, 8, [.nilFunc]⟩),
  (221, ⟨.func, 1, 8, [.nilFunc]⟩),
  (222, ⟨.st [(0, 9), (1, 9), (2, 158)], 3, 48, [.string ByteArray.empty, .string ByteArray.empty, .nilIface]⟩),
  (223, ⟨.st [(0, 9), (1, 9), (2, 158)], 3, 48, [.string ByteArray.empty, .string ByteArray.empty, .nilIface]⟩),
  (224, ⟨.func, 1, 8, [.nilFunc]⟩),
  (225, ⟨.func, 1, 8, [.nilFunc]⟩),
  (226, ⟨.func, 1, 8, [.nilFunc]⟩),
  (227, ⟨.ptr 5, 1, 8, [.pointer none]⟩),
  (228, ⟨.ptr 230, 1, 8, [.pointer none]⟩),
  (229, ⟨.st [(0, 9)], 1, 16, [.string ByteArray.empty]⟩),
  (230, ⟨.st [(0, 9)], 1, 16, [.string ByteArray.empty]⟩),
  (231, ⟨.arr 256 5, 256, 256, [.int .u8 0, .int .u8 0, .int .u8 0, .int .u8 0, .int .u8 0, .int .u8 0, .int .u8 0, .int .u8 0, .int .u8 0, .int .u8 0, .int .u8 0, .int .u8 0, .int .u8 0, .int .u8 0, .int .u8 0, .int .u8 0, .int .u8 0, .int .u8 0, .int .u8 0, .int .u8 0, .int .u8 0, .int .u8 0, .int .u8 0, .int .u8 0, .int .u8 0, .int .u8 0, .int .u8 0, .int .u8 0, .int .u8 0, .int .u8 0, .int .u8 0, .int .u8 0, .int .u8 0, .int .u8 0, .int .u8 0, .int .u8 0, .int .u8 0, .int .u8 0, .int .u8 0, .int .u8 0, .int .u8 0, .int .u8 0, .int .u8 0, .int .u8 0, .int .u8 0, .int .u8 0, .int .u8 0, .int .u8 0, .int .u8 0, .int .u8 0, .int .u8 0, .int .u8 0, .int .u8 0, .int .u8 0, .int .u8 0, .int .u8 0, .int .u8 0, .int .u8 0, .int .u8 0, .int .u8 0, .int .u8 0, .int .u8 0, .int .u8 0, .int .u8 0, .int .u8 0, .int .u8 0, .int .u8 0, .int .u8 0, .int .u8 0, .int .u8 0, .int .u8 0, .int .u8 0, .int .u8 0, .int .u8 0, .int .u8 0, .int .u8 0, .int .u8 0, .int .u8 0, .int .u8 0, .int .u8 0, .int .u8 0, .int .u8 0, .int .u8 0, .int .u8 0, .int .u8 0, .int .u8 0, .int .u8 0, .int .u8 0, .int .u8 0, .int .u8 0, .int .u8 0, .int .u8 0, .int .u8 0, .int .u8 0, .int .u8 0, .int .u8 0, .int .u8 0, .int .u8 0, .int .u8 0, .int .u8 0, .int .u8 0, .int .u8 0, .int .u8 0, .int .u8 0, .int .u8 0, .int .u8 0, .int .u8 0, .int .u8 0, .int .u8 0, .int .u8 0, .int .u8 0, .int .u8 0, .int .u8 0, .int .u8 0, .int .u8 0, .int .u8 0, .int .u8 0, .int .u8 0, .int .u8 0, .int .u8 0, .int .u8 0, .int .u8 0, .int .u8 0, .int .u8 0, .int .u8 0, .int .u8 0, .int .u8 0, .int .u8 0, .int .u8 0, .int .u8 0, .int .u8 0, .int .u8 0, .int .u8 0, .int .u8 0, .int .u8 0, .int .u8 0, .int .u8 0, .int .u8 0, .int .u8 0, .int .u8 0, .int .u8 0, .int .u8 0, .int .u8 0, .int .u8 0, .int .u8 0, .int .u8 0, .int .u8 0, .int .u8 0, .int .u8 0, .int .u8 0, .int .u8 0, .int .u8 0, .int .u8 0, .int .u8 0, .int .u8 0, .int .u8 0, .int .u8 0, .int .u8 0, .int .u8 0, .int .u8 0, .int .u8 0, .int .u8 0, .int .u8 0, .int .u8 0, .int .u8 0, .int .u8 0, .int .u8 0, .int .u8 0, .int .u8 0, .int .u8 0, .int .u8 0, .int .u8 0, .int .u8 0, .int .u8 0, .int .u8 0, .int .u8 0, .int .u8 0, .int .u8 0, .int .u8 0, .int .u8 0, .int .u8 0, .int .u8 0, .int .u8 0, .int .u8 0, .int .u8 0, .int .u8 0, .int .u8 0, .int .u8 0, .int .u8 0, .int .u8 0, .int .u8 0, .int .u8 0, .int .u8 0, .int .u8 0, .int .u8 0, .int .u8 0, .int .u8 0, .int .u8 0, .int .u8 0, .int .u8 0, .int .u8 0, .int .u8 0, .int .u8 0, .int .u8 0, .int .u8 0, .int .u8 0, .int .u8 0, .int .u8 0, .int .u8 0, .int .u8 0, .int .u8 0, .int .u8 0, .int .u8 0, .int .u8 0, .int .u8 0, .int .u8 0, .int .u8 0, .int .u8 0, .int .u8 0, .int .u8 0, .int .u8 0, .int .u8 0, .int .u8 0, .int .u8 0, .int .u8 0, .int .u8 0, .int .u8 0, .int .u8 0, .int .u8 0, .int .u8 0, .int .u8 0, .int .u8 0, .int .u8 0, .int .u8 0, .int .u8 0, .int .u8 0, .int .u8 0, .int .u8 0, .int .u8 0, .int .u8 0, .int .u8 0, .int .u8 0, .int .u8 0, .int .u8 0, .int .u8 0, .int .u8 0, .int .u8 0, .int .u8 0, .int .u8 0, .int .u8 0, .int .u8 0, .int .u8 0, .int .u8 0, .int .u8 0, .int .u8 0, .int .u8 0]⟩),
  (232, ⟨.st [(0, 5), (1, 5)], 2, 2, [.int .u8 0, .int .u8 0]⟩),
  (233, ⟨.st [(0, 5), (1, 5)], 2, 2, [.int .u8 0, .int .u8 0]⟩),
  (234, ⟨.arr 16 233, 32, 32, [.int .u8 0, .int .u8 0, .int .u8 0, .int .u8 0, .int .u8 0, .int .u8 0, .int .u8 0, .int .u8 0, .int .u8 0, .int .u8 0, .int .u8 0, .int .u8 0, .int .u8 0, .int .u8 0, .int .u8 0, .int .u8 0, .int .u8 0, .int .u8 0, .int .u8 0, .int .u8 0, .int .u8 0, .int .u8 0, .int .u8 0, .int .u8 0, .int .u8 0, .int .u8 0, .int .u8 0, .int .u8 0, .int .u8 0, .int .u8 0, .int .u8 0, .int .u8 0]⟩),
  (235, ⟨.arr 32 5, 32, 32, [.int .u8 0, .int .u8 0, .int .u8 0, .int .u8 0, .int .u8 0, .int .u8 0, .int .u8 0, .int .u8 0, .int .u8 0, .int .u8 0, .int .u8 0, .int .u8 0, .int .u8 0, .int .u8 0, .int .u8 0, .int .u8 0, .int .u8 0, .int .u8 0, .int .u8 0, .int .u8 0, .int .u8 0, .int .u8 0, .int .u8 0, .int .u8 0, .int .u8 0, .int .u8 0, .int .u8 0, .int .u8 0, .int .u8 0, .int .u8 0, .int .u8 0, .int .u8 0]⟩),
  (236, ⟨.arr 64 5, 64, 64, [.int .u8 0, .int .u8 0, .int .u8 0, .int .u8 0, .int .u8 0, .int .u8 0, .int .u8 0, .int .u8 0, .int .u8 0, .int .u8 0, .int .u8 0, .int .u8 0, .int .u8 0, .int .u8 0, .int .u8 0, .int .u8 0, .int .u8 0, .int .u8 0, .int .u8 0, .int .u8 0, .int .u8 0, .int .u8 0, .int .u8 0, .int .u8 0, .int .u8 0, .int .u8 0, .int .u8 0, .int .u8 0, .int .u8 0, .int .u8 0, .int .u8 0, .int .u8 0, .int .u8 0, .int .u8 0, .int .u8 0, .int .u8 0, .int .u8 0, .int .u8 0, .int .u8 0, .int .u8 0, .int .u8 0, .int .u8 0, .int .u8 0, .int .u8 0, .int .u8 0, .int .u8 0, .int .u8 0, .int .u8 0, .int .u8 0, .int .u8 0, .int .u8 0, .int .u8 0, .int .u8 0, .int .u8 0, .int .u8 0, .int .u8 0, .int .u8 0, .int .u8 0, .int .u8 0, .int .u8 0, .int .u8 0, .int .u8 0, .int .u8 0, .int .u8 0]⟩),
  (237, ⟨.func, 1, 8, [.nilFunc]⟩),
  (238, ⟨.func, 1, 8, [.nilFunc]⟩),
  (239, ⟨.st [(0, 17), (1, 17), (2, 17), (3, 9)], 4, 40, [.pointer none, .pointer none, .pointer none, .string ByteArray.empty]⟩),
  (240, ⟨.st [(0, 17), (1, 17), (2, 17), (3, 9)], 4, 40, [.pointer none, .pointer none, .pointer none, .string ByteArray.empty]⟩),
  (241, ⟨.arr 0 16, 0, 0, []⟩),
  (242, ⟨.st [(0, 241)], 0, 0, []⟩),
  (243, ⟨.st [(0, 241)], 0, 0, []⟩),
  (244, ⟨.int .u8, 1, 1, [.int .u8 0]⟩),
  (245, ⟨.int .u8, 1, 1, [.int .u8 0]⟩),
  (246, ⟨.func, 1, 8, [.nilFunc]⟩),
  (247, ⟨.int .i32, 1, 4, [.int .i32 0]⟩),
  (248, ⟨.int .i32, 1, 4, [.int .i32 0]⟩),
  (249, ⟨.st [(0, 12), (1, 12), (2, 136), (3, 244), (4, 5), (5, 5), (6, 245), (7, 246), (8, 227), (9, 247), (10, 248)], 11, 48, [.int .u64 0, .int .u64 0, .int .u32 0, .int .u8 0, .int .u8 0, .int .u8 0, .int .u8 0, .nilFunc, .pointer none, .int .i32 0, .int .i32 0]⟩),
  (250, ⟨.st [(0, 12), (1, 12), (2, 136), (3, 244), (4, 5), (5, 5), (6, 245), (7, 246), (8, 227), (9, 247), (10, 248)], 11, 48, [.int .u64 0, .int .u64 0, .int .u32 0, .int .u8 0, .int .u8 0, .int .u8 0, .int .u8 0, .nilFunc, .pointer none, .int .i32 0, .int .i32 0]⟩)]
set_option maxRecDepth 100000 in
theorem tab_ok : TabOk Go.Proofs.Tryz.prog tab :=
  .cons (.mk' (z := .nilFunc) ⟨_, _, _, Go.Proofs.Tryz.underlying1⟩ (by kernel_rfl) rfl (fun h => rfl))
  (.cons (.mk' (z := .int .i64 0) Go.Proofs.Tryz.underlying2 (by kernel_rfl) rfl (fun h => rfl))
  (.cons (.mk' (z := .int .i64 0) Go.Proofs.Tryz.underlying3 (by kernel_rfl) rfl (fun h => rfl))
  (.cons (.mk' (z := .bool false) Go.Proofs.Tryz.underlying4 (by kernel_rfl) rfl (fun h => rfl))
  (.cons (.mk' (z := .int .u8 0) Go.Proofs.Tryz.underlying5 (by kernel_rfl) rfl (fun h => rfl))
  (.cons (.mk' (z := .int .u8 0) Go.Proofs.Tryz.underlying6 (by kernel_rfl) rfl (fun h => rfl))
  (.cons (.mk' (z := .agg #[.int .i64 0, .int .i64 0, .bool false, .int .u8 0]) ⟨_, Go.Proofs.Tryz.underlying7, rfl⟩ (by kernel_rfl) rfl (fun h => by cases h))
  (.cons (.mk' (z := .agg #[.int .i64 0, .int .i64 0, .bool false, .int .u8 0]) ⟨_, Go.Proofs.Tryz.underlying8, rfl⟩ (by kernel_rfl) rfl (fun h => by cases h))
  (.cons (.mk' (z := .string ByteArray.empty) Go.Proofs.Tryz.underlying9 (by kernel_rfl) rfl (fun h => rfl))
  (.cons (.mk' (z := .string ByteArray.empty) Go.Proofs.Tryz.underlying10 (by kernel_rfl) rfl (fun h => rfl))
  (.cons (.mk' (z := .string ByteArray.empty) Go.Proofs.Tryz.underlying11 (by kernel_rfl) rfl (fun h => rfl))
  (.cons (.mk' (z := .int .u64 0) Go.Proofs.Tryz.underlying12 (by kernel_rfl) rfl (fun h => rfl))
  (.cons (.mk' (z := .agg #[.string ByteArray.empty, .int .u64 0]) ⟨_, Go.Proofs.Tryz.underlying13, rfl⟩ (by kernel_rfl) rfl (fun h => by cases h))
  (.cons (.mk' (z := .agg #[.string ByteArray.empty, .int .u64 0]) ⟨_, Go.Proofs.Tryz.underlying14, rfl⟩ (by kernel_rfl) rfl (fun h => by cases h))
  (.cons (.mk' (z := .pointer none) Go.Proofs.Tryz.underlying15 (by kernel_rfl) rfl (fun h => rfl))
  (.cons (.mk' (z := .pointer none) Go.Proofs.Tryz.underlying16 (by kernel_rfl) rfl (fun h => rfl))
  (.cons (.mk' (z := .pointer none) Go.Proofs.Tryz.underlying17 (by kernel_rfl) rfl (fun h => rfl))
  (.cons (.mk' (z := .agg #[.pointer none]) ⟨_, Go.Proofs.Tryz.underlying18, rfl⟩ (by kernel_rfl) rfl (fun h => by cases h))
  (.cons (.mk' (z := .agg #[.pointer none]) ⟨_, Go.Proofs.Tryz.underlying19, rfl⟩ (by kernel_rfl) rfl (fun h => by cases h))
  (.cons (.mk' (z := .nilIface) ⟨_, Go.Proofs.Tryz.underlying20⟩ (by kernel_rfl) rfl (fun h => rfl))
  (.cons (.mk' (z := .int .i32 0) Go.Proofs.Tryz.underlying21 (by kernel_rfl) rfl (fun h => rfl))
  (.cons (.mk' (z := .int .u64 0) Go.Proofs.Tryz.underlying22 (by kernel_rfl) rfl (fun h => rfl))
  (.cons (.mk' (z := .nilFunc) ⟨_, _, _, Go.Proofs.Tryz.underlying23⟩ (by kernel_rfl) rfl (fun h => rfl))
  (.cons (.mk' (z := .pointer none) Go.Proofs.Tryz.underlying24 (by kernel_rfl) rfl (fun h => rfl))
  (.cons (.mk' (z := .nilFunc) ⟨_, _, _, Go.Proofs.Tryz.underlying25⟩ (by kernel_rfl) rfl (fun h => rfl))
  (.cons (.mk' (z := .nilFunc) ⟨_, _, _, Go.Proofs.Tryz.underlying26⟩ (by kernel_rfl) rfl (fun h => rfl))
  (.cons (.mk' (z := .nilFunc) ⟨_, _, _, Go.Proofs.Tryz.underlying27⟩ (by kernel_rfl) rfl (fun h => rfl))
  (.cons (.mk' (z := .nilFunc) ⟨_, _, _, Go.Proofs.Tryz.underlying28⟩ (by kernel_rfl) rfl (fun h => rfl))
  (.cons (.mk' (z := .nilFunc) ⟨_, _, _, Go.Proofs.Tryz.underlying30⟩ (by kernel_rfl) rfl (fun h => rfl))
  (.cons (.mk' (z := .slice none 0 0) Go.Proofs.Tryz.underlying31 (by kernel_rfl) rfl (fun h => rfl))
  (.cons (.mk' (z := .agg #[.slice none 0 0, .slice none 0 0, .slice none 0 0, .int .i64 0, .int .i64 0]) ⟨_, Go.Proofs.Tryz.underlying32, rfl⟩ (by kernel_rfl) rfl (fun h => by cases h))
  (.cons (.mk' (z := .agg #[.slice none 0 0, .slice none 0 0, .slice none 0 0, .int .i64 0, .int .i64 0]) ⟨_, Go.Proofs.Tryz.underlying33, rfl⟩ (by kernel_rfl) rfl (fun h => by cases h))
  (.cons (.mk' (z := .nilFunc) ⟨_, _, _, Go.Proofs.Tryz.underlying34⟩ (by kernel_rfl) rfl (fun h => rfl))
  (.cons (.mk' (z := .agg #[.int .i64 0, .int .i64 0]) ⟨_, Go.Proofs.Tryz.underlying35, rfl⟩ (by kernel_rfl) rfl (fun h => by cases h))
  (.cons (.mk' (z := .agg #[.int .i64 0, .int .i64 0]) ⟨_, Go.Proofs.Tryz.underlying36, rfl⟩ (by kernel_rfl) rfl (fun h => by cases h))
  (.cons (.mk' (z := .slice none 0 0) Go.Proofs.Tryz.underlying37 (by kernel_rfl) rfl (fun h => rfl))
  (.cons (.mk' (z := .nilFunc) ⟨_, _, _, Go.Proofs.Tryz.underlying38⟩ (by kernel_rfl) rfl (fun h => rfl))
  (.cons (.mk' (z := .nilFunc) ⟨_, _, _, Go.Proofs.Tryz.underlying39⟩ (by kernel_rfl) rfl (fun h => rfl))
  (.cons (.mk' (z := .slice none 0 0) Go.Proofs.Tryz.underlying40 (by kernel_rfl) rfl (fun h => rfl))
  (.cons (.mk' (z := .slice none 0 0) Go.Proofs.Tryz.underlying41 (by kernel_rfl) rfl (fun h => rfl))
  (.cons (.mk' (z := .nilFunc) ⟨_, _, _, Go.Proofs.Tryz.underlying42⟩ (by kernel_rfl) rfl (fun h => rfl))
  (.cons (.mk' (z := .nilFunc) ⟨_, _, _, Go.Proofs.Tryz.underlying43⟩ (by kernel_rfl) rfl (fun h => rfl))
  (.cons (.mk' (z := .nilFunc) ⟨_, _, _, Go.Proofs.Tryz.underlying44⟩ (by kernel_rfl) rfl (fun h => rfl))
  (.cons (.mk' (z := .nilFunc) ⟨_, _, _, Go.Proofs.Tryz.underlying45⟩ (by kernel_rfl) rfl (fun h => rfl))
  (.cons (.mk' (z := .slice none 0 0) Go.Proofs.Tryz.underlying46 (by kernel_rfl) rfl (fun h => rfl))
  (.cons (.mk' (z := .pointer none) Go.Proofs.Tryz.underlying47 (by kernel_rfl) rfl (fun h => rfl))
  (.cons (.mk' (z := .nilFunc) ⟨_, _, _, Go.Proofs.Tryz.underlying48⟩ (by kernel_rfl) rfl (fun h => rfl))
  (.cons (.mk' (z := .nilFunc) ⟨_, _, _, Go.Proofs.Tryz.underlying49⟩ (by kernel_rfl) rfl (fun h => rfl))
  (.cons (.mk' (z := .nilFunc) ⟨_, _, _, Go.Proofs.Tryz.underlying51⟩ (by kernel_rfl) rfl (fun h => rfl))
  (.cons (.mk' (z := .nilFunc) ⟨_, _, _, Go.Proofs.Tryz.underlying53⟩ (by kernel_rfl) rfl (fun h => rfl))
  (.cons (.mk' (z := .nilFunc) ⟨_, _, _, Go.Proofs.Tryz.underlying54⟩ (by kernel_rfl) rfl (fun h => rfl))
  (.cons (.mk' (z := .nilFunc) ⟨_, _, _, Go.Proofs.Tryz.underlying55⟩ (by kernel_rfl) rfl (fun h => rfl))
  (.cons (.mk' (z := .nilFunc) ⟨_, _, _, Go.Proofs.Tryz.underlying56⟩ (by kernel_rfl) rfl (fun h => rfl))
  (.cons (.mk' (z := .nilFunc) ⟨_, _, _, Go.Proofs.Tryz.underlying57⟩ (by kernel_rfl) rfl (fun h => rfl))
  (.cons (.mk' (z := .slice none 0 0) Go.Proofs.Tryz.underlying58 (by kernel_rfl) rfl (fun h => rfl))
  (.cons (.mk' (z := .agg #[.int .i64 0, .int .i64 0, .int .u64 0, .int .i64 0]) ⟨_, Go.Proofs.Tryz.underlying59, rfl⟩ (by kernel_rfl) rfl (fun h => by cases h))
  (.cons (.mk' (z := .agg #[.int .i64 0, .int .i64 0, .int .u64 0, .int .i64 0]) ⟨_, Go.Proofs.Tryz.underlying60, rfl⟩ (by kernel_rfl) rfl (fun h => by cases h))
  (.cons (.mk' (z := .nilFunc) ⟨_, _, _, Go.Proofs.Tryz.underlying61⟩ (by kernel_rfl) rfl (fun h => rfl))
  (.cons (.mk' (z := .nilFunc) ⟨_, _, _, Go.Proofs.Tryz.underlying62⟩ (by kernel_rfl) rfl (fun h => rfl))
  (.cons (.mk' (z := .nilFunc) ⟨_, _, _, Go.Proofs.Tryz.underlying63⟩ (by kernel_rfl) rfl (fun h => rfl))
  (.cons (.mk' (z := .nilFunc) ⟨_, _, _, Go.Proofs.Tryz.underlying64⟩ (by kernel_rfl) rfl (fun h => rfl))
  (.cons (.mk' (z := .nilFunc) ⟨_, _, _, Go.Proofs.Tryz.underlying65⟩ (by kernel_rfl) rfl (fun h => rfl))
  (.cons (.mk' (z := .nilFunc) ⟨_, _, _, Go.Proofs.Tryz.underlying66⟩ (by kernel_rfl) rfl (fun h => rfl))
  (.cons (.mk' (z := .nilFunc) ⟨_, _, _, Go.Proofs.Tryz.underlying67⟩ (by kernel_rfl) rfl (fun h => rfl))
  (.cons (.mk' (z := .pointer none) Go.Proofs.Tryz.underlying68 (by kernel_rfl) rfl (fun h => rfl))
  (.cons (.mk' (z := .nilFunc) ⟨_, _, _, Go.Proofs.Tryz.underlying69⟩ (by kernel_rfl) rfl (fun h => rfl))
  (.cons (.mk' (z := .nilFunc) ⟨_, _, _, Go.Proofs.Tryz.underlying70⟩ (by kernel_rfl) rfl (fun h => rfl))
  (.cons (.mk' (z := .nilFunc) ⟨_, _, _, Go.Proofs.Tryz.underlying71⟩ (by kernel_rfl) rfl (fun h => rfl))
  (.cons (.mk' (z := .nilFunc) ⟨_, _, _, Go.Proofs.Tryz.underlying72⟩ (by kernel_rfl) rfl (fun h => rfl))
  (.cons (.mk' (z := .map none) Go.Proofs.Tryz.underlying73 (by kernel_rfl) rfl (fun h => rfl))
  (.cons (.mk' (z := .nilFunc) ⟨_, _, _, Go.Proofs.Tryz.underlying74⟩ (by kernel_rfl) rfl (fun h => rfl))
  (.cons (.mk' (z := .nilFunc) ⟨_, _, _, Go.Proofs.Tryz.underlying75⟩ (by kernel_rfl) rfl (fun h => rfl))
  (.cons (.mk' (z := .nilFunc) ⟨_, _, _, Go.Proofs.Tryz.underlying76⟩ (by kernel_rfl) rfl (fun h => rfl))
  (.cons (.mk' (z := .pointer none) Go.Proofs.Tryz.underlying77 (by kernel_rfl) rfl (fun h => rfl))
  (.cons (.mk' (z := .nilFunc) ⟨_, _, _, Go.Proofs.Tryz.underlying78⟩ (by kernel_rfl) rfl (fun h => rfl))
  (.cons (.mk' (z := .pointer none) Go.Proofs.Tryz.underlying79 (by kernel_rfl) rfl (fun h => rfl))
  (.cons (.mk' (z := .nilFunc) ⟨_, _, _, Go.Proofs.Tryz.underlying80⟩ (by kernel_rfl) rfl (fun h => rfl))
  (.cons (.mk' (z := .pointer none) Go.Proofs.Tryz.underlying81 (by kernel_rfl) rfl (fun h => rfl))
  (.cons (.mk' (z := .nilFunc) ⟨_, _, _, Go.Proofs.Tryz.underlying82⟩ (by kernel_rfl) rfl (fun h => rfl))
  (.cons (.mk' (z := .pointer none) Go.Proofs.Tryz.underlying83 (by kernel_rfl) rfl (fun h => rfl))
  (.cons (.mk' (z := .nilFunc) ⟨_, _, _, Go.Proofs.Tryz.underlying84⟩ (by kernel_rfl) rfl (fun h => rfl))
  (.cons (.mk' (z := .nilFunc) ⟨_, _, _, Go.Proofs.Tryz.underlying85⟩ (by kernel_rfl) rfl (fun h => rfl))
  (.cons (.mk' (z := .nilFunc) ⟨_, _, _, Go.Proofs.Tryz.underlying87⟩ (by kernel_rfl) rfl (fun h => rfl))
  (.cons (.mk' (z := .nilFunc) ⟨_, _, _, Go.Proofs.Tryz.underlying88⟩ (by kernel_rfl) rfl (fun h => rfl))
  (.cons (.mk' (z := .nilFunc) ⟨_, _, _, Go.Proofs.Tryz.underlying90⟩ (by kernel_rfl) rfl (fun h => rfl))
  (.cons (.mk' (z := .nilFunc) ⟨_, _, _, Go.Proofs.Tryz.underlying91⟩ (by kernel_rfl) rfl (fun h => rfl))
  (.cons (.mk' (z := .nilFunc) ⟨_, _, _, Go.Proofs.Tryz.underlying92⟩ (by kernel_rfl) rfl (fun h => rfl))
  (.cons (.mk' (z := .slice none 0 0) Go.Proofs.Tryz.underlying93 (by kernel_rfl) rfl (fun h => rfl))
  (.cons (.mk' (z := .agg #[.slice none 0 0, .int .u64 0, .bool false]) ⟨_, Go.Proofs.Tryz.underlying94, rfl⟩ (by kernel_rfl) rfl (fun h => by cases h))
  (.cons (.mk' (z := .agg #[.slice none 0 0, .int .u64 0, .bool false]) ⟨_, Go.Proofs.Tryz.underlying95, rfl⟩ (by kernel_rfl) rfl (fun h => by cases h))
  (.cons (.mk' (z := .nilFunc) ⟨_, _, _, Go.Proofs.Tryz.underlying96⟩ (by kernel_rfl) rfl (fun h => rfl))
  (.cons (.mk' (z := .agg #[.int .u64 0, .int .i64 0, .int .i64 0]) ⟨_, Go.Proofs.Tryz.underlying97, rfl⟩ (by kernel_rfl) rfl (fun h => by cases h))
  (.cons (.mk' (z := .agg #[.int .u64 0, .int .i64 0, .int .i64 0]) ⟨_, Go.Proofs.Tryz.underlying98, rfl⟩ (by kernel_rfl) rfl (fun h => by cases h))
  (.cons (.mk' (z := .pointer none) Go.Proofs.Tryz.underlying99 (by kernel_rfl) rfl (fun h => rfl))
  (.cons (.mk' (z := .nilFunc) ⟨_, _, _, Go.Proofs.Tryz.underlying100⟩ (by kernel_rfl) rfl (fun h => rfl))
  (.cons (.mk' (z := .nilFunc) ⟨_, _, _, Go.Proofs.Tryz.underlying101⟩ (by kernel_rfl) rfl (fun h => rfl))
  (.cons (.mk' (z := .map none) Go.Proofs.Tryz.underlying102 (by kernel_rfl) rfl (fun h => rfl))
  (.cons (.mk' (z := .map none) Go.Proofs.Tryz.underlying103 (by kernel_rfl) rfl (fun h => rfl))
  (.cons (.mk' (z := .agg #[.int .i64 0, .bool false, .int .i64 0, .int .u64 0, .int .u64 0, .map none, .map none, .int .i64 0, .bool false, .int .i64 0, .int .u64 0, .slice none 0 0, .int .u64 0, .int .i64 0]) ⟨_, Go.Proofs.Tryz.underlying104, rfl⟩ (by kernel_rfl) rfl (fun h => by cases h))
  (.cons (.mk' (z := .agg #[.int .i64 0, .bool false, .int .i64 0, .int .u64 0, .int .u64 0, .map none, .map none, .int .i64 0, .bool false, .int .i64 0, .int .u64 0, .slice none 0 0, .int .u64 0, .int .i64 0]) ⟨_, Go.Proofs.Tryz.underlying105, rfl⟩ (by kernel_rfl) rfl (fun h => by cases h))
  (.cons (.mk' (z := .nilFunc) ⟨_, _, _, Go.Proofs.Tryz.underlying106⟩ (by kernel_rfl) rfl (fun h => rfl))
  (.cons (.mk' (z := .nilFunc) ⟨_, _, _, Go.Proofs.Tryz.underlying107⟩ (by kernel_rfl) rfl (fun h => rfl))
  (.cons (.mk' (z := .int .u64 0) Go.Proofs.Tryz.underlying108 (by kernel_rfl) rfl (fun h => rfl))
  (.cons (.mk' (z := .nilFunc) ⟨_, _, _, Go.Proofs.Tryz.underlying109⟩ (by kernel_rfl) rfl (fun h => rfl))
  (.cons (.mk' (z := .nilFunc) ⟨_, _, _, Go.Proofs.Tryz.underlying110⟩ (by kernel_rfl) rfl (fun h => rfl))
  (.cons (.mk' (z := .map none) Go.Proofs.Tryz.underlying111 (by kernel_rfl) rfl (fun h => rfl))
  (.cons (.mk' (z := .agg #[.map none, .int .u64 0, .bool false, .int .u64 0, .bool false]) ⟨_, Go.Proofs.Tryz.underlying112, rfl⟩ (by kernel_rfl) rfl (fun h => by cases h))
  (.cons (.mk' (z := .agg #[.map none, .int .u64 0, .bool false, .int .u64 0, .bool false]) ⟨_, Go.Proofs.Tryz.underlying113, rfl⟩ (by kernel_rfl) rfl (fun h => by cases h))
  (.cons (.mk' (z := .nilFunc) ⟨_, _, _, Go.Proofs.Tryz.underlying114⟩ (by kernel_rfl) rfl (fun h => rfl))
  (.cons (.mk' (z := .agg #[.bool false, .int .i64 0, .int .i64 0, .int .i64 0]) ⟨_, Go.Proofs.Tryz.underlying115, rfl⟩ (by kernel_rfl) rfl (fun h => by cases h))
  (.cons (.mk' (z := .agg #[.bool false, .int .i64 0, .int .i64 0, .int .i64 0]) ⟨_, Go.Proofs.Tryz.underlying116, rfl⟩ (by kernel_rfl) rfl (fun h => by cases h))
  (.cons (.mk' (z := .agg #[.int .u64 0, .bool false]) ⟨_, Go.Proofs.Tryz.underlying117, rfl⟩ (by kernel_rfl) rfl (fun h => by cases h))
  (.cons (.mk' (z := .agg #[.int .u64 0, .bool false]) ⟨_, Go.Proofs.Tryz.underlying118, rfl⟩ (by kernel_rfl) rfl (fun h => by cases h))
  (.cons (.mk' (z := .agg #[.int .i64 0, .int .i64 0, .int .i64 0, .int .i64 0, .pointer none, .int .u64 0, .bool false, .int .u64 0, .bool false, .bool false, .int .i64 0]) ⟨_, Go.Proofs.Tryz.underlying119, rfl⟩ (by kernel_rfl) rfl (fun h => by cases h))
  (.cons (.mk' (z := .agg #[.int .i64 0, .int .i64 0, .int .i64 0, .int .i64 0, .pointer none, .int .u64 0, .bool false, .int .u64 0, .bool false, .bool false, .int .i64 0]) ⟨_, Go.Proofs.Tryz.underlying120, rfl⟩ (by kernel_rfl) rfl (fun h => by cases h))
  (.cons (.mk' (z := .agg #[.int .i64 0, .int .u64 0]) ⟨_, Go.Proofs.Tryz.underlying121, rfl⟩ (by kernel_rfl) rfl (fun h => by cases h))
  (.cons (.mk' (z := .agg #[.int .i64 0, .int .u64 0]) ⟨_, Go.Proofs.Tryz.underlying122, rfl⟩ (by kernel_rfl) rfl (fun h => by cases h))
  (.cons (.mk' (z := .slice none 0 0) Go.Proofs.Tryz.underlying123 (by kernel_rfl) rfl (fun h => rfl))
  (.cons (.mk' (z := .agg #[.slice none 0 0]) ⟨_, Go.Proofs.Tryz.underlying124, rfl⟩ (by kernel_rfl) rfl (fun h => by cases h))
  (.cons (.mk' (z := .agg #[.slice none 0 0]) ⟨_, Go.Proofs.Tryz.underlying125, rfl⟩ (by kernel_rfl) rfl (fun h => by cases h))
  (.cons (.mk' (z := .agg #[.int .u64 0, .int .u64 0, .int .u64 0, .int .i64 0, .bool false, .int .i64 0, .pointer none, .bool false, .bool false, .int .i64 0]) ⟨_, Go.Proofs.Tryz.underlying126, rfl⟩ (by kernel_rfl) rfl (fun h => by cases h))
  (.cons (.mk' (z := .agg #[.int .u64 0, .int .u64 0, .int .u64 0, .int .i64 0, .bool false, .int .i64 0, .pointer none, .bool false, .bool false, .int .i64 0]) ⟨_, Go.Proofs.Tryz.underlying127, rfl⟩ (by kernel_rfl) rfl (fun h => by cases h))
  (.cons (.mk' (z := .nilFunc) ⟨_, _, _, Go.Proofs.Tryz.underlying128⟩ (by kernel_rfl) rfl (fun h => rfl))
  (.cons (.mk' (z := .nilFunc) ⟨_, _, _, Go.Proofs.Tryz.underlying129⟩ (by kernel_rfl) rfl (fun h => rfl))
  (.cons (.mk' (z := .nilFunc) ⟨_, _, _, Go.Proofs.Tryz.underlying130⟩ (by kernel_rfl) rfl (fun h => rfl))
  (.cons (.mk' (z := .nilFunc) ⟨_, _, _, Go.Proofs.Tryz.underlying131⟩ (by kernel_rfl) rfl (fun h => rfl))
  (.cons (.mk' (z := .nilFunc) ⟨_, _, _, Go.Proofs.Tryz.underlying132⟩ (by kernel_rfl) rfl (fun h => rfl))
  (.cons (.mk' (z := .nilFunc) ⟨_, _, _, Go.Proofs.Tryz.underlying134⟩ (by kernel_rfl) rfl (fun h => rfl))
  (.cons (.mk' (z := .nilFunc) ⟨_, _, _, Go.Proofs.Tryz.underlying135⟩ (by kernel_rfl) rfl (fun h => rfl))
  (.cons (.mk' (z := .int .u32 0) Go.Proofs.Tryz.underlying136 (by kernel_rfl) rfl (fun h => rfl))
  (.cons (.mk' (z := .agg #[.int .u8 0, .int .u8 0, .int .u8 0]) Go.Proofs.Tryz.underlying137 (by kernel_rfl) rfl (fun h => by cases h))
  (.cons (.mk' (z := .agg #[.int .i64 0, .int .i64 0, .int .i64 0, .int .i64 0, .int .i64 0, .int .i64 0, .int .i64 0, .bool false, .int .u64 0, .int .u64 0, .int .u32 0, .int .i64 0, .int .u8 0, .int .u8 0, .int .u8 0]) ⟨_, Go.Proofs.Tryz.underlying138, rfl⟩ (by kernel_rfl) rfl (fun h => by cases h))
  (.cons (.mk' (z := .agg #[.int .i64 0, .int .i64 0, .int .i64 0, .int .i64 0, .int .i64 0, .int .i64 0, .int .i64 0, .bool false, .int .u64 0, .int .u64 0, .int .u32 0, .int .i64 0, .int .u8 0, .int .u8 0, .int .u8 0]) ⟨_, Go.Proofs.Tryz.underlying139, rfl⟩ (by kernel_rfl) rfl (fun h => by cases h))
  (.cons (.mk' (z := .agg #[.int .i64 0, .string ByteArray.empty]) ⟨_, Go.Proofs.Tryz.underlying140, rfl⟩ (by kernel_rfl) rfl (fun h => by cases h))
  (.cons (.mk' (z := .agg #[.int .i64 0, .string ByteArray.empty]) ⟨_, Go.Proofs.Tryz.underlying141, rfl⟩ (by kernel_rfl) rfl (fun h => by cases h))
  (.cons (.mk' (z := .slice none 0 0) Go.Proofs.Tryz.underlying142 (by kernel_rfl) rfl (fun h => rfl))
  (.cons (.mk' (z := .agg #[.int .i64 0, .int .i64 0, .int .i64 0, .int .i64 0, .int .i64 0, .int .i64 0, .int .i64 0, .bool false, .int .u64 0, .int .u64 0, .int .u32 0, .int .i64 0, .int .u8 0, .int .u8 0, .int .u8 0, .slice none 0 0, .string ByteArray.empty]) ⟨_, Go.Proofs.Tryz.underlying143, rfl⟩ (by kernel_rfl) rfl (fun h => by cases h))
  (.cons (.mk' (z := .agg #[.int .i64 0, .int .i64 0, .int .i64 0, .int .i64 0, .int .i64 0, .int .i64 0, .int .i64 0, .bool false, .int .u64 0, .int .u64 0, .int .u32 0, .int .i64 0, .int .u8 0, .int .u8 0, .int .u8 0, .slice none 0 0, .string ByteArray.empty]) ⟨_, Go.Proofs.Tryz.underlying144, rfl⟩ (by kernel_rfl) rfl (fun h => by cases h))
  (.cons (.mk' (z := .int .i64 0) Go.Proofs.Tryz.underlying145 (by kernel_rfl) rfl (fun h => rfl))
  (.cons (.mk' (z := .nilFunc) ⟨_, _, _, Go.Proofs.Tryz.underlying147⟩ (by kernel_rfl) rfl (fun h => rfl))
  (.cons (.mk' (z := .nilFunc) ⟨_, _, _, Go.Proofs.Tryz.underlying149⟩ (by kernel_rfl) rfl (fun h => rfl))
  (.cons (.mk' (z := .nilFunc) ⟨_, _, _, Go.Proofs.Tryz.underlying151⟩ (by kernel_rfl) rfl (fun h => rfl))
  (.cons (.mk' (z := .nilFunc) ⟨_, _, _, Go.Proofs.Tryz.underlying152⟩ (by kernel_rfl) rfl (fun h => rfl))
  (.cons (.mk' (z := .nilFunc) ⟨_, _, _, Go.Proofs.Tryz.underlying153⟩ (by kernel_rfl) rfl (fun h => rfl))
  (.cons (.mk' (z := .nilFunc) ⟨_, _, _, Go.Proofs.Tryz.underlying154⟩ (by kernel_rfl) rfl (fun h => rfl))
  (.cons (.mk' (z := .nilFunc) ⟨_, _, _, Go.Proofs.Tryz.underlying155⟩ (by kernel_rfl) rfl (fun h => rfl))
  (.cons (.mk' (z := .nilFunc) ⟨_, _, _, Go.Proofs.Tryz.underlying156⟩ (by kernel_rfl) rfl (fun h => rfl))
  (.cons (.mk' (z := .nilIface) ⟨_, Go.Proofs.Tryz.underlying157⟩ (by kernel_rfl) rfl (fun h => rfl))
  (.cons (.mk' (z := .nilIface) ⟨_, Go.Proofs.Tryz.underlying158⟩ (by kernel_rfl) rfl (fun h => rfl))
  (.cons (.mk' (z := .nilFunc) ⟨_, _, _, Go.Proofs.Tryz.underlying159⟩ (by kernel_rfl) rfl (fun h => rfl))
  (.cons (.mk' (z := .nilFunc) ⟨_, _, _, Go.Proofs.Tryz.underlying161⟩ (by kernel_rfl) rfl (fun h => rfl))
  (.cons (.mk' (z := .nilFunc) ⟨_, _, _, Go.Proofs.Tryz.underlying162⟩ (by kernel_rfl) rfl (fun h => rfl))
  (.cons (.mk' (z := .nilFunc) ⟨_, _, _, Go.Proofs.Tryz.underlying163⟩ (by kernel_rfl) rfl (fun h => rfl))
  (.cons (.mk' (z := .nilFunc) ⟨_, _, _, Go.Proofs.Tryz.underlying164⟩ (by kernel_rfl) rfl (fun h => rfl))
  (.cons (.mk' (z := .nilFunc) ⟨_, _, _, Go.Proofs.Tryz.underlying165⟩ (by kernel_rfl) rfl (fun h => rfl))
  (.cons (.mk' (z := .nilFunc) ⟨_, _, _, Go.Proofs.Tryz.underlying166⟩ (by kernel_rfl) rfl (fun h => rfl))
  (.cons (.mk' (z := .nilFunc) ⟨_, _, _, Go.Proofs.Tryz.underlying167⟩ (by kernel_rfl) rfl (fun h => rfl))
  (.cons (.mk' (z := .nilFunc) ⟨_, _, _, Go.Proofs.Tryz.underlying168⟩ (by kernel_rfl) rfl (fun h => rfl))
  (.cons (.mk' (z := .nilFunc) ⟨_, _, _, Go.Proofs.Tryz.underlying169⟩ (by kernel_rfl) rfl (fun h => rfl))
  (.cons (.mk' (z := .nilFunc) ⟨_, _, _, Go.Proofs.Tryz.underlying171⟩ (by kernel_rfl) rfl (fun h => rfl))
  (.cons (.mk' (z := .nilFunc) ⟨_, _, _, Go.Proofs.Tryz.underlying173⟩ (by kernel_rfl) rfl (fun h => rfl))
  (.cons (.mk' (z := .nilFunc) ⟨_, _, _, Go.Proofs.Tryz.underlying175⟩ (by kernel_rfl) rfl (fun h => rfl))
  (.cons (.mk' (z := .nilFunc) ⟨_, _, _, Go.Proofs.Tryz.underlying176⟩ (by kernel_rfl) rfl (fun h => rfl))
  (.cons (.mk' (z := .nilFunc) ⟨_, _, _, Go.Proofs.Tryz.underlying177⟩ (by kernel_rfl) rfl (fun h => rfl))
  (.cons (.mk' (z := .slice none 0 0) Go.Proofs.Tryz.underlying178 (by kernel_rfl) rfl (fun h => rfl))
  (.cons (.mk' (z := .slice none 0 0) Go.Proofs.Tryz.underlying179 (by kernel_rfl) rfl (fun h => rfl))
  (.cons (.mk' (z := .nilFunc) ⟨_, _, _, Go.Proofs.Tryz.underlying180⟩ (by kernel_rfl) rfl (fun h => rfl))
  (.cons (.mk' (z := .nilFunc) ⟨_, _, _, Go.Proofs.Tryz.underlying181⟩ (by kernel_rfl) rfl (fun h => rfl))
  (.cons (.mk' (z := .nilFunc) ⟨_, _, _, Go.Proofs.Tryz.underlying182⟩ (by kernel_rfl) rfl (fun h => rfl))
  (.cons (.mk' (z := .nilFunc) ⟨_, _, _, Go.Proofs.Tryz.underlying183⟩ (by kernel_rfl) rfl (fun h => rfl))
  (.cons (.mk' (z := .nilFunc) ⟨_, _, _, Go.Proofs.Tryz.underlying184⟩ (by kernel_rfl) rfl (fun h => rfl))
  (.cons (.mk' (z := .nilFunc) ⟨_, _, _, Go.Proofs.Tryz.underlying185⟩ (by kernel_rfl) rfl (fun h => rfl))
  (.cons (.mk' (z := .nilFunc) ⟨_, _, _, Go.Proofs.Tryz.underlying187⟩ (by kernel_rfl) rfl (fun h => rfl))
  (.cons (.mk' (z := .nilFunc) ⟨_, _, _, Go.Proofs.Tryz.underlying188⟩ (by kernel_rfl) rfl (fun h => rfl))
  (.cons (.mk' (z := .nilFunc) ⟨_, _, _, Go.Proofs.Tryz.underlying190⟩ (by kernel_rfl) rfl (fun h => rfl))
  (.cons (.mk' (z := .nilFunc) ⟨_, _, _, Go.Proofs.Tryz.underlying191⟩ (by kernel_rfl) rfl (fun h => rfl))
  (.cons (.mk' (z := .agg #[.bool false, .bool false, .bool false, .bool false, .bool false, .bool false, .bool false, .bool false, .bool false, .bool false, .bool false, .bool false, .bool false, .bool false, .bool false, .bool false, .bool false, .bool false, .bool false, .bool false, .bool false, .bool false, .bool false, .bool false, .bool false, .bool false, .bool false, .bool false, .bool false, .bool false, .bool false, .bool false, .bool false, .bool false, .bool false, .bool false, .bool false, .bool false, .bool false, .bool false, .bool false, .bool false, .bool false, .bool false, .bool false, .bool false, .bool false, .bool false, .bool false, .bool false, .bool false, .bool false, .bool false, .bool false, .bool false, .bool false, .bool false, .bool false, .bool false, .bool false, .bool false, .bool false, .bool false, .bool false, .bool false, .bool false, .bool false, .bool false, .bool false, .bool false, .bool false, .bool false, .bool false, .bool false, .bool false, .bool false, .bool false, .bool false, .bool false, .bool false, .bool false, .bool false, .bool false, .bool false, .bool false, .bool false, .bool false, .bool false, .bool false, .bool false, .bool false, .bool false, .bool false, .bool false, .bool false, .bool false, .bool false, .bool false, .bool false, .bool false, .bool false, .bool false, .bool false, .bool false, .bool false, .bool false, .bool false, .bool false, .bool false, .bool false, .bool false, .bool false, .bool false, .bool false, .bool false, .bool false, .bool false, .bool false, .bool false, .bool false, .bool false, .bool false, .bool false, .bool false, .bool false, .bool false, .bool false, .bool false, .bool false, .bool false, .bool false, .bool false, .bool false, .bool false, .bool false, .bool false, .bool false, .bool false, .bool false, .bool false, .bool false, .bool false, .bool false, .bool false, .bool false, .bool false, .bool false, .bool false, .bool false, .bool false, .bool false, .bool false, .bool false, .bool false, .bool false, .bool false, .bool false, .bool false, .bool false, .bool false, .bool false, .bool false, .bool false, .bool false, .bool false, .bool false, .bool false, .bool false, .bool false, .bool false, .bool false, .bool false, .bool false, .bool false, .bool false, .bool false, .bool false, .bool false, .bool false, .bool false, .bool false, .bool false, .bool false, .bool false, .bool false, .bool false, .bool false, .bool false, .bool false, .bool false, .bool false, .bool false, .bool false, .bool false, .bool false, .bool false, .bool false, .bool false, .bool false, .bool false, .bool false, .bool false, .bool false, .bool false, .bool false, .bool false, .bool false, .bool false, .bool false, .bool false, .bool false, .bool false, .bool false, .bool false, .bool false, .bool false, .bool false, .bool false, .bool false, .bool false, .bool false, .bool false, .bool false, .bool false, .bool false, .bool false, .bool false, .bool false, .bool false, .bool false, .bool false, .bool false, .bool false, .bool false, .bool false, .bool false, .bool false, .bool false, .bool false, .bool false, .bool false, .bool false, .bool false, .bool false, .bool false, .bool false, .bool false, .bool false, .bool false, .bool false, .bool false, .bool false, .bool false, .bool false, .bool false, .bool false]) Go.Proofs.Tryz.underlying192 (by kernel_rfl) rfl (fun h => by cases h))
  (.cons (.mk' (z := .agg #[.bool false, .bool false, .bool false, .bool false, .bool false, .bool false, .bool false, .bool false, .bool false, .bool false, .bool false, .bool false, .bool false, .bool false, .bool false, .bool false, .bool false, .bool false, .bool false, .bool false, .bool false, .bool false, .bool false, .bool false, .bool false, .bool false, .bool false, .bool false, .bool false, .bool false, .bool false, .bool false, .bool false, .bool false, .bool false, .bool false, .bool false, .bool false, .bool false, .bool false, .bool false, .bool false, .bool false, .bool false, .bool false, .bool false, .bool false, .bool false, .bool false, .bool false, .bool false, .bool false, .bool false, .bool false, .bool false, .bool false, .bool false, .bool false, .bool false, .bool false, .bool false, .bool false, .bool false, .bool false, .bool false, .bool false, .bool false, .bool false, .bool false, .bool false, .bool false, .bool false, .bool false, .bool false, .bool false, .bool false, .bool false, .bool false, .bool false, .bool false, .bool false, .bool false, .bool false, .bool false, .bool false, .bool false, .bool false, .bool false, .bool false, .bool false, .bool false, .bool false, .bool false, .bool false, .bool false, .bool false, .bool false, .bool false, .bool false, .bool false, .bool false, .bool false, .bool false, .bool false, .bool false, .bool false, .bool false, .bool false, .bool false, .bool false, .bool false, .bool false, .bool false, .bool false, .bool false, .bool false, .bool false, .bool false, .bool false, .bool false, .bool false, .bool false, .bool false, .bool false, .bool false, .bool false, .bool false, .bool false, .bool false, .bool false, .bool false, .bool false, .bool false, .bool false, .bool false, .bool false, .bool false, .bool false, .bool false, .bool false, .bool false, .bool false, .bool false, .bool false, .bool false, .bool false, .bool false, .bool false, .bool false, .bool false, .bool false, .bool false, .bool false, .bool false, .bool false, .bool false, .bool false, .bool false, .bool false, .bool false, .bool false, .bool false, .bool false, .bool false, .bool false, .bool false, .bool false, .bool false, .bool false, .bool false, .bool false, .bool false, .bool false, .bool false, .bool false, .bool false, .bool false, .bool false, .bool false, .bool false, .bool false, .bool false, .bool false, .bool false, .bool false, .bool false, .bool false, .bool false, .bool false, .bool false, .bool false, .bool false, .bool false, .bool false, .bool false, .bool false, .bool false, .bool false, .bool false, .bool false, .bool false, .bool false, .bool false, .bool false, .bool false, .bool false, .bool false, .bool false, .bool false, .bool false, .bool false, .bool false, .bool false, .bool false, .bool false, .bool false, .bool false, .bool false, .bool false, .bool false, .bool false, .bool false, .bool false, .bool false, .bool false, .bool false, .bool false, .bool false, .bool false, .bool false, .bool false, .bool false, .bool false, .bool false, .bool false, .bool false, .bool false, .bool false, .bool false, .bool false, .bool false, .bool false, .bool false, .bool false, .bool false, .bool false, .bool false, .bool false, .bool false, .bool false, .bool false, .bool false, .bool false, .bool false, .bool false, .bool false]) Go.Proofs.Tryz.underlying193 (by kernel_rfl) rfl (fun h => by cases h))
  (.cons (.mk' (z := .nilFunc) ⟨_, _, _, Go.Proofs.Tryz.underlying195⟩ (by kernel_rfl) rfl (fun h => rfl))
  (.cons (.mk' (z := .nilFunc) ⟨_, _, _, Go.Proofs.Tryz.underlying196⟩ (by kernel_rfl) rfl (fun h => rfl))
  (.cons (.mk' (z := .pointer none) Go.Proofs.Tryz.underlying197 (by kernel_rfl) rfl (fun h => rfl))
  (.cons (.mk' (z := .nilFunc) ⟨_, _, _, Go.Proofs.Tryz.underlying198⟩ (by kernel_rfl) rfl (fun h => rfl))
  (.cons (.mk' (z := .nilFunc) ⟨_, _, _, Go.Proofs.Tryz.underlying199⟩ (by kernel_rfl) rfl (fun h => rfl))
  (.cons (.mk' (z := .nilFunc) ⟨_, _, _, Go.Proofs.Tryz.underlying200⟩ (by kernel_rfl) rfl (fun h => rfl))
  (.cons (.mk' (z := .nilFunc) ⟨_, _, _, Go.Proofs.Tryz.underlying201⟩ (by kernel_rfl) rfl (fun h => rfl))
  (.cons (.mk' (z := .nilFunc) ⟨_, _, _, Go.Proofs.Tryz.underlying203⟩ (by kernel_rfl) rfl (fun h => rfl))
  (.cons (.mk' (z := .nilFunc) ⟨_, _, _, Go.Proofs.Tryz.underlying204⟩ (by kernel_rfl) rfl (fun h => rfl))
  (.cons (.mk' (z := .nilFunc) ⟨_, _, _, Go.Proofs.Tryz.underlying205⟩ (by kernel_rfl) rfl (fun h => rfl))
  (.cons (.mk' (z := .agg #[.int .u8 0, .int .u8 0, .int .u8 0, .int .u8 0, .int .u8 0, .int .u8 0, .int .u8 0, .int .u8 0, .int .u8 0, .int .u8 0, .int .u8 0, .int .u8 0, .int .u8 0, .int .u8 0, .int .u8 0, .int .u8 0, .int .u8 0, .int .u8 0, .int .u8 0, .int .u8 0, .int .u8 0, .int .u8 0, .int .u8 0, .int .u8 0]) Go.Proofs.Tryz.underlying206 (by kernel_rfl) rfl (fun h => by cases h))
  (.cons (.mk' (z := .nilFunc) ⟨_, _, _, Go.Proofs.Tryz.underlying207⟩ (by kernel_rfl) rfl (fun h => rfl))
  (.cons (.mk' (z := .nilFunc) ⟨_, _, _, Go.Proofs.Tryz.underlying209⟩ (by kernel_rfl) rfl (fun h => rfl))
  (.cons (.mk' (z := .int .i64 0) Go.Proofs.Tryz.underlying210 (by kernel_rfl) rfl (fun h => rfl))
  (.cons (.mk' (z := .nilFunc) ⟨_, _, _, Go.Proofs.Tryz.underlying211⟩ (by kernel_rfl) rfl (fun h => rfl))
  (.cons (.mk' (z := .nilFunc) ⟨_, _, _, Go.Proofs.Tryz.underlying212⟩ (by kernel_rfl) rfl (fun h => rfl))
  (.cons (.mk' (z := .pointer none) Go.Proofs.Tryz.underlying213 (by kernel_rfl) rfl (fun h => rfl))
  (.cons (.mk' (z := .nilFunc) ⟨_, _, _, Go.Proofs.Tryz.underlying214⟩ (by kernel_rfl) rfl (fun h => rfl))
  (.cons (.mk' (z := .nilFunc) ⟨_, _, _, Go.Proofs.Tryz.underlying215⟩ (by kernel_rfl) rfl (fun h => rfl))
  (.cons (.mk' (z := .nilFunc) ⟨_, _, _, Go.Proofs.Tryz.underlying216⟩ (by kernel_rfl) rfl (fun h => rfl))
  (.cons (.mk' (z := .nilFunc) ⟨_, _, _, Go.Proofs.Tryz.underlying217⟩ (by kernel_rfl) rfl (fun h => rfl))
  (.cons (.mk' (z := .agg #[.int .u64 0, .int .u64 0, .int .u64 0, .int .u64 0, .int .u64 0, .int .u64 0, .int .u64 0, .int .u64 0, .int .u64 0, .int .u64 0, .int .u64 0, .int .u64 0, .int .u64 0, .int .u64 0, .int .u64 0, .int .u64 0, .int .u64 0, .int .u64 0, .int .u64 0, .int .u64 0]) Go.Proofs.Tryz.underlying218 (by kernel_rfl) rfl (fun h => by cases h))
  (.cons (.mk' (z := .agg #[.int .u8 0, .int .u8 0, .int .u8 0, .int .u8 0, .int .u8 0, .int .u8 0, .int .u8 0, .int .u8 0, .int .u8 0, .int .u8 0, .int .u8 0, .int .u8 0, .int .u8 0, .int .u8 0, .int .u8 0, .int .u8 0, .int .u8 0, .int .u8 0, .int .u8 0, .int .u8 0, .int .u8 0, .int .u8 0, .int .u8 0, .int .u8 0, .int .u8 0, .int .u8 0, .int .u8 0, .int .u8 0, .int .u8 0, .int .u8 0, .int .u8 0, .int .u8 0, .int .u8 0, .int .u8 0, .int .u8 0, .int .u8 0, .int .u8 0, .int .u8 0, .int .u8 0, .int .u8 0, .int .u8 0, .int .u8 0, .int .u8 0, .int .u8 0, .int .u8 0, .int .u8 0, .int .u8 0, .int .u8 0, .int .u8 0, .int .u8 0, .int .u8 0, .int .u8 0, .int .u8 0, .int .u8 0, .int .u8 0, .int .u8 0, .int .u8 0, .int .u8 0, .int .u8 0, .int .u8 0, .int .u8 0, .int .u8 0, .int .u8 0, .int .u8 0, .int .u8 0]) Go.Proofs.Tryz.underlying219 (by kernel_rfl) rfl (fun h => by cases h))
  (.cons (.mk' (z := .nilFunc) ⟨_, _, _, Go.Proofs.Tryz.underlying220⟩ (by kernel_rfl) rfl (fun h => rfl))
  (.cons (.mk' (z := .nilFunc) ⟨_, _, _, Go.Proofs.Tryz.underlying221⟩ (by kernel_rfl) rfl (fun h => rfl))
  (.cons (.mk' (z := .agg #[.string ByteArray.empty, .string ByteArray.empty, .nilIface]) ⟨_, Go.Proofs.Tryz.underlying222, rfl⟩ (by kernel_rfl) rfl (fun h => by cases h))
  (.cons (.mk' (z := .agg #[.string ByteArray.empty, .string ByteArray.empty, .nilIface]) ⟨_, Go.Proofs.Tryz.underlying223, rfl⟩ (by kernel_rfl) rfl (fun h => by cases h))
  (.cons (.mk' (z := .nilFunc) ⟨_, _, _, Go.Proofs.Tryz.underlying224⟩ (by kernel_rfl) rfl (fun h => rfl))
  (.cons (.mk' (z := .nilFunc) ⟨_, _, _, Go.Proofs.Tryz.underlying225⟩ (by kernel_rfl) rfl (fun h => rfl))
  (.cons (.mk' (z := .nilFunc) ⟨_, _, _, Go.Proofs.Tryz.underlying226⟩ (by kernel_rfl) rfl (fun h => rfl))
  (.cons (.mk' (z := .pointer none) Go.Proofs.Tryz.underlying227 (by kernel_rfl) rfl (fun h => rfl))
  (.cons (.mk' (z := .pointer none) Go.Proofs.Tryz.underlying228 (by kernel_rfl) rfl (fun h => rfl))
  (.cons (.mk' (z := .agg #[.string ByteArray.empty]) ⟨_, Go.Proofs.Tryz.underlying229, rfl⟩ (by kernel_rfl) rfl (fun h => by cases h))
  (.cons (.mk' (z := .agg #[.string ByteArray.empty]) ⟨_, Go.Proofs.Tryz.underlying230, rfl⟩ (by kernel_rfl) rfl (fun h => by cases h))
  (.cons (.mk' (z := .agg #[.int .u8 0, .int .u8 0, .int .u8 0, .int .u8 0, .int .u8 0, .int .u8 0, .int .u8 0, .int .u8 0, .int .u8 0, .int .u8 0, .int .u8 0, .int .u8 0, .int .u8 0, .int .u8 0, .int .u8 0, .int .u8 0, .int .u8 0, .int .u8 0, .int .u8 0, .int .u8 0, .int .u8 0, .int .u8 0, .int .u8 0, .int .u8 0, .int .u8 0, .int .u8 0, .int .u8 0, .int .u8 0, .int .u8 0, .int .u8 0, .int .u8 0, .int .u8 0, .int .u8 0, .int .u8 0, .int .u8 0, .int .u8 0, .int .u8 0, .int .u8 0, .int .u8 0, .int .u8 0, .int .u8 0, .int .u8 0, .int .u8 0, .int .u8 0, .int .u8 0, .int .u8 0, .int .u8 0, .int .u8 0, .int .u8 0, .int .u8 0, .int .u8 0, .int .u8 0, .int .u8 0, .int .u8 0, .int .u8 0, .int .u8 0, .int .u8 0, .int .u8 0, .int .u8 0, .int .u8 0, .int .u8 0, .int .u8 0, .int .u8 0, .int .u8 0, .int .u8 0, .int .u8 0, .int .u8 0, .int .u8 0, .int .u8 0, .int .u8 0, .int .u8 0, .int .u8 0, .int .u8 0, .int .u8 0, .int .u8 0, .int .u8 0, .int .u8 0, .int .u8 0, .int .u8 0, .int .u8 0, .int .u8 0, .int .u8 0, .int .u8 0, .int .u8 0, .int .u8 0, .int .u8 0, .int .u8 0, .int .u8 0, .int .u8 0, .int .u8 0, .int .u8 0, .int .u8 0, .int .u8 0, .int .u8 0, .int .u8 0, .int .u8 0, .int .u8 0, .int .u8 0, .int .u8 0, .int .u8 0, .int .u8 0, .int .u8 0, .int .u8 0, .int .u8 0, .int .u8 0, .int .u8 0, .int .u8 0, .int .u8 0, .int .u8 0, .int .u8 0, .int .u8 0, .int .u8 0, .int .u8 0, .int .u8 0, .int .u8 0, .int .u8 0, .int .u8 0, .int .u8 0, .int .u8 0, .int .u8 0, .int .u8 0, .int .u8 0, .int .u8 0, .int .u8 0, .int .u8 0, .int .u8 0, .int .u8 0, .int .u8 0, .int .u8 0, .int .u8 0, .int .u8 0, .int .u8 0, .int .u8 0, .int .u8 0, .int .u8 0, .int .u8 0, .int .u8 0, .int .u8 0, .int .u8 0, .int .u8 0, .int .u8 0, .int .u8 0, .int .u8 0, .int .u8 0, .int .u8 0, .int .u8 0, .int .u8 0, .int .u8 0, .int .u8 0, .int .u8 0, .int .u8 0, .int .u8 0, .int .u8 0, .int .u8 0, .int .u8 0, .int .u8 0, .int .u8 0, .int .u8 0, .int .u8 0, .int .u8 0, .int .u8 0, .int .u8 0, .int .u8 0, .int .u8 0, .int .u8 0, .int .u8 0, .int .u8 0, .int .u8 0, .int .u8 0, .int .u8 0, .int .u8 0, .int .u8 0, .int .u8 0, .int .u8 0, .int .u8 0, .int .u8 0, .int .u8 0, .int .u8 0, .int .u8 0, .int .u8 0, .int .u8 0, .int .u8 0, .int .u8 0, .int .u8 0, .int .u8 0, .int .u8 0, .int .u8 0, .int .u8 0, .int .u8 0, .int .u8 0, .int .u8 0, .int .u8 0, .int .u8 0, .int .u8 0, .int .u8 0, .int .u8 0, .int .u8 0, .int .u8 0, .int .u8 0, .int .u8 0, .int .u8 0, .int .u8 0, .int .u8 0, .int .u8 0, .int .u8 0, .int .u8 0, .int .u8 0, .int .u8 0, .int .u8 0, .int .u8 0, .int .u8 0, .int .u8 0, .int .u8 0, .int .u8 0, .int .u8 0, .int .u8 0, .int .u8 0, .int .u8 0, .int .u8 0, .int .u8 0, .int .u8 0, .int .u8 0, .int .u8 0, .int .u8 0, .int .u8 0, .int .u8 0, .int .u8 0, .int .u8 0, .int .u8 0, .int .u8 0, .int .u8 0, .int .u8 0, .int .u8 0, .int .u8 0, .int .u8 0, .int .u8 0, .int .u8 0, .int .u8 0, .int .u8 0, .int .u8 0, .int .u8 0, .int .u8 0, .int .u8 0, .int .u8 0, .int .u8 0, .int .u8 0, .int .u8 0, .int .u8 0, .int .u8 0, .int .u8 0, .int .u8 0, .int .u8 0, .int .u8 0, .int .u8 0, .int .u8 0, .int .u8 0]) Go.Proofs.Tryz.underlying231 (by kernel_rfl) rfl (fun h => by cases h))
  (.cons (.mk' (z := .agg #[.int .u8 0, .int .u8 0]) ⟨_, Go.Proofs.Tryz.underlying232, rfl⟩ (by kernel_rfl) rfl (fun h => by cases h))
  (.cons (.mk' (z := .agg #[.int .u8 0, .int .u8 0]) ⟨_, Go.Proofs.Tryz.underlying233, rfl⟩ (by kernel_rfl) rfl (fun h => by cases h))
  (.cons (.mk' (z := .agg #[.int .u8 0, .int .u8 0, .int .u8 0, .int .u8 0, .int .u8 0, .int .u8 0, .int .u8 0, .int .u8 0, .int .u8 0, .int .u8 0, .int .u8 0, .int .u8 0, .int .u8 0, .int .u8 0, .int .u8 0, .int .u8 0, .int .u8 0, .int .u8 0, .int .u8 0, .int .u8 0, .int .u8 0, .int .u8 0, .int .u8 0, .int .u8 0, .int .u8 0, .int .u8 0, .int .u8 0, .int .u8 0, .int .u8 0, .int .u8 0, .int .u8 0, .int .u8 0]) Go.Proofs.Tryz.underlying234 (by kernel_rfl) rfl (fun h => by cases h))
  (.cons (.mk' (z := .agg #[.int .u8 0, .int .u8 0, .int .u8 0, .int .u8 0, .int .u8 0, .int .u8 0, .int .u8 0, .int .u8 0, .int .u8 0, .int .u8 0, .int .u8 0, .int .u8 0, .int .u8 0, .int .u8 0, .int .u8 0, .int .u8 0, .int .u8 0, .int .u8 0, .int .u8 0, .int .u8 0, .int .u8 0, .int .u8 0, .int .u8 0, .int .u8 0, .int .u8 0, .int .u8 0, .int .u8 0, .int .u8 0, .int .u8 0, .int .u8 0, .int .u8 0, .int .u8 0]) Go.Proofs.Tryz.underlying235 (by kernel_rfl) rfl (fun h => by cases h))
  (.cons (.mk' (z := .agg #[.int .u8 0, .int .u8 0, .int .u8 0, .int .u8 0, .int .u8 0, .int .u8 0, .int .u8 0, .int .u8 0, .int .u8 0, .int .u8 0, .int .u8 0, .int .u8 0, .int .u8 0, .int .u8 0, .int .u8 0, .int .u8 0, .int .u8 0, .int .u8 0, .int .u8 0, .int .u8 0, .int .u8 0, .int .u8 0, .int .u8 0, .int .u8 0, .int .u8 0, .int .u8 0, .int .u8 0, .int .u8 0, .int .u8 0, .int .u8 0, .int .u8 0, .int .u8 0, .int .u8 0, .int .u8 0, .int .u8 0, .int .u8 0, .int .u8 0, .int .u8 0, .int .u8 0, .int .u8 0, .int .u8 0, .int .u8 0, .int .u8 0, .int .u8 0, .int .u8 0, .int .u8 0, .int .u8 0, .int .u8 0, .int .u8 0, .int .u8 0, .int .u8 0, .int .u8 0, .int .u8 0, .int .u8 0, .int .u8 0, .int .u8 0, .int .u8 0, .int .u8 0, .int .u8 0, .int .u8 0, .int .u8 0, .int .u8 0, .int .u8 0, .int .u8 0]) Go.Proofs.Tryz.underlying236 (by kernel_rfl) rfl (fun h => by cases h))
  (.cons (.mk' (z := .nilFunc) ⟨_, _, _, Go.Proofs.Tryz.underlying237⟩ (by kernel_rfl) rfl (fun h => rfl))
  (.cons (.mk' (z := .nilFunc) ⟨_, _, _, Go.Proofs.Tryz.underlying238⟩ (by kernel_rfl) rfl (fun h => rfl))
  (.cons (.mk' (z := .agg #[.pointer none, .pointer none, .pointer none, .string ByteArray.empty]) ⟨_, Go.Proofs.Tryz.underlying239, rfl⟩ (by kernel_rfl) rfl (fun h => by cases h))
  (.cons (.mk' (z := .agg #[.pointer none, .pointer none, .pointer none, .string ByteArray.empty]) ⟨_, Go.Proofs.Tryz.underlying240, rfl⟩ (by kernel_rfl) rfl (fun h => by cases h))
  (.cons (.mk' (z := .agg #[]) Go.Proofs.Tryz.underlying241 (by kernel_rfl) rfl (fun h => by cases h))
  (.cons (.mk' (z := .agg #[]) ⟨_, Go.Proofs.Tryz.underlying242, rfl⟩ (by kernel_rfl) rfl (fun h => by cases h))
  (.cons (.mk' (z := .agg #[]) ⟨_, Go.Proofs.Tryz.underlying243, rfl⟩ (by kernel_rfl) rfl (fun h => by cases h))
  (.cons (.mk' (z := .int .u8 0) Go.Proofs.Tryz.underlying244 (by kernel_rfl) rfl (fun h => rfl))
  (.cons (.mk' (z := .int .u8 0) Go.Proofs.Tryz.underlying245 (by kernel_rfl) rfl (fun h => rfl))
  (.cons (.mk' (z := .nilFunc) ⟨_, _, _, Go.Proofs.Tryz.underlying246⟩ (by kernel_rfl) rfl (fun h => rfl))
  (.cons (.mk' (z := .int .i32 0) Go.Proofs.Tryz.underlying247 (by kernel_rfl) rfl (fun h => rfl))
  (.cons (.mk' (z := .int .i32 0) Go.Proofs.Tryz.underlying248 (by kernel_rfl) rfl (fun h => rfl))
  (.cons (.mk' (z := .agg #[.int .u64 0, .int .u64 0, .int .u32 0, .int .u8 0, .int .u8 0, .int .u8 0, .int .u8 0, .nilFunc, .pointer none, .int .i32 0, .int .i32 0]) ⟨_, Go.Proofs.Tryz.underlying249, rfl⟩ (by kernel_rfl) rfl (fun h => by cases h))
  (.cons (.mk' (z := .agg #[.int .u64 0, .int .u64 0, .int .u32 0, .int .u8 0, .int .u8 0, .int .u8 0, .int .u8 0, .nilFunc, .pointer none, .int .i32 0, .int .i32 0]) ⟨_, Go.Proofs.Tryz.underlying250, rfl⟩ (by kernel_rfl) rfl (fun h => by cases h))
  (.nil))))))))))))))))))))))))))))))))))))))))))))))))))))))))))))))))))))))))))))))))))))))))))))))))))))))))))))))))))))))))))))))))))))))))))))))))))))))))))))))))))))))))))))))))))))))))))))))))))))))))))))))))))))))))))))))))))))))))
theorem mixed : Go.Proofs.Tryz.prog.follows .mixedOrders = true := by kernel_rfl
end Go.Sx.T

