import Derived.Test.YtbjpcbghchfifaaGreatDoorL6
import Derived.Test.YtbjpcbghchfifaaGreatDoorProg
set_option linter.all false
namespace Go.Sx.T
open Go Go.Sx Go.Proofs
def tab : Tab := [(1, ⟨.func, 1, 8, [.nilFunc]⟩),
  (2, ⟨.int .i64, 1, 8, [.int .i64 0]⟩),
  (3, ⟨.int .i64, 1, 8, [.int .i64 0]⟩),
  (4, ⟨.bool, 1, 1, [.bool false]⟩),
  (5, ⟨.int .u8, 1, 1, [.int .u8 0]⟩),
  (6, ⟨.int .u8, 1, 1, [.int .u8 0]⟩),
  (7, ⟨.st [(0, 2), (1, 3), (2, 4), (3, 6)], 4, 24, [.int .i64 0, .int .i64 0, .bool false, .int .u8 0]⟩),
  (8, ⟨.st [(0, 2), (1, 3), (2, 4), (3, 6)], 4, 24, [.int .i64 0, .int .i64 0, .bool false, .int .u8 0]⟩),
  (9, ⟨.str, 1, 16, [.string ByteArray.empty]⟩),
  (10, ⟨.str, 1, 16, [.string ByteArray.empty]⟩),
  (11, ⟨.str, 1, 16, [.string ByteArray.empty]⟩),
  (12, ⟨.int .u64, 1, 8, [.int .u64 0]⟩),
  (13, ⟨.st [(0, 9), (1, 12)], 2, 24, [.string ByteArray.empty, .int .u64 0]⟩),
  (14, ⟨.st [(0, 9), (1, 12)], 2, 24, [.string ByteArray.empty, .int .u64 0]⟩),
  (15, ⟨.ptr 246, 1, 8, [.pointer none]⟩),
  (16, ⟨.ptr 249, 1, 8, [.pointer none]⟩),
  (17, ⟨.ptr 256, 1, 8, [.pointer none]⟩),
  (18, ⟨.st [(0, 17)], 1, 8, [.pointer none]⟩),
  (19, ⟨.st [(0, 17)], 1, 8, [.pointer none]⟩),
  (21, ⟨.int .i32, 1, 4, [.int .i32 0]⟩),
  (22, ⟨.func, 1, 8, [.nilFunc]⟩),
  (23, ⟨.ptr 96, 1, 8, [.pointer none]⟩),
  (24, ⟨.func, 1, 8, [.nilFunc]⟩),
  (25, ⟨.func, 1, 8, [.nilFunc]⟩),
  (27, ⟨.func, 1, 8, [.nilFunc]⟩),
  (28, ⟨.func, 1, 8, [.nilFunc]⟩),
  (29, ⟨.func, 1, 8, [.nilFunc]⟩),
  (30, ⟨.int .u64, 1, 8, [.int .u64 0]⟩),
  (31, ⟨.sl 4, 1, 24, [.slice none 0 0]⟩),
  (32, ⟨.ptr 100, 1, 8, [.pointer none]⟩),
  (33, ⟨.func, 1, 8, [.nilFunc]⟩),
  (34, ⟨.sl 30, 1, 24, [.slice none 0 0]⟩),
  (35, ⟨.func, 1, 8, [.nilFunc]⟩),
  (36, ⟨.func, 1, 8, [.nilFunc]⟩),
  (38, ⟨.func, 1, 8, [.nilFunc]⟩),
  (40, ⟨.func, 1, 8, [.nilFunc]⟩),
  (41, ⟨.func, 1, 8, [.nilFunc]⟩),
  (42, ⟨.func, 1, 8, [.nilFunc]⟩),
  (43, ⟨.func, 1, 8, [.nilFunc]⟩),
  (44, ⟨.ptr 104, 1, 8, [.pointer none]⟩),
  (45, ⟨.func, 1, 8, [.nilFunc]⟩),
  (46, ⟨.func, 1, 8, [.nilFunc]⟩),
  (48, ⟨.func, 1, 8, [.nilFunc]⟩),
  (49, ⟨.st [(0, 34), (1, 34), (2, 34), (3, 3), (4, 2)], 5, 88, [.slice none 0 0, .slice none 0 0, .slice none 0 0, .int .i64 0, .int .i64 0]⟩),
  (50, ⟨.st [(0, 34), (1, 34), (2, 34), (3, 3), (4, 2)], 5, 88, [.slice none 0 0, .slice none 0 0, .slice none 0 0, .int .i64 0, .int .i64 0]⟩),
  (51, ⟨.func, 1, 8, [.nilFunc]⟩),
  (52, ⟨.st [(0, 3), (1, 3)], 2, 16, [.int .i64 0, .int .i64 0]⟩),
  (53, ⟨.st [(0, 3), (1, 3)], 2, 16, [.int .i64 0, .int .i64 0]⟩),
  (54, ⟨.sl 53, 1, 24, [.slice none 0 0]⟩),
  (55, ⟨.func, 1, 8, [.nilFunc]⟩),
  (56, ⟨.func, 1, 8, [.nilFunc]⟩),
  (57, ⟨.sl 3, 1, 24, [.slice none 0 0]⟩),
  (58, ⟨.func, 1, 8, [.nilFunc]⟩),
  (59, ⟨.func, 1, 8, [.nilFunc]⟩),
  (60, ⟨.sl 62, 1, 24, [.slice none 0 0]⟩),
  (61, ⟨.st [(0, 3), (1, 3), (2, 30), (3, 2)], 4, 32, [.int .i64 0, .int .i64 0, .int .u64 0, .int .i64 0]⟩),
  (62, ⟨.st [(0, 3), (1, 3), (2, 30), (3, 2)], 4, 32, [.int .i64 0, .int .i64 0, .int .u64 0, .int .i64 0]⟩),
  (63, ⟨.func, 1, 8, [.nilFunc]⟩),
  (64, ⟨.func, 1, 8, [.nilFunc]⟩),
  (65, ⟨.func, 1, 8, [.nilFunc]⟩),
  (66, ⟨.func, 1, 8, [.nilFunc]⟩),
  (67, ⟨.func, 1, 8, [.nilFunc]⟩),
  (68, ⟨.func, 1, 8, [.nilFunc]⟩),
  (69, ⟨.func, 1, 8, [.nilFunc]⟩),
  (70, ⟨.func, 1, 8, [.nilFunc]⟩),
  (71, ⟨.func, 1, 8, [.nilFunc]⟩),
  (72, ⟨.sl 77, 1, 24, [.slice none 0 0]⟩),
  (73, ⟨.ptr 75, 1, 8, [.pointer none]⟩),
  (74, ⟨.st [(0, 4), (1, 2), (2, 2), (3, 3)], 4, 32, [.bool false, .int .i64 0, .int .i64 0, .int .i64 0]⟩),
  (75, ⟨.st [(0, 4), (1, 2), (2, 2), (3, 3)], 4, 32, [.bool false, .int .i64 0, .int .i64 0, .int .i64 0]⟩),
  (76, ⟨.st [(0, 3), (1, 2)], 2, 16, [.int .i64 0, .int .i64 0]⟩),
  (77, ⟨.st [(0, 3), (1, 2)], 2, 16, [.int .i64 0, .int .i64 0]⟩),
  (78, ⟨.func, 1, 8, [.nilFunc]⟩),
  (79, ⟨.sl 2, 1, 24, [.slice none 0 0]⟩),
  (80, ⟨.func, 1, 8, [.nilFunc]⟩),
  (81, ⟨.ptr 116, 1, 8, [.pointer none]⟩),
  (82, ⟨.func, 1, 8, [.nilFunc]⟩),
  (83, ⟨.func, 1, 8, [.nilFunc]⟩),
  (84, ⟨.func, 1, 8, [.nilFunc]⟩),
  (85, ⟨.ptr 121, 1, 8, [.pointer none]⟩),
  (86, ⟨.func, 1, 8, [.nilFunc]⟩),
  (87, ⟨.ptr 125, 1, 8, [.pointer none]⟩),
  (88, ⟨.func, 1, 8, [.nilFunc]⟩),
  (89, ⟨.ptr 130, 1, 8, [.pointer none]⟩),
  (90, ⟨.func, 1, 8, [.nilFunc]⟩),
  (91, ⟨.func, 1, 8, [.nilFunc]⟩),
  (92, ⟨.func, 1, 8, [.nilFunc]⟩),
  (94, ⟨.func, 1, 8, [.nilFunc]⟩),
  (95, ⟨.st [(0, 4), (1, 2), (2, 2), (3, 2)], 4, 32, [.bool false, .int .i64 0, .int .i64 0, .int .i64 0]⟩),
  (96, ⟨.st [(0, 4), (1, 2), (2, 2), (3, 2)], 4, 32, [.bool false, .int .i64 0, .int .i64 0, .int .i64 0]⟩),
  (97, ⟨.map 30 2, 1, 8, [.map none]⟩),
  (98, ⟨.map 30 4, 1, 8, [.map none]⟩),
  (99, ⟨.st [(0, 2), (1, 4), (2, 2), (3, 30), (4, 30), (5, 97), (6, 98), (7, 3), (8, 4), (9, 2), (10, 30), (11, 34), (12, 30), (13, 2)], 14, 128, [.int .i64 0, .bool false, .int .i64 0, .int .u64 0, .int .u64 0, .map none, .map none, .int .i64 0, .bool false, .int .i64 0, .int .u64 0, .slice none 0 0, .int .u64 0, .int .i64 0]⟩),
  (100, ⟨.st [(0, 2), (1, 4), (2, 2), (3, 30), (4, 30), (5, 97), (6, 98), (7, 3), (8, 4), (9, 2), (10, 30), (11, 34), (12, 30), (13, 2)], 14, 128, [.int .i64 0, .bool false, .int .i64 0, .int .u64 0, .int .u64 0, .map none, .map none, .int .i64 0, .bool false, .int .i64 0, .int .u64 0, .slice none 0 0, .int .u64 0, .int .i64 0]⟩),
  (101, ⟨.func, 1, 8, [.nilFunc]⟩),
  (102, ⟨.sl 106, 1, 24, [.slice none 0 0]⟩),
  (103, ⟨.st [(0, 102), (1, 30), (2, 4)], 3, 40, [.slice none 0 0, .int .u64 0, .bool false]⟩),
  (104, ⟨.st [(0, 102), (1, 30), (2, 4)], 3, 40, [.slice none 0 0, .int .u64 0, .bool false]⟩),
  (105, ⟨.st [(0, 30), (1, 2), (2, 3)], 3, 24, [.int .u64 0, .int .i64 0, .int .i64 0]⟩),
  (106, ⟨.st [(0, 30), (1, 2), (2, 3)], 3, 24, [.int .u64 0, .int .i64 0, .int .i64 0]⟩),
  (107, ⟨.func, 1, 8, [.nilFunc]⟩),
  (108, ⟨.func, 1, 8, [.nilFunc]⟩),
  (109, ⟨.ptr 106, 1, 8, [.pointer none]⟩),
  (110, ⟨.func, 1, 8, [.nilFunc]⟩),
  (111, ⟨.func, 1, 8, [.nilFunc]⟩),
  (112, ⟨.func, 1, 8, [.nilFunc]⟩),
  (113, ⟨.int .u64, 1, 8, [.int .u64 0]⟩),
  (114, ⟨.func, 1, 8, [.nilFunc]⟩),
  (115, ⟨.st [(0, 30), (1, 30), (2, 30), (3, 2), (4, 4), (5, 2), (6, 89), (7, 4), (8, 4), (9, 2)], 10, 72, [.int .u64 0, .int .u64 0, .int .u64 0, .int .i64 0, .bool false, .int .i64 0, .pointer none, .bool false, .bool false, .int .i64 0]⟩),
  (116, ⟨.st [(0, 30), (1, 30), (2, 30), (3, 2), (4, 4), (5, 2), (6, 89), (7, 4), (8, 4), (9, 2)], 10, 72, [.int .u64 0, .int .u64 0, .int .u64 0, .int .i64 0, .bool false, .int .i64 0, .pointer none, .bool false, .bool false, .int .i64 0]⟩),
  (117, ⟨.func, 1, 8, [.nilFunc]⟩),
  (118, ⟨.func, 1, 8, [.nilFunc]⟩),
  (119, ⟨.map 30 3, 1, 8, [.map none]⟩),
  (120, ⟨.st [(0, 119), (1, 30), (2, 4), (3, 30), (4, 4)], 5, 40, [.map none, .int .u64 0, .bool false, .int .u64 0, .bool false]⟩),
  (121, ⟨.st [(0, 119), (1, 30), (2, 4), (3, 30), (4, 4)], 5, 40, [.map none, .int .u64 0, .bool false, .int .u64 0, .bool false]⟩),
  (122, ⟨.st [(0, 30), (1, 4)], 2, 16, [.int .u64 0, .bool false]⟩),
  (123, ⟨.st [(0, 30), (1, 4)], 2, 16, [.int .u64 0, .bool false]⟩),
  (124, ⟨.st [(0, 3), (1, 3), (2, 3), (3, 3), (4, 23), (5, 123), (7, 123), (9, 4), (10, 2)], 11, 88, [.int .i64 0, .int .i64 0, .int .i64 0, .int .i64 0, .pointer none, .int .u64 0, .bool false, .int .u64 0, .bool false, .bool false, .int .i64 0]⟩),
  (125, ⟨.st [(0, 3), (1, 3), (2, 3), (3, 3), (4, 23), (5, 123), (7, 123), (9, 4), (10, 2)], 11, 88, [.int .i64 0, .int .i64 0, .int .i64 0, .int .i64 0, .pointer none, .int .u64 0, .bool false, .int .u64 0, .bool false, .bool false, .int .i64 0]⟩),
  (126, ⟨.st [(0, 2), (1, 30)], 2, 16, [.int .i64 0, .int .u64 0]⟩),
  (127, ⟨.st [(0, 2), (1, 30)], 2, 16, [.int .i64 0, .int .u64 0]⟩),
  (128, ⟨.sl 127, 1, 24, [.slice none 0 0]⟩),
  (129, ⟨.st [(0, 128)], 1, 24, [.slice none 0 0]⟩),
  (130, ⟨.st [(0, 128)], 1, 24, [.slice none 0 0]⟩),
  (131, ⟨.func, 1, 8, [.nilFunc]⟩),
  (132, ⟨.func, 1, 8, [.nilFunc]⟩),
  (133, ⟨.func, 1, 8, [.nilFunc]⟩),
  (134, ⟨.func, 1, 8, [.nilFunc]⟩),
  (135, ⟨.func, 1, 8, [.nilFunc]⟩),
  (136, ⟨.func, 1, 8, [.nilFunc]⟩),
  (137, ⟨.func, 1, 8, [.nilFunc]⟩),
  (138, ⟨.arr 8 30, 8, 64, [.int .u64 0, .int .u64 0, .int .u64 0, .int .u64 0, .int .u64 0, .int .u64 0, .int .u64 0, .int .u64 0]⟩),
  (139, ⟨.func, 1, 8, [.nilFunc]⟩),
  (140, ⟨.int .u32, 1, 4, [.int .u32 0]⟩),
  (141, ⟨.arr 3 5, 3, 3, [.int .u8 0, .int .u8 0, .int .u8 0]⟩),
  (142, ⟨.st [(0, 3), (1, 3), (2, 3), (3, 3), (4, 3), (5, 3), (6, 3), (7, 4), (8, 30), (9, 30), (10, 140), (11, 3), (12, 141)], 15, 104, [.int .i64 0, .int .i64 0, .int .i64 0, .int .i64 0, .int .i64 0, .int .i64 0, .int .i64 0, .bool false, .int .u64 0, .int .u64 0, .int .u32 0, .int .i64 0, .int .u8 0, .int .u8 0, .int .u8 0]⟩),
  (143, ⟨.st [(0, 3), (1, 3), (2, 3), (3, 3), (4, 3), (5, 3), (6, 3), (7, 4), (8, 30), (9, 30), (10, 140), (11, 3), (12, 141)], 15, 104, [.int .i64 0, .int .i64 0, .int .i64 0, .int .i64 0, .int .i64 0, .int .i64 0, .int .i64 0, .bool false, .int .u64 0, .int .u64 0, .int .u32 0, .int .i64 0, .int .u8 0, .int .u8 0, .int .u8 0]⟩),
  (144, ⟨.st [(0, 3), (1, 9)], 2, 24, [.int .i64 0, .string ByteArray.empty]⟩),
  (145, ⟨.st [(0, 3), (1, 9)], 2, 24, [.int .i64 0, .string ByteArray.empty]⟩),
  (146, ⟨.sl 145, 1, 24, [.slice none 0 0]⟩),
  (147, ⟨.st [(0, 143), (15, 146), (16, 9)], 17, 144, [.int .i64 0, .int .i64 0, .int .i64 0, .int .i64 0, .int .i64 0, .int .i64 0, .int .i64 0, .bool false, .int .u64 0, .int .u64 0, .int .u32 0, .int .i64 0, .int .u8 0, .int .u8 0, .int .u8 0, .slice none 0 0, .string ByteArray.empty]⟩),
  (148, ⟨.st [(0, 143), (15, 146), (16, 9)], 17, 144, [.int .i64 0, .int .i64 0, .int .i64 0, .int .i64 0, .int .i64 0, .int .i64 0, .int .i64 0, .bool false, .int .u64 0, .int .u64 0, .int .u32 0, .int .i64 0, .int .u8 0, .int .u8 0, .int .u8 0, .slice none 0 0, .string ByteArray.empty]⟩),
  (149, ⟨.int .i64, 1, 8, [.int .i64 0]⟩),
  (151, ⟨.func, 1, 8, [.nilFunc]⟩),
  (153, ⟨.func, 1, 8, [.nilFunc]⟩),
  (155, ⟨.func, 1, 8, [.nilFunc]⟩),
  (156, ⟨.func, 1, 8, [.nilFunc]⟩),
  (157, ⟨.func, 1, 8, [.nilFunc]⟩),
  (158, ⟨.func, 1, 8, [.nilFunc]⟩),
  (159, ⟨.func, 1, 8, [.nilFunc]⟩),
  (162, ⟨.func, 1, 8, [.nilFunc]⟩),
  (164, ⟨.func, 1, 8, [.nilFunc]⟩),
  (165, ⟨.func, 1, 8, [.nilFunc]⟩),
  (166, ⟨.func, 1, 8, [.nilFunc]⟩),
  (167, ⟨.func, 1, 8, [.nilFunc]⟩),
  (168, ⟨.func, 1, 8, [.nilFunc]⟩),
  (169, ⟨.func, 1, 8, [.nilFunc]⟩),
  (170, ⟨.func, 1, 8, [.nilFunc]⟩),
  (171, ⟨.func, 1, 8, [.nilFunc]⟩),
  (172, ⟨.func, 1, 8, [.nilFunc]⟩),
  (174, ⟨.func, 1, 8, [.nilFunc]⟩),
  (176, ⟨.func, 1, 8, [.nilFunc]⟩),
  (178, ⟨.func, 1, 8, [.nilFunc]⟩),
  (179, ⟨.func, 1, 8, [.nilFunc]⟩),
  (180, ⟨.func, 1, 8, [.nilFunc]⟩),
  (181, ⟨.sl 9, 1, 24, [.slice none 0 0]⟩),
  (182, ⟨.sl 5, 1, 24, [.slice none 0 0]⟩),
  (183, ⟨.func, 1, 8, [.nilFunc]⟩),
  (185, ⟨.func, 1, 8, [.nilFunc]⟩),
  (186, ⟨.func, 1, 8, [.nilFunc]⟩),
  (187, ⟨.func, 1, 8, [.nilFunc]⟩),
  (188, ⟨.func, 1, 8, [.nilFunc]⟩),
  (189, ⟨.func, 1, 8, [.nilFunc]⟩),
  (190, ⟨.func, 1, 8, [.nilFunc]⟩),
  (191, ⟨.func, 1, 8, [.nilFunc]⟩),
  (193, ⟨.func, 1, 8, [.nilFunc]⟩),
  (194, ⟨.func, 1, 8, [.nilFunc]⟩),
  (196, ⟨.func, 1, 8, [.nilFunc]⟩),
  (197, ⟨.func, 1, 8, [.nilFunc]⟩),
  (198, ⟨.arr 256 4, 256, 256, [.bool false, .bool false, .bool false, .bool false, .bool false, .bool false, .bool false, .bool false, .bool false, .bool false, .bool false, .bool false, .bool false, .bool false, .bool false, .bool false, .bool false, .bool false, .bool false, .bool false, .bool false, .bool false, .bool false, .bool false, .bool false, .bool false, .bool false, .bool false, .bool false, .bool false, .bool false, .bool false, .bool false, .bool false, .bool false, .bool false, .bool false, .bool false, .bool false, .bool false, .bool false, .bool false, .bool false, .bool false, .bool false, .bool false, .bool false, .bool false, .bool false, .bool false, .bool false, .bool false, .bool false, .bool false, .bool false, .bool false, .bool false, .bool false, .bool false, .bool false, .bool false, .bool false, .bool false, .bool false, .bool false, .bool false, .bool false, .bool false, .bool false, .bool false, .bool false, .bool false, .bool false, .bool false, .bool false, .bool false, .bool false, .bool false, .bool false, .bool false, .bool false, .bool false, .bool false, .bool false, .bool false, .bool false, .bool false, .bool false, .bool false, .bool false, .bool false, .bool false, .bool false, .bool false, .bool false, .bool false, .bool false, .bool false, .bool false, .bool false, .bool false, .bool false, .bool false, .bool false, .bool false, .bool false, .bool false, .bool false, .bool false, .bool false, .bool false, .bool false, .bool false, .bool false, .bool false, .bool false, .bool false, .bool false, .bool false, .bool false, .bool false, .bool false, .bool false, .bool false, .bool false, .bool false, .bool false, .bool false, .bool false, .bool false, .bool false, .bool false, .bool false, .bool false, .bool false, .bool false, .bool false, .bool false, .bool false, .bool false, .bool false, .bool false, .bool false, .bool false, .bool false, .bool false, .bool false, .bool false, .bool false, .bool false, .bool false, .bool false, .bool false, .bool false, .bool false, .bool false, .bool false, .bool false, .bool false, .bool false, .bool false, .bool false, .bool false, .bool false, .bool false, .bool false, .bool false, .bool false, .bool false, .bool false, .bool false, .bool false, .bool false, .bool false, .bool false, .bool false, .bool false, .bool false, .bool false, .bool false, .bool false, .bool false, .bool false, .bool false, .bool false, .bool false, .bool false, .bool false, .bool false, .bool false, .bool false, .bool false, .bool false, .bool false, .bool false, .bool false, .bool false, .bool false, .bool false, .bool false, .bool false, .bool false, .bool false, .bool false, .bool false, .bool false, .bool false, .bool false, .bool false, .bool false, .bool false, .bool false, .bool false, .bool false, .bool false, .bool false, .bool false, .bool false, .bool false, .bool false, .bool false, .bool false, .bool false, .bool false, .bool false, .bool false, .bool false, .bool false, .bool false, .bool false, .bool false, .bool false, .bool false, .bool false, .bool false, .bool false, .bool false, .bool false, .bool false, .bool false, .bool false, .bool false, .bool false, .bool false, .bool false, .bool false, .bool false, .bool false, .bool false, .bool false, .bool false, .bool false, .bool false, .bool false, .bool false, .bool false]⟩),
  (199, ⟨.arr 256 4, 256, 256, [.bool false, .bool false, .bool false, .bool false, .bool false, .bool false, .bool false, .bool false, .bool false, .bool false, .bool false, .bool false, .bool false, .bool false, .bool false, .bool false, .bool false, .bool false, .bool false, .bool false, .bool false, .bool false, .bool false, .bool false, .bool false, .bool false, .bool false, .bool false, .bool false, .bool false, .bool false, .bool false, .bool false, .bool false, .bool false, .bool false, .bool false, .bool false, .bool false, .bool false, .bool false, .bool false, .bool false, .bool false, .bool false, .bool false, .bool false, .bool false, .bool false, .bool false, .bool false, .bool false, .bool false, .bool false, .bool false, .bool false, .bool false, .bool false, .bool false, .bool false, .bool false, .bool false, .bool false, .bool false, .bool false, .bool false, .bool false, .bool false, .bool false, .bool false, .bool false, .bool false, .bool false, .bool false, .bool false, .bool false, .bool false, .bool false, .bool false, .bool false, .bool false, .bool false, .bool false, .bool false, .bool false, .bool false, .bool false, .bool false, .bool false, .bool false, .bool false, .bool false, .bool false, .bool false, .bool false, .bool false, .bool false, .bool false, .bool false, .bool false, .bool false, .bool false, .bool false, .bool false, .bool false, .bool false, .bool false, .bool false, .bool false, .bool false, .bool false, .bool false, .bool false, .bool false, .bool false, .bool false, .bool false, .bool false, .bool false, .bool false, .bool false, .bool false, .bool false, .bool false, .bool false, .bool false, .bool false, .bool false, .bool false, .bool false, .bool false, .bool false, .bool false, .bool false, .bool false, .bool false, .bool false, .bool false, .bool false, .bool false, .bool false, .bool false, .bool false, .bool false, .bool false, .bool false, .bool false, .bool false, .bool false, .bool false, .bool false, .bool false, .bool false, .bool false, .bool false, .bool false, .bool false, .bool false, .bool false, .bool false, .bool false, .bool false, .bool false, .bool false, .bool false, .bool false, .bool false, .bool false, .bool false, .bool false, .bool false, .bool false, .bool false, .bool false, .bool false, .bool false, .bool false, .bool false, .bool false, .bool false, .bool false, .bool false, .bool false, .bool false, .bool false, .bool false, .bool false, .bool false, .bool false, .bool false, .bool false, .bool false, .bool false, .bool false, .bool false, .bool false, .bool false, .bool false, .bool false, .bool false, .bool false, .bool false, .bool false, .bool false, .bool false, .bool false, .bool false, .bool false, .bool false, .bool false, .bool false, .bool false, .bool false, .bool false, .bool false, .bool false, .bool false, .bool false, .bool false, .bool false, .bool false, .bool false, .bool false, .bool false, .bool false, .bool false, .bool false, .bool false, .bool false, .bool false, .bool false, .bool false, .bool false, .bool false, .bool false, .bool false, .bool false, .bool false, .bool false, .bool false, .bool false, .bool false, .bool false, .bool false, .bool false, .bool false, .bool false, .bool false, .bool false, .bool false, .bool false, .bool false, .bool false, .bool false, .bool false, .bool false]⟩),
  (201, ⟨.func, 1, 8, [.nilFunc]⟩),
  (202, ⟨.func, 1, 8, [.nilFunc]⟩),
  (203, ⟨.ptr 199, 1, 8, [.pointer none]⟩),
  (204, ⟨.func, 1, 8, [.nilFunc]⟩),
  (205, ⟨.func, 1, 8, [.nilFunc]⟩),
  (206, ⟨.func, 1, 8, [.nilFunc]⟩),
  (207, ⟨.func, 1, 8, [.nilFunc]⟩),
  (209, ⟨.func, 1, 8, [.nilFunc]⟩),
  (210, ⟨.func, 1, 8, [.nilFunc]⟩),
  (211, ⟨.func, 1, 8, [.nilFunc]⟩),
  (212, ⟨.arr 24 5, 24, 24, [.int .u8 0, .int .u8 0, .int .u8 0, .int .u8 0, .int .u8 0, .int .u8 0, .int .u8 0, .int .u8 0, .int .u8 0, .int .u8 0, .int .u8 0, .int .u8 0, .int .u8 0, .int .u8 0, .int .u8 0, .int .u8 0, .int .u8 0, .int .u8 0, .int .u8 0, .int .u8 0, .int .u8 0, .int .u8 0, .int .u8 0, .int .u8 0]⟩),
  (213, ⟨.func, 1, 8, [.nilFunc]⟩),
  (215, ⟨.func, 1, 8, [.nilFunc]⟩),
  (216, ⟨.int .i64, 1, 8, [.int .i64 0]⟩),
  (217, ⟨.func, 1, 8, [.nilFunc]⟩),
  (218, ⟨.func, 1, 8, [.nilFunc]⟩),
  (219, ⟨.ptr 229, 1, 8, [.pointer none]⟩),
  (220, ⟨.func, 1, 8, [.nilFunc]⟩),
  (221, ⟨.func, 1, 8, [.nilFunc]⟩),
  (222, ⟨.func, 1, 8, [.nilFunc]⟩),
  (223, ⟨.func, 1, 8, [.nilFunc]⟩),
  (224, ⟨.arr 20 30, 20, 160, [.int .u64 0, .int .u64 0, .int .u64 0, .int .u64 0, .int .u64 0, .int .u64 0, .int .u64 0, .int .u64 0, .int .u64 0, .int .u64 0, .int .u64 0, .int .u64 0, .int .u64 0, .int .u64 0, .int .u64 0, .int .u64 0, .int .u64 0, .int .u64 0, .int .u64 0, .int .u64 0]⟩),
  (225, ⟨.arr 65 5, 65, 65, [.int .u8 0, .int .u8 0, .int .u8 0, .int .u8 0, .int .u8 0, .int .u8 0, .int .u8 0, .int .u8 0, .int .u8 0, .int .u8 0, .int .u8 0, .int .u8 0, .int .u8 0, .int .u8 0, .int .u8 0, .int .u8 0, .int .u8 0, .int .u8 0, .int .u8 0, .int .u8 0, .int .u8 0, .int .u8 0, .int .u8 0, .int .u8 0, .int .u8 0, .int .u8 0, .int .u8 0, .int .u8 0, .int .u8 0, .int .u8 0, .int .u8 0, .int .u8 0, .int .u8 0, .int .u8 0, .int .u8 0, .int .u8 0, .int .u8 0, .int .u8 0, .int .u8 0, .int .u8 0, .int .u8 0, .int .u8 0, .int .u8 0, .int .u8 0, .int .u8 0, .int .u8 0, .int .u8 0, .int .u8 0, .int .u8 0, .int .u8 0, .int .u8 0, .int .u8 0, .int .u8 0, .int .u8 0, .int .u8 0, .int .u8 0, .int .u8 0, .int .u8 0, .int .u8 0, .int .u8 0, .int .u8 0, .int .u8 0, .int .u8 0, .int .u8 0, .int .u8 0]⟩),
  (226, ⟨.func, 1, 8, [.nilFunc]⟩),
  (227, ⟨.func, 1, 8, [.nilFunc]⟩),
  (228, ⟨.st [(0, 9), (1, 9), (2, 161)], 3, 48, [.string ByteArray.empty, .string ByteArray.empty, .nilIface]⟩),
  (229, ⟨.st [(0, 9), (1, 9), (2, 161)], 3, 48, [.string ByteArray.empty, .string ByteArray.empty, .nilIface]⟩),
  (230, ⟨.func, 1, 8, [.nilFunc]⟩),
  (231, ⟨.func, 1, 8, [.nilFunc]⟩),
  (232, ⟨.func, 1, 8, [.nilFunc]⟩),
  (233, ⟨.ptr 5, 1, 8, [.pointer none]⟩),
  (234, ⟨.ptr 236, 1, 8, [.pointer none]⟩),
  (235, ⟨.st [(0, 9)], 1, 16, [.string ByteArray.empty]⟩),
  (236, ⟨.st [(0, 9)], 1, 16, [.string ByteArray.empty]⟩),
  (237, ⟨.arr 256 5, 256, 256, [.int .u8 0, .int .u8 0, .int .u8 0, .int .u8 0, .int .u8 0, .int .u8 0, .int .u8 0, .int .u8 0, .int .u8 0, .int .u8 0, .int .u8 0, .int .u8 0, .int .u8 0, .int .u8 0, .int .u8 0, .int .u8 0, .int .u8 0, .int .u8 0, .int .u8 0, .int .u8 0, .int .u8 0, .int .u8 0, .int .u8 0, .int .u8 0, .int .u8 0, .int .u8 0, .int .u8 0, .int .u8 0, .int .u8 0, .int .u8 0, .int .u8 0, .int .u8 0, .int .u8 0, .int .u8 0, .int .u8 0, .int .u8 0, .int .u8 0, .int .u8 0, .int .u8 0, .int .u8 0, .int .u8 0, .int .u8 0, .int .u8 0, .int .u8 0, .int .u8 0, .int .u8 0, .int .u8 0, .int .u8 0, .int .u8 0, .int .u8 0, .int .u8 0, .int .u8 0, .int .u8 0, .int .u8 0, .int .u8 0, .int .u8 0, .int .u8 0, .int .u8 0, .int .u8 0, .int .u8 0, .int .u8 0, .int .u8 0, .int .u8 0, .int .u8 0, .int .u8 0, .int .u8 0, .int .u8 0, .int .u8 0, .int .u8 0, .int .u8 0, .int .u8 0, .int .u8 0, .int .u8 0, .int .u8 0, .int .u8 0, .int .u8 0, .int .u8 0, .int .u8 0, .int .u8 0, .int .u8 0, .int .u8 0, .int .u8 0, .int .u8 0, .int .u8 0, .int .u8 0, .int .u8 0, .int .u8 0, .int .u8 0, .int .u8 0, .int .u8 0, .int .u8 0, .int .u8 0, .int .u8 0, .int .u8 0, .int .u8 0, .int .u8 0, .int .u8 0, .int .u8 0, .int .u8 0, .int .u8 0, .int .u8 0, .int .u8 0, .int .u8 0, .int .u8 0, .int .u8 0, .int .u8 0, .int .u8 0, .int .u8 0, .int .u8 0, .int .u8 0, .int .u8 0, .int .u8 0, .int .u8 0, .int .u8 0, .int .u8 0, .int .u8 0, .int .u8 0, .int .u8 0, .int .u8 0, .int .u8 0, .int .u8 0, .int .u8 0, .int .u8 0, .int .u8 0, .int .u8 0, .int .u8 0, .int .u8 0, .int .u8 0, .int .u8 0, .int .u8 0, .int .u8 0, .int .u8 0, .int .u8 0, .int .u8 0, .int .u8 0, .int .u8 0, .int .u8 0, .int .u8 0, .int .u8 0, .int .u8 0, .int .u8 0, .int .u8 0, .int .u8 0, .int .u8 0, .int .u8 0, .int .u8 0, .int .u8 0, .int .u8 0, .int .u8 0, .int .u8 0, .int .u8 0, .int .u8 0, .int .u8 0, .int .u8 0, .int .u8 0, .int .u8 0, .int .u8 0, .int .u8 0, .int .u8 0, .int .u8 0, .int .u8 0, .int .u8 0, .int .u8 0, .int .u8 0, .int .u8 0, .int .u8 0, .int .u8 0, .int .u8 0, .int .u8 0, .int .u8 0, .int .u8 0, .int .u8 0, .int .u8 0, .int .u8 0, .int .u8 0, .int .u8 0, .int .u8 0, .int .u8 0, .int .u8 0, .int .u8 0, .int .u8 0, .int .u8 0, .int .u8 0, .int .u8 0, .int .u8 0, .int .u8 0, .int .u8 0, .int .u8 0, .int .u8 0, .int .u8 0, .int .u8 0, .int .u8 0, .int .u8 0, .int .u8 0, .int .u8 0, .int .u8 0, .int .u8 0, .int .u8 0, .int .u8 0, .int .u8 0, .int .u8 0, .int .u8 0, .int .u8 0, .int .u8 0, .int .u8 0, .int .u8 0, .int .u8 0, .int .u8 0, .int .u8 0, .int .u8 0, .int .u8 0, .int .u8 0, .int .u8 0, .int .u8 0, .int .u8 0, .int .u8 0, .int .u8 0, .int .u8 0, .int .u8 0, .int .u8 0, .int .u8 0, .int .u8 0, .int .u8 0, .int .u8 0, .int .u8 0, .int .u8 0, .int .u8 0, .int .u8 0, .int .u8 0, .int .u8 0, .int .u8 0, .int .u8 0, .int .u8 0, .int .u8 0, .int .u8 0, .int .u8 0, .int .u8 0, .int .u8 0, .int .u8 0, .int .u8 0, .int .u8 0, .int .u8 0, .int .u8 0, .int .u8 0, .int .u8 0, .int .u8 0, .int .u8 0, .int .u8 0, .int .u8 0, .int .u8 0, .int .u8 0, .int .u8 0, .int .u8 0, .int .u8 0, .int .u8 0, .int .u8 0]⟩),
  (238, ⟨.st [(0, 5), (1, 5)], 2, 2, [.int .u8 0, .int .u8 0]⟩),
  (239, ⟨.st [(0, 5), (1, 5)], 2, 2, [.int .u8 0, .int .u8 0]⟩),
  (240, ⟨.arr 16 239, 32, 32, [.int .u8 0, .int .u8 0, .int .u8 0, .int .u8 0, .int .u8 0, .int .u8 0, .int .u8 0, .int .u8 0, .int .u8 0, .int .u8 0, .int .u8 0, .int .u8 0, .int .u8 0, .int .u8 0, .int .u8 0, .int .u8 0, .int .u8 0, .int .u8 0, .int .u8 0, .int .u8 0, .int .u8 0, .int .u8 0, .int .u8 0, .int .u8 0, .int .u8 0, .int .u8 0, .int .u8 0, .int .u8 0, .int .u8 0, .int .u8 0, .int .u8 0, .int .u8 0]⟩),
  (241, ⟨.arr 32 5, 32, 32, [.int .u8 0, .int .u8 0, .int .u8 0, .int .u8 0, .int .u8 0, .int .u8 0, .int .u8 0, .int .u8 0, .int .u8 0, .int .u8 0, .int .u8 0, .int .u8 0, .int .u8 0, .int .u8 0, .int .u8 0, .int .u8 0, .int .u8 0, .int .u8 0, .int .u8 0, .int .u8 0, .int .u8 0, .int .u8 0, .int .u8 0, .int .u8 0, .int .u8 0, .int .u8 0, .int .u8 0, .int .u8 0, .int .u8 0, .int .u8 0, .int .u8 0, .int .u8 0]⟩),
  (242, ⟨.arr 64 5, 64, 64, [.int .u8 0, .int .u8 0, .int .u8 0, .int .u8 0, .int .u8 0, .int .u8 0, .int .u8 0, .int .u8 0, .int .u8 0, .int .u8 0, .int .u8 0, .int .u8 0, .int .u8 0, .int .u8 0, .int .u8 0, .int .u8 0, .int .u8 0, .int .u8 0, .int .u8 0, .int .u8 0, .int .u8 0, .int .u8 0, .int .u8 0, .int .u8 0, .int .u8 0, .int .u8 0, .int .u8 0, .int .u8 0, .int .u8 0, .int .u8 0, .int .u8 0, .int .u8 0, .int .u8 0, .int .u8 0, .int .u8 0, .int .u8 0, .int .u8 0, .int .u8 0, .int .u8 0, .int .u8 0, .int .u8 0, .int .u8 0, .int .u8 0, .int .u8 0, .int .u8 0, .int .u8 0, .int .u8 0, .int .u8 0, .int .u8 0, .int .u8 0, .int .u8 0, .int .u8 0, .int .u8 0, .int .u8 0, .int .u8 0, .int .u8 0, .int .u8 0, .int .u8 0, .int .u8 0, .int .u8 0, .int .u8 0, .int .u8 0, .int .u8 0, .int .u8 0]⟩),
  (243, ⟨.func, 1, 8, [.nilFunc]⟩),
  (244, ⟨.func, 1, 8, [.nilFunc]⟩),
  (245, ⟨.st [(0, 17), (1, 17), (2, 17), (3, 9)], 4, 40, [.pointer none, .pointer none, .pointer none, .string ByteArray.empty]⟩),
  (246, ⟨.st [(0, 17), (1, 17), (2, 17), (3, 9)], 4, 40, [.pointer none, .pointer none, .pointer none, .string ByteArray.empty]⟩),
  (247, ⟨.arr 0 16, 0, 0, []⟩),
  (248, ⟨.st [(0, 247)], 0, 0, []⟩),
  (249, ⟨.st [(0, 247)], 0, 0, []⟩)]
theorem tab_ok : TabOk Go.Proofs.Tryz.prog tab :=
  .cons (.mk' (z := .nilFunc) ⟨_, _, _, Go.Proofs.Tryz.underlying1⟩ (by kernel_rfl) rfl (fun h => rfl))
  (.cons (.mk' (z := .int .i64 0) Go.Proofs.Tryz.underlying2 (by kernel_rfl) rfl (fun h => rfl))
  (.cons (.mk' (z := .int .i64 0) Go.Proofs.Tryz.underlying3 (by kernel_rfl) rfl (fun h => rfl))
  (.cons (.mk' (z := .bool false) Go.Proofs.Tryz.underlying4 (by kernel_rfl) rfl (fun h => rfl))
  (.cons (.mk' (z := .int .u8 0) Go.Proofs.Tryz.underlying5 (by kernel_rfl) rfl (fun h => rfl))
  (.cons (.mk' (z := .int .u8 0) Go.Proofs.Tryz.underlying6 (by kernel_rfl) rfl (fun h => rfl))
  (.cons (.mk' (z := .agg #[.int .i64 0, .int .i64 0, .bool false, .int .u8 0]) ⟨_, Go.Proofs.Tryz.underlying7, rfl⟩ (by kernel_rfl) rfl (fun h => by cases h))
  (.cons (.mk' (z := .agg #[.int .i64 0, .int .i64 0, .bool false, .int .u8 0]) ⟨_, Go.Proofs.Tryz.underlying8, rfl⟩ (by kernel_rfl) rfl (fun h => by cases h))
  (.cons (.mk' (z := .string ByteArray.empty) Go.Proofs.Tryz.underlying9 (by kernel_rfl) rfl (fun h => rfl))
  (.cons (.mk' (z := .string ByteArray.empty) Go.Proofs.Tryz.underlying10 (by kernel_rfl) rfl (fun h => rfl))
  (.cons (.mk' (z := .string ByteArray.empty) Go.Proofs.Tryz.underlying11 (by kernel_rfl) rfl (fun h => rfl))
  (.cons (.mk' (z := .int .u64 0) Go.Proofs.Tryz.underlying12 (by kernel_rfl) rfl (fun h => rfl))
  (.cons (.mk' (z := .agg #[.string ByteArray.empty, .int .u64 0]) ⟨_, Go.Proofs.Tryz.underlying13, rfl⟩ (by kernel_rfl) rfl (fun h => by cases h))
  (.cons (.mk' (z := .agg #[.string ByteArray.empty, .int .u64 0]) ⟨_, Go.Proofs.Tryz.underlying14, rfl⟩ (by kernel_rfl) rfl (fun h => by cases h))
  (.cons (.mk' (z := .pointer none) Go.Proofs.Tryz.underlying15 (by kernel_rfl) rfl (fun h => rfl))
  (.cons (.mk' (z := .pointer none) Go.Proofs.Tryz.underlying16 (by kernel_rfl) rfl (fun h => rfl))
  (.cons (.mk' (z := .pointer none) Go.Proofs.Tryz.underlying17 (by kernel_rfl) rfl (fun h => rfl))
  (.cons (.mk' (z := .agg #[.pointer none]) ⟨_, Go.Proofs.Tryz.underlying18, rfl⟩ (by kernel_rfl) rfl (fun h => by cases h))
  (.cons (.mk' (z := .agg #[.pointer none]) ⟨_, Go.Proofs.Tryz.underlying19, rfl⟩ (by kernel_rfl) rfl (fun h => by cases h))
  (.cons (.mk' (z := .int .i32 0) Go.Proofs.Tryz.underlying21 (by kernel_rfl) rfl (fun h => rfl))
  (.cons (.mk' (z := .nilFunc) ⟨_, _, _, Go.Proofs.Tryz.underlying22⟩ (by kernel_rfl) rfl (fun h => rfl))
  (.cons (.mk' (z := .pointer none) Go.Proofs.Tryz.underlying23 (by kernel_rfl) rfl (fun h => rfl))
  (.cons (.mk' (z := .nilFunc) ⟨_, _, _, Go.Proofs.Tryz.underlying24⟩ (by kernel_rfl) rfl (fun h => rfl))
  (.cons (.mk' (z := .nilFunc) ⟨_, _, _, Go.Proofs.Tryz.underlying25⟩ (by kernel_rfl) rfl (fun h => rfl))
  (.cons (.mk' (z := .nilFunc) ⟨_, _, _, Go.Proofs.Tryz.underlying27⟩ (by kernel_rfl) rfl (fun h => rfl))
  (.cons (.mk' (z := .nilFunc) ⟨_, _, _, Go.Proofs.Tryz.underlying28⟩ (by kernel_rfl) rfl (fun h => rfl))
  (.cons (.mk' (z := .nilFunc) ⟨_, _, _, Go.Proofs.Tryz.underlying29⟩ (by kernel_rfl) rfl (fun h => rfl))
  (.cons (.mk' (z := .int .u64 0) Go.Proofs.Tryz.underlying30 (by kernel_rfl) rfl (fun h => rfl))
  (.cons (.mk' (z := .slice none 0 0) Go.Proofs.Tryz.underlying31 (by kernel_rfl) rfl (fun h => rfl))
  (.cons (.mk' (z := .pointer none) Go.Proofs.Tryz.underlying32 (by kernel_rfl) rfl (fun h => rfl))
  (.cons (.mk' (z := .nilFunc) ⟨_, _, _, Go.Proofs.Tryz.underlying33⟩ (by kernel_rfl) rfl (fun h => rfl))
  (.cons (.mk' (z := .slice none 0 0) Go.Proofs.Tryz.underlying34 (by kernel_rfl) rfl (fun h => rfl))
  (.cons (.mk' (z := .nilFunc) ⟨_, _, _, Go.Proofs.Tryz.underlying35⟩ (by kernel_rfl) rfl (fun h => rfl))
  (.cons (.mk' (z := .nilFunc) ⟨_, _, _, Go.Proofs.Tryz.underlying36⟩ (by kernel_rfl) rfl (fun h => rfl))
  (.cons (.mk' (z := .nilFunc) ⟨_, _, _, Go.Proofs.Tryz.underlying38⟩ (by kernel_rfl) rfl (fun h => rfl))
  (.cons (.mk' (z := .nilFunc) ⟨_, _, _, Go.Proofs.Tryz.underlying40⟩ (by kernel_rfl) rfl (fun h => rfl))
  (.cons (.mk' (z := .nilFunc) ⟨_, _, _, Go.Proofs.Tryz.underlying41⟩ (by kernel_rfl) rfl (fun h => rfl))
  (.cons (.mk' (z := .nilFunc) ⟨_, _, _, Go.Proofs.Tryz.underlying42⟩ (by kernel_rfl) rfl (fun h => rfl))
  (.cons (.mk' (z := .nilFunc) ⟨_, _, _, Go.Proofs.Tryz.underlying43⟩ (by kernel_rfl) rfl (fun h => rfl))
  (.cons (.mk' (z := .pointer none) Go.Proofs.Tryz.underlying44 (by kernel_rfl) rfl (fun h => rfl))
  (.cons (.mk' (z := .nilFunc) ⟨_, _, _, Go.Proofs.Tryz.underlying45⟩ (by kernel_rfl) rfl (fun h => rfl))
  (.cons (.mk' (z := .nilFunc) ⟨_, _, _, Go.Proofs.Tryz.underlying46⟩ (by kernel_rfl) rfl (fun h => rfl))
  (.cons (.mk' (z := .nilFunc) ⟨_, _, _, Go.Proofs.Tryz.underlying48⟩ (by kernel_rfl) rfl (fun h => rfl))
  (.cons (.mk' (z := .agg #[.slice none 0 0, .slice none 0 0, .slice none 0 0, .int .i64 0, .int .i64 0]) ⟨_, Go.Proofs.Tryz.underlying49, rfl⟩ (by kernel_rfl) rfl (fun h => by cases h))
  (.cons (.mk' (z := .agg #[.slice none 0 0, .slice none 0 0, .slice none 0 0, .int .i64 0, .int .i64 0]) ⟨_, Go.Proofs.Tryz.underlying50, rfl⟩ (by kernel_rfl) rfl (fun h => by cases h))
  (.cons (.mk' (z := .nilFunc) ⟨_, _, _, Go.Proofs.Tryz.underlying51⟩ (by kernel_rfl) rfl (fun h => rfl))
  (.cons (.mk' (z := .agg #[.int .i64 0, .int .i64 0]) ⟨_, Go.Proofs.Tryz.underlying52, rfl⟩ (by kernel_rfl) rfl (fun h => by cases h))
  (.cons (.mk' (z := .agg #[.int .i64 0, .int .i64 0]) ⟨_, Go.Proofs.Tryz.underlying53, rfl⟩ (by kernel_rfl) rfl (fun h => by cases h))
  (.cons (.mk' (z := .slice none 0 0) Go.Proofs.Tryz.underlying54 (by kernel_rfl) rfl (fun h => rfl))
  (.cons (.mk' (z := .nilFunc) ⟨_, _, _, Go.Proofs.Tryz.underlying55⟩ (by kernel_rfl) rfl (fun h => rfl))
  (.cons (.mk' (z := .nilFunc) ⟨_, _, _, Go.Proofs.Tryz.underlying56⟩ (by kernel_rfl) rfl (fun h => rfl))
  (.cons (.mk' (z := .slice none 0 0) Go.Proofs.Tryz.underlying57 (by kernel_rfl) rfl (fun h => rfl))
  (.cons (.mk' (z := .nilFunc) ⟨_, _, _, Go.Proofs.Tryz.underlying58⟩ (by kernel_rfl) rfl (fun h => rfl))
  (.cons (.mk' (z := .nilFunc) ⟨_, _, _, Go.Proofs.Tryz.underlying59⟩ (by kernel_rfl) rfl (fun h => rfl))
  (.cons (.mk' (z := .slice none 0 0) Go.Proofs.Tryz.underlying60 (by kernel_rfl) rfl (fun h => rfl))
  (.cons (.mk' (z := .agg #[.int .i64 0, .int .i64 0, .int .u64 0, .int .i64 0]) ⟨_, Go.Proofs.Tryz.underlying61, rfl⟩ (by kernel_rfl) rfl (fun h => by cases h))
  (.cons (.mk' (z := .agg #[.int .i64 0, .int .i64 0, .int .u64 0, .int .i64 0]) ⟨_, Go.Proofs.Tryz.underlying62, rfl⟩ (by kernel_rfl) rfl (fun h => by cases h))
  (.cons (.mk' (z := .nilFunc) ⟨_, _, _, Go.Proofs.Tryz.underlying63⟩ (by kernel_rfl) rfl (fun h => rfl))
  (.cons (.mk' (z := .nilFunc) ⟨_, _, _, Go.Proofs.Tryz.underlying64⟩ (by kernel_rfl) rfl (fun h => rfl))
  (.cons (.mk' (z := .nilFunc) ⟨_, _, _, Go.Proofs.Tryz.underlying65⟩ (by kernel_rfl) rfl (fun h => rfl))
  (.cons (.mk' (z := .nilFunc) ⟨_, _, _, Go.Proofs.Tryz.underlying66⟩ (by kernel_rfl) rfl (fun h => rfl))
  (.cons (.mk' (z := .nilFunc) ⟨_, _, _, Go.Proofs.Tryz.underlying67⟩ (by kernel_rfl) rfl (fun h => rfl))
  (.cons (.mk' (z := .nilFunc) ⟨_, _, _, Go.Proofs.Tryz.underlying68⟩ (by kernel_rfl) rfl (fun h => rfl))
  (.cons (.mk' (z := .nilFunc) ⟨_, _, _, Go.Proofs.Tryz.underlying69⟩ (by kernel_rfl) rfl (fun h => rfl))
  (.cons (.mk' (z := .nilFunc) ⟨_, _, _, Go.Proofs.Tryz.underlying70⟩ (by kernel_rfl) rfl (fun h => rfl))
  (.cons (.mk' (z := .nilFunc) ⟨_, _, _, Go.Proofs.Tryz.underlying71⟩ (by kernel_rfl) rfl (fun h => rfl))
  (.cons (.mk' (z := .slice none 0 0) Go.Proofs.Tryz.underlying72 (by kernel_rfl) rfl (fun h => rfl))
  (.cons (.mk' (z := .pointer none) Go.Proofs.Tryz.underlying73 (by kernel_rfl) rfl (fun h => rfl))
  (.cons (.mk' (z := .agg #[.bool false, .int .i64 0, .int .i64 0, .int .i64 0]) ⟨_, Go.Proofs.Tryz.underlying74, rfl⟩ (by kernel_rfl) rfl (fun h => by cases h))
  (.cons (.mk' (z := .agg #[.bool false, .int .i64 0, .int .i64 0, .int .i64 0]) ⟨_, Go.Proofs.Tryz.underlying75, rfl⟩ (by kernel_rfl) rfl (fun h => by cases h))
  (.cons (.mk' (z := .agg #[.int .i64 0, .int .i64 0]) ⟨_, Go.Proofs.Tryz.underlying76, rfl⟩ (by kernel_rfl) rfl (fun h => by cases h))
  (.cons (.mk' (z := .agg #[.int .i64 0, .int .i64 0]) ⟨_, Go.Proofs.Tryz.underlying77, rfl⟩ (by kernel_rfl) rfl (fun h => by cases h))
  (.cons (.mk' (z := .nilFunc) ⟨_, _, _, Go.Proofs.Tryz.underlying78⟩ (by kernel_rfl) rfl (fun h => rfl))
  (.cons (.mk' (z := .slice none 0 0) Go.Proofs.Tryz.underlying79 (by kernel_rfl) rfl (fun h => rfl))
  (.cons (.mk' (z := .nilFunc) ⟨_, _, _, Go.Proofs.Tryz.underlying80⟩ (by kernel_rfl) rfl (fun h => rfl))
  (.cons (.mk' (z := .pointer none) Go.Proofs.Tryz.underlying81 (by kernel_rfl) rfl (fun h => rfl))
  (.cons (.mk' (z := .nilFunc) ⟨_, _, _, Go.Proofs.Tryz.underlying82⟩ (by kernel_rfl) rfl (fun h => rfl))
  (.cons (.mk' (z := .nilFunc) ⟨_, _, _, Go.Proofs.Tryz.underlying83⟩ (by kernel_rfl) rfl (fun h => rfl))
  (.cons (.mk' (z := .nilFunc) ⟨_, _, _, Go.Proofs.Tryz.underlying84⟩ (by kernel_rfl) rfl (fun h => rfl))
  (.cons (.mk' (z := .pointer none) Go.Proofs.Tryz.underlying85 (by kernel_rfl) rfl (fun h => rfl))
  (.cons (.mk' (z := .nilFunc) ⟨_, _, _, Go.Proofs.Tryz.underlying86⟩ (by kernel_rfl) rfl (fun h => rfl))
  (.cons (.mk' (z := .pointer none) Go.Proofs.Tryz.underlying87 (by kernel_rfl) rfl (fun h => rfl))
  (.cons (.mk' (z := .nilFunc) ⟨_, _, _, Go.Proofs.Tryz.underlying88⟩ (by kernel_rfl) rfl (fun h => rfl))
  (.cons (.mk' (z := .pointer none) Go.Proofs.Tryz.underlying89 (by kernel_rfl) rfl (fun h => rfl))
  (.cons (.mk' (z := .nilFunc) ⟨_, _, _, Go.Proofs.Tryz.underlying90⟩ (by kernel_rfl) rfl (fun h => rfl))
  (.cons (.mk' (z := .nilFunc) ⟨_, _, _, Go.Proofs.Tryz.underlying91⟩ (by kernel_rfl) rfl (fun h => rfl))
  (.cons (.mk' (z := .nilFunc) ⟨_, _, _, Go.Proofs.Tryz.underlying92⟩ (by kernel_rfl) rfl (fun h => rfl))
  (.cons (.mk' (z := .nilFunc) ⟨_, _, _, Go.Proofs.Tryz.underlying94⟩ (by kernel_rfl) rfl (fun h => rfl))
  (.cons (.mk' (z := .agg #[.bool false, .int .i64 0, .int .i64 0, .int .i64 0]) ⟨_, Go.Proofs.Tryz.underlying95, rfl⟩ (by kernel_rfl) rfl (fun h => by cases h))
  (.cons (.mk' (z := .agg #[.bool false, .int .i64 0, .int .i64 0, .int .i64 0]) ⟨_, Go.Proofs.Tryz.underlying96, rfl⟩ (by kernel_rfl) rfl (fun h => by cases h))
  (.cons (.mk' (z := .map none) Go.Proofs.Tryz.underlying97 (by kernel_rfl) rfl (fun h => rfl))
  (.cons (.mk' (z := .map none) Go.Proofs.Tryz.underlying98 (by kernel_rfl) rfl (fun h => rfl))
  (.cons (.mk' (z := .agg #[.int .i64 0, .bool false, .int .i64 0, .int .u64 0, .int .u64 0, .map none, .map none, .int .i64 0, .bool false, .int .i64 0, .int .u64 0, .slice none 0 0, .int .u64 0, .int .i64 0]) ⟨_, Go.Proofs.Tryz.underlying99, rfl⟩ (by kernel_rfl) rfl (fun h => by cases h))
  (.cons (.mk' (z := .agg #[.int .i64 0, .bool false, .int .i64 0, .int .u64 0, .int .u64 0, .map none, .map none, .int .i64 0, .bool false, .int .i64 0, .int .u64 0, .slice none 0 0, .int .u64 0, .int .i64 0]) ⟨_, Go.Proofs.Tryz.underlying100, rfl⟩ (by kernel_rfl) rfl (fun h => by cases h))
  (.cons (.mk' (z := .nilFunc) ⟨_, _, _, Go.Proofs.Tryz.underlying101⟩ (by kernel_rfl) rfl (fun h => rfl))
  (.cons (.mk' (z := .slice none 0 0) Go.Proofs.Tryz.underlying102 (by kernel_rfl) rfl (fun h => rfl))
  (.cons (.mk' (z := .agg #[.slice none 0 0, .int .u64 0, .bool false]) ⟨_, Go.Proofs.Tryz.underlying103, rfl⟩ (by kernel_rfl) rfl (fun h => by cases h))
  (.cons (.mk' (z := .agg #[.slice none 0 0, .int .u64 0, .bool false]) ⟨_, Go.Proofs.Tryz.underlying104, rfl⟩ (by kernel_rfl) rfl (fun h => by cases h))
  (.cons (.mk' (z := .agg #[.int .u64 0, .int .i64 0, .int .i64 0]) ⟨_, Go.Proofs.Tryz.underlying105, rfl⟩ (by kernel_rfl) rfl (fun h => by cases h))
  (.cons (.mk' (z := .agg #[.int .u64 0, .int .i64 0, .int .i64 0]) ⟨_, Go.Proofs.Tryz.underlying106, rfl⟩ (by kernel_rfl) rfl (fun h => by cases h))
  (.cons (.mk' (z := .nilFunc) ⟨_, _, _, Go.Proofs.Tryz.underlying107⟩ (by kernel_rfl) rfl (fun h => rfl))
  (.cons (.mk' (z := .nilFunc) ⟨_, _, _, Go.Proofs.Tryz.underlying108⟩ (by kernel_rfl) rfl (fun h => rfl))
  (.cons (.mk' (z := .pointer none) Go.Proofs.Tryz.underlying109 (by kernel_rfl) rfl (fun h => rfl))
  (.cons (.mk' (z := .nilFunc) ⟨_, _, _, Go.Proofs.Tryz.underlying110⟩ (by kernel_rfl) rfl (fun h => rfl))
  (.cons (.mk' (z := .nilFunc) ⟨_, _, _, Go.Proofs.Tryz.underlying111⟩ (by kernel_rfl) rfl (fun h => rfl))
  (.cons (.mk' (z := .nilFunc) ⟨_, _, _, Go.Proofs.Tryz.underlying112⟩ (by kernel_rfl) rfl (fun h => rfl))
  (.cons (.mk' (z := .int .u64 0) Go.Proofs.Tryz.underlying113 (by kernel_rfl) rfl (fun h => rfl))
  (.cons (.mk' (z := .nilFunc) ⟨_, _, _, Go.Proofs.Tryz.underlying114⟩ (by kernel_rfl) rfl (fun h => rfl))
  (.cons (.mk' (z := .agg #[.int .u64 0, .int .u64 0, .int .u64 0, .int .i64 0, .bool false, .int .i64 0, .pointer none, .bool false, .bool false, .int .i64 0]) ⟨_, Go.Proofs.Tryz.underlying115, rfl⟩ (by kernel_rfl) rfl (fun h => by cases h))
  (.cons (.mk' (z := .agg #[.int .u64 0, .int .u64 0, .int .u64 0, .int .i64 0, .bool false, .int .i64 0, .pointer none, .bool false, .bool false, .int .i64 0]) ⟨_, Go.Proofs.Tryz.underlying116, rfl⟩ (by kernel_rfl) rfl (fun h => by cases h))
  (.cons (.mk' (z := .nilFunc) ⟨_, _, _, Go.Proofs.Tryz.underlying117⟩ (by kernel_rfl) rfl (fun h => rfl))
  (.cons (.mk' (z := .nilFunc) ⟨_, _, _, Go.Proofs.Tryz.underlying118⟩ (by kernel_rfl) rfl (fun h => rfl))
  (.cons (.mk' (z := .map none) Go.Proofs.Tryz.underlying119 (by kernel_rfl) rfl (fun h => rfl))
  (.cons (.mk' (z := .agg #[.map none, .int .u64 0, .bool false, .int .u64 0, .bool false]) ⟨_, Go.Proofs.Tryz.underlying120, rfl⟩ (by kernel_rfl) rfl (fun h => by cases h))
  (.cons (.mk' (z := .agg #[.map none, .int .u64 0, .bool false, .int .u64 0, .bool false]) ⟨_, Go.Proofs.Tryz.underlying121, rfl⟩ (by kernel_rfl) rfl (fun h => by cases h))
  (.cons (.mk' (z := .agg #[.int .u64 0, .bool false]) ⟨_, Go.Proofs.Tryz.underlying122, rfl⟩ (by kernel_rfl) rfl (fun h => by cases h))
  (.cons (.mk' (z := .agg #[.int .u64 0, .bool false]) ⟨_, Go.Proofs.Tryz.underlying123, rfl⟩ (by kernel_rfl) rfl (fun h => by cases h))
  (.cons (.mk' (z := .agg #[.int .i64 0, .int .i64 0, .int .i64 0, .int .i64 0, .pointer none, .int .u64 0, .bool false, .int .u64 0, .bool false, .bool false, .int .i64 0]) ⟨_, Go.Proofs.Tryz.underlying124, rfl⟩ (by kernel_rfl) rfl (fun h => by cases h))
  (.cons (.mk' (z := .agg #[.int .i64 0, .int .i64 0, .int .i64 0, .int .i64 0, .pointer none, .int .u64 0, .bool false, .int .u64 0, .bool false, .bool false, .int .i64 0]) ⟨_, Go.Proofs.Tryz.underlying125, rfl⟩ (by kernel_rfl) rfl (fun h => by cases h))
  (.cons (.mk' (z := .agg #[.int .i64 0, .int .u64 0]) ⟨_, Go.Proofs.Tryz.underlying126, rfl⟩ (by kernel_rfl) rfl (fun h => by cases h))
  (.cons (.mk' (z := .agg #[.int .i64 0, .int .u64 0]) ⟨_, Go.Proofs.Tryz.underlying127, rfl⟩ (by kernel_rfl) rfl (fun h => by cases h))
  (.cons (.mk' (z := .slice none 0 0) Go.Proofs.Tryz.underlying128 (by kernel_rfl) rfl (fun h => rfl))
  (.cons (.mk' (z := .agg #[.slice none 0 0]) ⟨_, Go.Proofs.Tryz.underlying129, rfl⟩ (by kernel_rfl) rfl (fun h => by cases h))
  (.cons (.mk' (z := .agg #[.slice none 0 0]) ⟨_, Go.Proofs.Tryz.underlying130, rfl⟩ (by kernel_rfl) rfl (fun h => by cases h))
  (.cons (.mk' (z := .nilFunc) ⟨_, _, _, Go.Proofs.Tryz.underlying131⟩ (by kernel_rfl) rfl (fun h => rfl))
  (.cons (.mk' (z := .nilFunc) ⟨_, _, _, Go.Proofs.Tryz.underlying132⟩ (by kernel_rfl) rfl (fun h => rfl))
  (.cons (.mk' (z := .nilFunc) ⟨_, _, _, Go.Proofs.Tryz.underlying133⟩ (by kernel_rfl) rfl (fun h => rfl))
  (.cons (.mk' (z := .nilFunc) ⟨_, _, _, Go.Proofs.Tryz.underlying134⟩ (by kernel_rfl) rfl (fun h => rfl))
  (.cons (.mk' (z := .nilFunc) ⟨_, _, _, Go.Proofs.Tryz.underlying135⟩ (by kernel_rfl) rfl (fun h => rfl))
  (.cons (.mk' (z := .nilFunc) ⟨_, _, _, Go.Proofs.Tryz.underlying136⟩ (by kernel_rfl) rfl (fun h => rfl))
  (.cons (.mk' (z := .nilFunc) ⟨_, _, _, Go.Proofs.Tryz.underlying137⟩ (by kernel_rfl) rfl (fun h => rfl))
  (.cons (.mk' (z := .agg #[.int .u64 0, .int .u64 0, .int .u64 0, .int .u64 0, .int .u64 0, .int .u64 0, .int .u64 0, .int .u64 0]) Go.Proofs.Tryz.underlying138 (by kernel_rfl) rfl (fun h => by cases h))
  (.cons (.mk' (z := .nilFunc) ⟨_, _, _, Go.Proofs.Tryz.underlying139⟩ (by kernel_rfl) rfl (fun h => rfl))
  (.cons (.mk' (z := .int .u32 0) Go.Proofs.Tryz.underlying140 (by kernel_rfl) rfl (fun h => rfl))
  (.cons (.mk' (z := .agg #[.int .u8 0, .int .u8 0, .int .u8 0]) Go.Proofs.Tryz.underlying141 (by kernel_rfl) rfl (fun h => by cases h))
  (.cons (.mk' (z := .agg #[.int .i64 0, .int .i64 0, .int .i64 0, .int .i64 0, .int .i64 0, .int .i64 0, .int .i64 0, .bool false, .int .u64 0, .int .u64 0, .int .u32 0, .int .i64 0, .int .u8 0, .int .u8 0, .int .u8 0]) ⟨_, Go.Proofs.Tryz.underlying142, rfl⟩ (by kernel_rfl) rfl (fun h => by cases h))
  (.cons (.mk' (z := .agg #[.int .i64 0, .int .i64 0, .int .i64 0, .int .i64 0, .int .i64 0, .int .i64 0, .int .i64 0, .bool false, .int .u64 0, .int .u64 0, .int .u32 0, .int .i64 0, .int .u8 0, .int .u8 0, .int .u8 0]) ⟨_, Go.Proofs.Tryz.underlying143, rfl⟩ (by kernel_rfl) rfl (fun h => by cases h))
  (.cons (.mk' (z := .agg #[.int .i64 0, .string ByteArray.empty]) ⟨_, Go.Proofs.Tryz.underlying144, rfl⟩ (by kernel_rfl) rfl (fun h => by cases h))
  (.cons (.mk' (z := .agg #[.int .i64 0, .string ByteArray.empty]) ⟨_, Go.Proofs.Tryz.underlying145, rfl⟩ (by kernel_rfl) rfl (fun h => by cases h))
  (.cons (.mk' (z := .slice none 0 0) Go.Proofs.Tryz.underlying146 (by kernel_rfl) rfl (fun h => rfl))
  (.cons (.mk' (z := .agg #[.int .i64 0, .int .i64 0, .int .i64 0, .int .i64 0, .int .i64 0, .int .i64 0, .int .i64 0, .bool false, .int .u64 0, .int .u64 0, .int .u32 0, .int .i64 0, .int .u8 0, .int .u8 0, .int .u8 0, .slice none 0 0, .string ByteArray.empty]) ⟨_, Go.Proofs.Tryz.underlying147, rfl⟩ (by kernel_rfl) rfl (fun h => by cases h))
  (.cons (.mk' (z := .agg #[.int .i64 0, .int .i64 0, .int .i64 0, .int .i64 0, .int .i64 0, .int .i64 0, .int .i64 0, .bool false, .int .u64 0, .int .u64 0, .int .u32 0, .int .i64 0, .int .u8 0, .int .u8 0, .int .u8 0, .slice none 0 0, .string ByteArray.empty]) ⟨_, Go.Proofs.Tryz.underlying148, rfl⟩ (by kernel_rfl) rfl (fun h => by cases h))
  (.cons (.mk' (z := .int .i64 0) Go.Proofs.Tryz.underlying149 (by kernel_rfl) rfl (fun h => rfl))
  (.cons (.mk' (z := .nilFunc) ⟨_, _, _, Go.Proofs.Tryz.underlying151⟩ (by kernel_rfl) rfl (fun h => rfl))
  (.cons (.mk' (z := .nilFunc) ⟨_, _, _, Go.Proofs.Tryz.underlying153⟩ (by kernel_rfl) rfl (fun h => rfl))
  (.cons (.mk' (z := .nilFunc) ⟨_, _, _, Go.Proofs.Tryz.underlying155⟩ (by kernel_rfl) rfl (fun h => rfl))
  (.cons (.mk' (z := .nilFunc) ⟨_, _, _, Go.Proofs.Tryz.underlying156⟩ (by kernel_rfl) rfl (fun h => rfl))
  (.cons (.mk' (z := .nilFunc) ⟨_, _, _, Go.Proofs.Tryz.underlying157⟩ (by kernel_rfl) rfl (fun h => rfl))
  (.cons (.mk' (z := .nilFunc) ⟨_, _, _, Go.Proofs.Tryz.underlying158⟩ (by kernel_rfl) rfl (fun h => rfl))
  (.cons (.mk' (z := .nilFunc) ⟨_, _, _, Go.Proofs.Tryz.underlying159⟩ (by kernel_rfl) rfl (fun h => rfl))
  (.cons (.mk' (z := .nilFunc) ⟨_, _, _, Go.Proofs.Tryz.underlying162⟩ (by kernel_rfl) rfl (fun h => rfl))
  (.cons (.mk' (z := .nilFunc) ⟨_, _, _, Go.Proofs.Tryz.underlying164⟩ (by kernel_rfl) rfl (fun h => rfl))
  (.cons (.mk' (z := .nilFunc) ⟨_, _, _, Go.Proofs.Tryz.underlying165⟩ (by kernel_rfl) rfl (fun h => rfl))
  (.cons (.mk' (z := .nilFunc) ⟨_, _, _, Go.Proofs.Tryz.underlying166⟩ (by kernel_rfl) rfl (fun h => rfl))
  (.cons (.mk' (z := .nilFunc) ⟨_, _, _, Go.Proofs.Tryz.underlying167⟩ (by kernel_rfl) rfl (fun h => rfl))
  (.cons (.mk' (z := .nilFunc) ⟨_, _, _, Go.Proofs.Tryz.underlying168⟩ (by kernel_rfl) rfl (fun h => rfl))
  (.cons (.mk' (z := .nilFunc) ⟨_, _, _, Go.Proofs.Tryz.underlying169⟩ (by kernel_rfl) rfl (fun h => rfl))
  (.cons (.mk' (z := .nilFunc) ⟨_, _, _, Go.Proofs.Tryz.underlying170⟩ (by kernel_rfl) rfl (fun h => rfl))
  (.cons (.mk' (z := .nilFunc) ⟨_, _, _, Go.Proofs.Tryz.underlying171⟩ (by kernel_rfl) rfl (fun h => rfl))
  (.cons (.mk' (z := .nilFunc) ⟨_, _, _, Go.Proofs.Tryz.underlying172⟩ (by kernel_rfl) rfl (fun h => rfl))
  (.cons (.mk' (z := .nilFunc) ⟨_, _, _, Go.Proofs.Tryz.underlying174⟩ (by kernel_rfl) rfl (fun h => rfl))
  (.cons (.mk' (z := .nilFunc) ⟨_, _, _, Go.Proofs.Tryz.underlying176⟩ (by kernel_rfl) rfl (fun h => rfl))
  (.cons (.mk' (z := .nilFunc) ⟨_, _, _, Go.Proofs.Tryz.underlying178⟩ (by kernel_rfl) rfl (fun h => rfl))
  (.cons (.mk' (z := .nilFunc) ⟨_, _, _, Go.Proofs.Tryz.underlying179⟩ (by kernel_rfl) rfl (fun h => rfl))
  (.cons (.mk' (z := .nilFunc) ⟨_, _, _, Go.Proofs.Tryz.underlying180⟩ (by kernel_rfl) rfl (fun h => rfl))
  (.cons (.mk' (z := .slice none 0 0) Go.Proofs.Tryz.underlying181 (by kernel_rfl) rfl (fun h => rfl))
  (.cons (.mk' (z := .slice none 0 0) Go.Proofs.Tryz.underlying182 (by kernel_rfl) rfl (fun h => rfl))
  (.cons (.mk' (z := .nilFunc) ⟨_, _, _, Go.Proofs.Tryz.underlying183⟩ (by kernel_rfl) rfl (fun h => rfl))
  (.cons (.mk' (z := .nilFunc) ⟨_, _, _, Go.Proofs.Tryz.underlying185⟩ (by kernel_rfl) rfl (fun h => rfl))
  (.cons (.mk' (z := .nilFunc) ⟨_, _, _, Go.Proofs.Tryz.underlying186⟩ (by kernel_rfl) rfl (fun h => rfl))
  (.cons (.mk' (z := .nilFunc) ⟨_, _, _, Go.Proofs.Tryz.underlying187⟩ (by kernel_rfl) rfl (fun h => rfl))
  (.cons (.mk' (z := .nilFunc) ⟨_, _, _, Go.Proofs.Tryz.underlying188⟩ (by kernel_rfl) rfl (fun h => rfl))
  (.cons (.mk' (z := .nilFunc) ⟨_, _, _, Go.Proofs.Tryz.underlying189⟩ (by kernel_rfl) rfl (fun h => rfl))
  (.cons (.mk' (z := .nilFunc) ⟨_, _, _, Go.Proofs.Tryz.underlying190⟩ (by kernel_rfl) rfl (fun h => rfl))
  (.cons (.mk' (z := .nilFunc) ⟨_, _, _, Go.Proofs.Tryz.underlying191⟩ (by kernel_rfl) rfl (fun h => rfl))
  (.cons (.mk' (z := .nilFunc) ⟨_, _, _, Go.Proofs.Tryz.underlying193⟩ (by kernel_rfl) rfl (fun h => rfl))
  (.cons (.mk' (z := .nilFunc) ⟨_, _, _, Go.Proofs.Tryz.underlying194⟩ (by kernel_rfl) rfl (fun h => rfl))
  (.cons (.mk' (z := .nilFunc) ⟨_, _, _, Go.Proofs.Tryz.underlying196⟩ (by kernel_rfl) rfl (fun h => rfl))
  (.cons (.mk' (z := .nilFunc) ⟨_, _, _, Go.Proofs.Tryz.underlying197⟩ (by kernel_rfl) rfl (fun h => rfl))
  (.cons (.mk' (z := .agg #[.bool false, .bool false, .bool false, .bool false, .bool false, .bool false, .bool false, .bool false, .bool false, .bool false, .bool false, .bool false, .bool false, .bool false, .bool false, .bool false, .bool false, .bool false, .bool false, .bool false, .bool false, .bool false, .bool false, .bool false, .bool false, .bool false, .bool false, .bool false, .bool false, .bool false, .bool false, .bool false, .bool false, .bool false, .bool false, .bool false, .bool false, .bool false, .bool false, .bool false, .bool false, .bool false, .bool false, .bool false, .bool false, .bool false, .bool false, .bool false, .bool false, .bool false, .bool false, .bool false, .bool false, .bool false, .bool false, .bool false, .bool false, .bool false, .bool false, .bool false, .bool false, .bool false, .bool false, .bool false, .bool false, .bool false, .bool false, .bool false, .bool false, .bool false, .bool false, .bool false, .bool false, .bool false, .bool false, .bool false, .bool false, .bool false, .bool false, .bool false, .bool false, .bool false, .bool false, .bool false, .bool false, .bool false, .bool false, .bool false, .bool false, .bool false, .bool false, .bool false, .bool false, .bool false, .bool false, .bool false, .bool false, .bool false, .bool false, .bool false, .bool false, .bool false, .bool false, .bool false, .bool false, .bool false, .bool false, .bool false, .bool false, .bool false, .bool false, .bool false, .bool false, .bool false, .bool false, .bool false, .bool false, .bool false, .bool false, .bool false, .bool false, .bool false, .bool false, .bool false, .bool false, .bool false, .bool false, .bool false, .bool false, .bool false, .bool false, .bool false, .bool false, .bool false, .bool false, .bool false, .bool false, .bool false, .bool false, .bool false, .bool false, .bool false, .bool false, .bool false, .bool false, .bool false, .bool false, .bool false, .bool false, .bool false, .bool false, .bool false, .bool false, .bool false, .bool false, .bool false, .bool false, .bool false, .bool false, .bool false, .bool false, .bool false, .bool false, .bool false, .bool false, .bool false, .bool false, .bool false, .bool false, .bool false, .bool false, .bool false, .bool false, .bool false, .bool false, .bool false, .bool false, .bool false, .bool false, .bool false, .bool false, .bool false, .bool false, .bool false, .bool false, .bool false, .bool false, .bool false, .bool false, .bool false, .bool false, .bool false, .bool false, .bool false, .bool false, .bool false, .bool false, .bool false, .bool false, .bool false, .bool false, .bool false, .bool false, .bool false, .bool false, .bool false, .bool false, .bool false, .bool false, .bool false, .bool false, .bool false, .bool false, .bool false, .bool false, .bool false, .bool false, .bool false, .bool false, .bool false, .bool false, .bool false, .bool false, .bool false, .bool false, .bool false, .bool false, .bool false, .bool false, .bool false, .bool false, .bool false, .bool false, .bool false, .bool false, .bool false, .bool false, .bool false, .bool false, .bool false, .bool false, .bool false, .bool false, .bool false, .bool false, .bool false, .bool false, .bool false, .bool false, .bool false, .bool false, .bool false, .bool false, .bool false, .bool false, .bool false]) Go.Proofs.Tryz.underlying198 (by kernel_rfl) rfl (fun h => by cases h))
  (.cons (.mk' (z := .agg #[.bool false, .bool false, .bool false, .bool false, .bool false, .bool false, .bool false, .bool false, .bool false, .bool false, .bool false, .bool false, .bool false, .bool false, .bool false, .bool false, .bool false, .bool false, .bool false, .bool false, .bool false, .bool false, .bool false, .bool false, .bool false, .bool false, .bool false, .bool false, .bool false, .bool false, .bool false, .bool false, .bool false, .bool false, .bool false, .bool false, .bool false, .bool false, .bool false, .bool false, .bool false, .bool false, .bool false, .bool false, .bool false, .bool false, .bool false, .bool false, .bool false, .bool false, .bool false, .bool false, .bool false, .bool false, .bool false, .bool false, .bool false, .bool false, .bool false, .bool false, .bool false, .bool false, .bool false, .bool false, .bool false, .bool false, .bool false, .bool false, .bool false, .bool false, .bool false, .bool false, .bool false, .bool false, .bool false, .bool false, .bool false, .bool false, .bool false, .bool false, .bool false, .bool false, .bool false, .bool false, .bool false, .bool false, .bool false, .bool false, .bool false, .bool false, .bool false, .bool false, .bool false, .bool false, .bool false, .bool false, .bool false, .bool false, .bool false, .bool false, .bool false, .bool false, .bool false, .bool false, .bool false, .bool false, .bool false, .bool false, .bool false, .bool false, .bool false, .bool false, .bool false, .bool false, .bool false, .bool false, .bool false, .bool false, .bool false, .bool false, .bool false, .bool false, .bool false, .bool false, .bool false, .bool false, .bool false, .bool false, .bool false, .bool false, .bool false, .bool false, .bool false, .bool false, .bool false, .bool false, .bool false, .bool false, .bool false, .bool false, .bool false, .bool false, .bool false, .bool false, .bool false, .bool false, .bool false, .bool false, .bool false, .bool false, .bool false, .bool false, .bool false, .bool false, .bool false, .bool false, .bool false, .bool false, .bool false, .bool false, .bool false, .bool false, .bool false, .bool false, .bool false, .bool false, .bool false, .bool false, .bool false, .bool false, .bool false, .bool false, .bool false, .bool false, .bool false, .bool false, .bool false, .bool false, .bool false, .bool false, .bool false, .bool false, .bool false, .bool false, .bool false, .bool false, .bool false, .bool false, .bool false, .bool false, .bool false, .bool false, .bool false, .bool false, .bool false, .bool false, .bool false, .bool false, .bool false, .bool false, .bool false, .bool false, .bool false, .bool false, .bool false, .bool false, .bool false, .bool false, .bool false, .bool false, .bool false, .bool false, .bool false, .bool false, .bool false, .bool false, .bool false, .bool false, .bool false, .bool false, .bool false, .bool false, .bool false, .bool false, .bool false, .bool false, .bool false, .bool false, .bool false, .bool false, .bool false, .bool false, .bool false, .bool false, .bool false, .bool false, .bool false, .bool false, .bool false, .bool false, .bool false, .bool false, .bool false, .bool false, .bool false, .bool false, .bool false, .bool false, .bool false, .bool false, .bool false, .bool false, .bool false, .bool false, .bool false, .bool false]) Go.Proofs.Tryz.underlying199 (by kernel_rfl) rfl (fun h => by cases h))
  (.cons (.mk' (z := .nilFunc) ⟨_, _, _, Go.Proofs.Tryz.underlying201⟩ (by kernel_rfl) rfl (fun h => rfl))
  (.cons (.mk' (z := .nilFunc) ⟨_, _, _, Go.Proofs.Tryz.underlying202⟩ (by kernel_rfl) rfl (fun h => rfl))
  (.cons (.mk' (z := .pointer none) Go.Proofs.Tryz.underlying203 (by kernel_rfl) rfl (fun h => rfl))
  (.cons (.mk' (z := .nilFunc) ⟨_, _, _, Go.Proofs.Tryz.underlying204⟩ (by kernel_rfl) rfl (fun h => rfl))
  (.cons (.mk' (z := .nilFunc) ⟨_, _, _, Go.Proofs.Tryz.underlying205⟩ (by kernel_rfl) rfl (fun h => rfl))
  (.cons (.mk' (z := .nilFunc) ⟨_, _, _, Go.Proofs.Tryz.underlying206⟩ (by kernel_rfl) rfl (fun h => rfl))
  (.cons (.mk' (z := .nilFunc) ⟨_, _, _, Go.Proofs.Tryz.underlying207⟩ (by kernel_rfl) rfl (fun h => rfl))
  (.cons (.mk' (z := .nilFunc) ⟨_, _, _, Go.Proofs.Tryz.underlying209⟩ (by kernel_rfl) rfl (fun h => rfl))
  (.cons (.mk' (z := .nilFunc) ⟨_, _, _, Go.Proofs.Tryz.underlying210⟩ (by kernel_rfl) rfl (fun h => rfl))
  (.cons (.mk' (z := .nilFunc) ⟨_, _, _, Go.Proofs.Tryz.underlying211⟩ (by kernel_rfl) rfl (fun h => rfl))
  (.cons (.mk' (z := .agg #[.int .u8 0, .int .u8 0, .int .u8 0, .int .u8 0, .int .u8 0, .int .u8 0, .int .u8 0, .int .u8 0, .int .u8 0, .int .u8 0, .int .u8 0, .int .u8 0, .int .u8 0, .int .u8 0, .int .u8 0, .int .u8 0, .int .u8 0, .int .u8 0, .int .u8 0, .int .u8 0, .int .u8 0, .int .u8 0, .int .u8 0, .int .u8 0]) Go.Proofs.Tryz.underlying212 (by kernel_rfl) rfl (fun h => by cases h))
  (.cons (.mk' (z := .nilFunc) ⟨_, _, _, Go.Proofs.Tryz.underlying213⟩ (by kernel_rfl) rfl (fun h => rfl))
  (.cons (.mk' (z := .nilFunc) ⟨_, _, _, Go.Proofs.Tryz.underlying215⟩ (by kernel_rfl) rfl (fun h => rfl))
  (.cons (.mk' (z := .int .i64 0) Go.Proofs.Tryz.underlying216 (by kernel_rfl) rfl (fun h => rfl))
  (.cons (.mk' (z := .nilFunc) ⟨_, _, _, Go.Proofs.Tryz.underlying217⟩ (by kernel_rfl) rfl (fun h => rfl))
  (.cons (.mk' (z := .nilFunc) ⟨_, _, _, Go.Proofs.Tryz.underlying218⟩ (by kernel_rfl) rfl (fun h => rfl))
  (.cons (.mk' (z := .pointer none) Go.Proofs.Tryz.underlying219 (by kernel_rfl) rfl (fun h => rfl))
  (.cons (.mk' (z := .nilFunc) ⟨_, _, _, Go.Proofs.Tryz.underlying220⟩ (by kernel_rfl) rfl (fun h => rfl))
  (.cons (.mk' (z := .nilFunc) ⟨_, _, _, Go.Proofs.Tryz.underlying221⟩ (by kernel_rfl) rfl (fun h => rfl))
  (.cons (.mk' (z := .nilFunc) ⟨_, _, _, Go.Proofs.Tryz.underlying222⟩ (by kernel_rfl) rfl (fun h => rfl))
  (.cons (.mk' (z := .nilFunc) ⟨_, _, _, Go.Proofs.Tryz.underlying223⟩ (by kernel_rfl) rfl (fun h => rfl))
  (.cons (.mk' (z := .agg #[.int .u64 0, .int .u64 0, .int .u64 0, .int .u64 0, .int .u64 0, .int .u64 0, .int .u64 0, .int .u64 0, .int .u64 0, .int .u64 0, .int .u64 0, .int .u64 0, .int .u64 0, .int .u64 0, .int .u64 0, .int .u64 0, .int .u64 0, .int .u64 0, .int .u64 0, .int .u64 0]) Go.Proofs.Tryz.underlying224 (by kernel_rfl) rfl (fun h => by cases h))
  (.cons (.mk' (z := .agg #[.int .u8 0, .int .u8 0, .int .u8 0, .int .u8 0, .int .u8 0, .int .u8 0, .int .u8 0, .int .u8 0, .int .u8 0, .int .u8 0, .int .u8 0, .int .u8 0, .int .u8 0, .int .u8 0, .int .u8 0, .int .u8 0, .int .u8 0, .int .u8 0, .int .u8 0, .int .u8 0, .int .u8 0, .int .u8 0, .int .u8 0, .int .u8 0, .int .u8 0, .int .u8 0, .int .u8 0, .int .u8 0, .int .u8 0, .int .u8 0, .int .u8 0, .int .u8 0, .int .u8 0, .int .u8 0, .int .u8 0, .int .u8 0, .int .u8 0, .int .u8 0, .int .u8 0, .int .u8 0, .int .u8 0, .int .u8 0, .int .u8 0, .int .u8 0, .int .u8 0, .int .u8 0, .int .u8 0, .int .u8 0, .int .u8 0, .int .u8 0, .int .u8 0, .int .u8 0, .int .u8 0, .int .u8 0, .int .u8 0, .int .u8 0, .int .u8 0, .int .u8 0, .int .u8 0, .int .u8 0, .int .u8 0, .int .u8 0, .int .u8 0, .int .u8 0, .int .u8 0]) Go.Proofs.Tryz.underlying225 (by kernel_rfl) rfl (fun h => by cases h))
  (.cons (.mk' (z := .nilFunc) ⟨_, _, _, Go.Proofs.Tryz.underlying226⟩ (by kernel_rfl) rfl (fun h => rfl))
  (.cons (.mk' (z := .nilFunc) ⟨_, _, _, Go.Proofs.Tryz.underlying227⟩ (by kernel_rfl) rfl (fun h => rfl))
  (.cons (.mk' (z := .agg #[.string ByteArray.empty, .string ByteArray.empty, .nilIface]) ⟨_, Go.Proofs.Tryz.underlying228, rfl⟩ (by kernel_rfl) rfl (fun h => by cases h))
  (.cons (.mk' (z := .agg #[.string ByteArray.empty, .string ByteArray.empty, .nilIface]) ⟨_, Go.Proofs.Tryz.underlying229, rfl⟩ (by kernel_rfl) rfl (fun h => by cases h))
  (.cons (.mk' (z := .nilFunc) ⟨_, _, _, Go.Proofs.Tryz.underlying230⟩ (by kernel_rfl) rfl (fun h => rfl))
  (.cons (.mk' (z := .nilFunc) ⟨_, _, _, Go.Proofs.Tryz.underlying231⟩ (by kernel_rfl) rfl (fun h => rfl))
  (.cons (.mk' (z := .nilFunc) ⟨_, _, _, Go.Proofs.Tryz.underlying232⟩ (by kernel_rfl) rfl (fun h => rfl))
  (.cons (.mk' (z := .pointer none) Go.Proofs.Tryz.underlying233 (by kernel_rfl) rfl (fun h => rfl))
  (.cons (.mk' (z := .pointer none) Go.Proofs.Tryz.underlying234 (by kernel_rfl) rfl (fun h => rfl))
  (.cons (.mk' (z := .agg #[.string ByteArray.empty]) ⟨_, Go.Proofs.Tryz.underlying235, rfl⟩ (by kernel_rfl) rfl (fun h => by cases h))
  (.cons (.mk' (z := .agg #[.string ByteArray.empty]) ⟨_, Go.Proofs.Tryz.underlying236, rfl⟩ (by kernel_rfl) rfl (fun h => by cases h))
  (.cons (.mk' (z := .agg #[.int .u8 0, .int .u8 0, .int .u8 0, .int .u8 0, .int .u8 0, .int .u8 0, .int .u8 0, .int .u8 0, .int .u8 0, .int .u8 0, .int .u8 0, .int .u8 0, .int .u8 0, .int .u8 0, .int .u8 0, .int .u8 0, .int .u8 0, .int .u8 0, .int .u8 0, .int .u8 0, .int .u8 0, .int .u8 0, .int .u8 0, .int .u8 0, .int .u8 0, .int .u8 0, .int .u8 0, .int .u8 0, .int .u8 0, .int .u8 0, .int .u8 0, .int .u8 0, .int .u8 0, .int .u8 0, .int .u8 0, .int .u8 0, .int .u8 0, .int .u8 0, .int .u8 0, .int .u8 0, .int .u8 0, .int .u8 0, .int .u8 0, .int .u8 0, .int .u8 0, .int .u8 0, .int .u8 0, .int .u8 0, .int .u8 0, .int .u8 0, .int .u8 0, .int .u8 0, .int .u8 0, .int .u8 0, .int .u8 0, .int .u8 0, .int .u8 0, .int .u8 0, .int .u8 0, .int .u8 0, .int .u8 0, .int .u8 0, .int .u8 0, .int .u8 0, .int .u8 0, .int .u8 0, .int .u8 0, .int .u8 0, .int .u8 0, .int .u8 0, .int .u8 0, .int .u8 0, .int .u8 0, .int .u8 0, .int .u8 0, .int .u8 0, .int .u8 0, .int .u8 0, .int .u8 0, .int .u8 0, .int .u8 0, .int .u8 0, .int .u8 0, .int .u8 0, .int .u8 0, .int .u8 0, .int .u8 0, .int .u8 0, .int .u8 0, .int .u8 0, .int .u8 0, .int .u8 0, .int .u8 0, .int .u8 0, .int .u8 0, .int .u8 0, .int .u8 0, .int .u8 0, .int .u8 0, .int .u8 0, .int .u8 0, .int .u8 0, .int .u8 0, .int .u8 0, .int .u8 0, .int .u8 0, .int .u8 0, .int .u8 0, .int .u8 0, .int .u8 0, .int .u8 0, .int .u8 0, .int .u8 0, .int .u8 0, .int .u8 0, .int .u8 0, .int .u8 0, .int .u8 0, .int .u8 0, .int .u8 0, .int .u8 0, .int .u8 0, .int .u8 0, .int .u8 0, .int .u8 0, .int .u8 0, .int .u8 0, .int .u8 0, .int .u8 0, .int .u8 0, .int .u8 0, .int .u8 0, .int .u8 0, .int .u8 0, .int .u8 0, .int .u8 0, .int .u8 0, .int .u8 0, .int .u8 0, .int .u8 0, .int .u8 0, .int .u8 0, .int .u8 0, .int .u8 0, .int .u8 0, .int .u8 0, .int .u8 0, .int .u8 0, .int .u8 0, .int .u8 0, .int .u8 0, .int .u8 0, .int .u8 0, .int .u8 0, .int .u8 0, .int .u8 0, .int .u8 0, .int .u8 0, .int .u8 0, .int .u8 0, .int .u8 0, .int .u8 0, .int .u8 0, .int .u8 0, .int .u8 0, .int .u8 0, .int .u8 0, .int .u8 0, .int .u8 0, .int .u8 0, .int .u8 0, .int .u8 0, .int .u8 0, .int .u8 0, .int .u8 0, .int .u8 0, .int .u8 0, .int .u8 0, .int .u8 0, .int .u8 0, .int .u8 0, .int .u8 0, .int .u8 0, .int .u8 0, .int .u8 0, .int .u8 0, .int .u8 0, .int .u8 0, .int .u8 0, .int .u8 0, .int .u8 0, .int .u8 0, .int .u8 0, .int .u8 0, .int .u8 0, .int .u8 0, .int .u8 0, .int .u8 0, .int .u8 0, .int .u8 0, .int .u8 0, .int .u8 0, .int .u8 0, .int .u8 0, .int .u8 0, .int .u8 0, .int .u8 0, .int .u8 0, .int .u8 0, .int .u8 0, .int .u8 0, .int .u8 0, .int .u8 0, .int .u8 0, .int .u8 0, .int .u8 0, .int .u8 0, .int .u8 0, .int .u8 0, .int .u8 0, .int .u8 0, .int .u8 0, .int .u8 0, .int .u8 0, .int .u8 0, .int .u8 0, .int .u8 0, .int .u8 0, .int .u8 0, .int .u8 0, .int .u8 0, .int .u8 0, .int .u8 0, .int .u8 0, .int .u8 0, .int .u8 0, .int .u8 0, .int .u8 0, .int .u8 0, .int .u8 0, .int .u8 0, .int .u8 0, .int .u8 0, .int .u8 0, .int .u8 0, .int .u8 0, .int .u8 0, .int .u8 0, .int .u8 0, .int .u8 0, .int .u8 0, .int .u8 0, .int .u8 0, .int .u8 0, .int .u8 0, .int .u8 0]) Go.Proofs.Tryz.underlying237 (by kernel_rfl) rfl (fun h => by cases h))
  (.cons (.mk' (z := .agg #[.int .u8 0, .int .u8 0]) ⟨_, Go.Proofs.Tryz.underlying238, rfl⟩ (by kernel_rfl) rfl (fun h => by cases h))
  (.cons (.mk' (z := .agg #[.int .u8 0, .int .u8 0]) ⟨_, Go.Proofs.Tryz.underlying239, rfl⟩ (by kernel_rfl) rfl (fun h => by cases h))
  (.cons (.mk' (z := .agg #[.int .u8 0, .int .u8 0, .int .u8 0, .int .u8 0, .int .u8 0, .int .u8 0, .int .u8 0, .int .u8 0, .int .u8 0, .int .u8 0, .int .u8 0, .int .u8 0, .int .u8 0, .int .u8 0, .int .u8 0, .int .u8 0, .int .u8 0, .int .u8 0, .int .u8 0, .int .u8 0, .int .u8 0, .int .u8 0, .int .u8 0, .int .u8 0, .int .u8 0, .int .u8 0, .int .u8 0, .int .u8 0, .int .u8 0, .int .u8 0, .int .u8 0, .int .u8 0]) Go.Proofs.Tryz.underlying240 (by kernel_rfl) rfl (fun h => by cases h))
  (.cons (.mk' (z := .agg #[.int .u8 0, .int .u8 0, .int .u8 0, .int .u8 0, .int .u8 0, .int .u8 0, .int .u8 0, .int .u8 0, .int .u8 0, .int .u8 0, .int .u8 0, .int .u8 0, .int .u8 0, .int .u8 0, .int .u8 0, .int .u8 0, .int .u8 0, .int .u8 0, .int .u8 0, .int .u8 0, .int .u8 0, .int .u8 0, .int .u8 0, .int .u8 0, .int .u8 0, .int .u8 0, .int .u8 0, .int .u8 0, .int .u8 0, .int .u8 0, .int .u8 0, .int .u8 0]) Go.Proofs.Tryz.underlying241 (by kernel_rfl) rfl (fun h => by cases h))
  (.cons (.mk' (z := .agg #[.int .u8 0, .int .u8 0, .int .u8 0, .int .u8 0, .int .u8 0, .int .u8 0, .int .u8 0, .int .u8 0, .int .u8 0, .int .u8 0, .int .u8 0, .int .u8 0, .int .u8 0, .int .u8 0, .int .u8 0, .int .u8 0, .int .u8 0, .int .u8 0, .int .u8 0, .int .u8 0, .int .u8 0, .int .u8 0, .int .u8 0, .int .u8 0, .int .u8 0, .int .u8 0, .int .u8 0, .int .u8 0, .int .u8 0, .int .u8 0, .int .u8 0, .int .u8 0, .int .u8 0, .int .u8 0, .int .u8 0, .int .u8 0, .int .u8 0, .int .u8 0, .int .u8 0, .int .u8 0, .int .u8 0, .int .u8 0, .int .u8 0, .int .u8 0, .int .u8 0, .int .u8 0, .int .u8 0, .int .u8 0, .int .u8 0, .int .u8 0, .int .u8 0, .int .u8 0, .int .u8 0, .int .u8 0, .int .u8 0, .int .u8 0, .int .u8 0, .int .u8 0, .int .u8 0, .int .u8 0, .int .u8 0, .int .u8 0, .int .u8 0, .int .u8 0]) Go.Proofs.Tryz.underlying242 (by kernel_rfl) rfl (fun h => by cases h))
  (.cons (.mk' (z := .nilFunc) ⟨_, _, _, Go.Proofs.Tryz.underlying243⟩ (by kernel_rfl) rfl (fun h => rfl))
  (.cons (.mk' (z := .nilFunc) ⟨_, _, _, Go.Proofs.Tryz.underlying244⟩ (by kernel_rfl) rfl (fun h => rfl))
  (.cons (.mk' (z := .agg #[.pointer none, .pointer none, .pointer none, .string ByteArray.empty]) ⟨_, Go.Proofs.Tryz.underlying245, rfl⟩ (by kernel_rfl) rfl (fun h => by cases h))
  (.cons (.mk' (z := .agg #[.pointer none, .pointer none, .pointer none, .string ByteArray.empty]) ⟨_, Go.Proofs.Tryz.underlying246, rfl⟩ (by kernel_rfl) rfl (fun h => by cases h))
  (.cons (.mk' (z := .agg #[]) Go.Proofs.Tryz.underlying247 (by kernel_rfl) rfl (fun h => by cases h))
  (.cons (.mk' (z := .agg #[]) ⟨_, Go.Proofs.Tryz.underlying248, rfl⟩ (by kernel_rfl) rfl (fun h => by cases h))
  (.cons (.mk' (z := .agg #[]) ⟨_, Go.Proofs.Tryz.underlying249, rfl⟩ (by kernel_rfl) rfl (fun h => by cases h))
  (.nil))))))))))))))))))))))))))))))))))))))))))))))))))))))))))))))))))))))))))))))))))))))))))))))))))))))))))))))))))))))))))))))))))))))))))))))))))))))))))))))))))))))))))))))))))))))))))))))))))))))))))))))))))))))))))))))))))))
theorem mixed : Go.Proofs.Tryz.prog.follows .mixedOrders = true := by kernel_rfl
end Go.Sx.T

