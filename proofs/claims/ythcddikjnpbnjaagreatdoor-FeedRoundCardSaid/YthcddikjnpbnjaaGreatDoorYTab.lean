import Derived.Test.YthcddikjnpbnjaaGreatDoorL6
import Derived.Test.YthcddikjnpbnjaaGreatDoorProg
set_option linter.all false
namespace Go.Sx.T
open Go Go.Sx Go.Proofs
set_option maxRecDepth 100000
def tab : Tab := [(1, ⟨.func, 1, 8, [.nilFunc]⟩),
  (2, ⟨.int .i64, 1, 8, [.int .i64 0]⟩),
  (3, ⟨.int .i64, 1, 8, [.int .i64 0]⟩),
  (4, ⟨.bool, 1, 1, [.bool false]⟩),
  (5, ⟨.int .u8, 1, 1, [.int .u8 0]⟩),
  (6, ⟨.int .u8, 1, 1, [.int .u8 0]⟩),
  (7, ⟨.st [(0, 2), (1, 3), (2, 4), (3, 6)], 4, 24, [.int .i64 0, .int .i64 0, .bool false, .int .u8 0]⟩),
  (8, ⟨.st [(0, 2), (1, 3), (2, 4), (3, 6)], 4, 24, [.int .i64 0, .int .i64 0, .bool false, .int .u8 0]⟩),
  (9, ⟨.str, 1, 16, [.string ByteArray.empty]⟩),
  (10, ⟨.str, 1, 16, [.string ByteArray.empty]⟩),
  (11, ⟨.str, 1, 16, [.string ByteArray.empty]⟩),
  (12, ⟨.int .u64, 1, 8, [.int .u64 0]⟩),
  (13, ⟨.st [(0, 9), (1, 12)], 2, 24, [.string ByteArray.empty, .int .u64 0]⟩),
  (14, ⟨.st [(0, 9), (1, 12)], 2, 24, [.string ByteArray.empty, .int .u64 0]⟩),
  (15, ⟨.ptr 252, 1, 8, [.pointer none]⟩),
  (16, ⟨.ptr 255, 1, 8, [.pointer none]⟩),
  (17, ⟨.ptr 262, 1, 8, [.pointer none]⟩),
  (18, ⟨.st [(0, 17)], 1, 8, [.pointer none]⟩),
  (19, ⟨.st [(0, 17)], 1, 8, [.pointer none]⟩),
  (20, ⟨.iface, 1, 16, [.nilIface]⟩),
  (21, ⟨.int .i32, 1, 4, [.int .i32 0]⟩),
  (22, ⟨.int .u64, 1, 8, [.int .u64 0]⟩),
  (23, ⟨.sl 4, 1, 24, [.slice none 0 0]⟩),
  (24, ⟨.func, 1, 8, [.nilFunc]⟩),
  (25, ⟨.ptr 100, 1, 8, [.pointer none]⟩),
  (26, ⟨.func, 1, 8, [.nilFunc]⟩),
  (27, ⟨.sl 22, 1, 24, [.slice none 0 0]⟩),
  (28, ⟨.func, 1, 8, [.nilFunc]⟩),
  (29, ⟨.func, 1, 8, [.nilFunc]⟩),
  (31, ⟨.func, 1, 8, [.nilFunc]⟩),
  (33, ⟨.func, 1, 8, [.nilFunc]⟩),
  (34, ⟨.func, 1, 8, [.nilFunc]⟩),
  (35, ⟨.func, 1, 8, [.nilFunc]⟩),
  (36, ⟨.sl 3, 1, 24, [.slice none 0 0]⟩),
  (37, ⟨.func, 1, 8, [.nilFunc]⟩),
  (38, ⟨.func, 1, 8, [.nilFunc]⟩),
  (39, ⟨.sl 41, 1, 24, [.slice none 0 0]⟩),
  (40, ⟨.st [(0, 3), (1, 3), (2, 22), (3, 2)], 4, 32, [.int .i64 0, .int .i64 0, .int .u64 0, .int .i64 0]⟩),
  (41, ⟨.st [(0, 3), (1, 3), (2, 22), (3, 2)], 4, 32, [.int .i64 0, .int .i64 0, .int .u64 0, .int .i64 0]⟩),
  (42, ⟨.func, 1, 8, [.nilFunc]⟩),
  (43, ⟨.func, 1, 8, [.nilFunc]⟩),
  (44, ⟨.func, 1, 8, [.nilFunc]⟩),
  (45, ⟨.func, 1, 8, [.nilFunc]⟩),
  (46, ⟨.ptr 106, 1, 8, [.pointer none]⟩),
  (47, ⟨.func, 1, 8, [.nilFunc]⟩),
  (48, ⟨.func, 1, 8, [.nilFunc]⟩),
  (49, ⟨.func, 1, 8, [.nilFunc]⟩),
  (51, ⟨.func, 1, 8, [.nilFunc]⟩),
  (52, ⟨.func, 1, 8, [.nilFunc]⟩),
  (53, ⟨.func, 1, 8, [.nilFunc]⟩),
  (54, ⟨.ptr 113, 1, 8, [.pointer none]⟩),
  (55, ⟨.func, 1, 8, [.nilFunc]⟩),
  (56, ⟨.func, 1, 8, [.nilFunc]⟩),
  (57, ⟨.st [(0, 27), (1, 27), (2, 27), (3, 3), (4, 2)], 5, 88, [.slice none 0 0, .slice none 0 0, .slice none 0 0, .int .i64 0, .int .i64 0]⟩),
  (58, ⟨.st [(0, 27), (1, 27), (2, 27), (3, 3), (4, 2)], 5, 88, [.slice none 0 0, .slice none 0 0, .slice none 0 0, .int .i64 0, .int .i64 0]⟩),
  (59, ⟨.st [(0, 27), (1, 27), (2, 27), (3, 3), (4, 2)], 5, 88, [.slice none 0 0, .slice none 0 0, .slice none 0 0, .int .i64 0, .int .i64 0]⟩),
  (61, ⟨.func, 1, 8, [.nilFunc]⟩),
  (62, ⟨.st [(0, 3), (1, 3), (2, 3), (3, 3), (4, 3), (5, 22), (6, 2), (7, 2)], 8, 64, [.int .i64 0, .int .i64 0, .int .i64 0, .int .i64 0, .int .i64 0, .int .u64 0, .int .i64 0, .int .i64 0]⟩),
  (63, ⟨.st [(0, 3), (1, 3), (2, 3), (3, 3), (4, 3), (5, 22), (6, 2), (7, 2)], 8, 64, [.int .i64 0, .int .i64 0, .int .i64 0, .int .i64 0, .int .i64 0, .int .u64 0, .int .i64 0, .int .i64 0]⟩),
  (64, ⟨.func, 1, 8, [.nilFunc]⟩),
  (65, ⟨.func, 1, 8, [.nilFunc]⟩),
  (66, ⟨.sl 80, 1, 24, [.slice none 0 0]⟩),
  (67, ⟨.func, 1, 8, [.nilFunc]⟩),
  (68, ⟨.func, 1, 8, [.nilFunc]⟩),
  (69, ⟨.sl 9, 1, 24, [.slice none 0 0]⟩),
  (70, ⟨.func, 1, 8, [.nilFunc]⟩),
  (71, ⟨.func, 1, 8, [.nilFunc]⟩),
  (72, ⟨.func, 1, 8, [.nilFunc]⟩),
  (73, ⟨.func, 1, 8, [.nilFunc]⟩),
  (74, ⟨.func, 1, 8, [.nilFunc]⟩),
  (76, ⟨.func, 1, 8, [.nilFunc]⟩),
  (77, ⟨.func, 1, 8, [.nilFunc]⟩),
  (78, ⟨.func, 1, 8, [.nilFunc]⟩),
  (79, ⟨.st [(0, 3), (1, 3)], 2, 16, [.int .i64 0, .int .i64 0]⟩),
  (80, ⟨.st [(0, 3), (1, 3)], 2, 16, [.int .i64 0, .int .i64 0]⟩),
  (81, ⟨.func, 1, 8, [.nilFunc]⟩),
  (82, ⟨.ptr 125, 1, 8, [.pointer none]⟩),
  (83, ⟨.func, 1, 8, [.nilFunc]⟩),
  (84, ⟨.ptr 128, 1, 8, [.pointer none]⟩),
  (85, ⟨.func, 1, 8, [.nilFunc]⟩),
  (86, ⟨.ptr 130, 1, 8, [.pointer none]⟩),
  (87, ⟨.func, 1, 8, [.nilFunc]⟩),
  (88, ⟨.ptr 135, 1, 8, [.pointer none]⟩),
  (89, ⟨.func, 1, 8, [.nilFunc]⟩),
  (90, ⟨.func, 1, 8, [.nilFunc]⟩),
  (91, ⟨.func, 1, 8, [.nilFunc]⟩),
  (92, ⟨.func, 1, 8, [.nilFunc]⟩),
  (94, ⟨.func, 1, 8, [.nilFunc]⟩),
  (95, ⟨.func, 1, 8, [.nilFunc]⟩),
  (96, ⟨.func, 1, 8, [.nilFunc]⟩),
  (97, ⟨.map 22 2, 1, 8, [.map none]⟩),
  (98, ⟨.map 22 4, 1, 8, [.map none]⟩),
  (99, ⟨.st [(0, 2), (1, 4), (2, 2), (3, 22), (4, 22), (5, 97), (6, 98), (7, 3), (8, 4), (9, 2), (10, 22), (11, 27), (12, 22), (13, 2)], 14, 128, [.int .i64 0, .bool false, .int .i64 0, .int .u64 0, .int .u64 0, .map none, .map none, .int .i64 0, .bool false, .int .i64 0, .int .u64 0, .slice none 0 0, .int .u64 0, .int .i64 0]⟩),
  (100, ⟨.st [(0, 2), (1, 4), (2, 2), (3, 22), (4, 22), (5, 97), (6, 98), (7, 3), (8, 4), (9, 2), (10, 22), (11, 27), (12, 22), (13, 2)], 14, 128, [.int .i64 0, .bool false, .int .i64 0, .int .u64 0, .int .u64 0, .map none, .map none, .int .i64 0, .bool false, .int .i64 0, .int .u64 0, .slice none 0 0, .int .u64 0, .int .i64 0]⟩),
  (101, ⟨.func, 1, 8, [.nilFunc]⟩),
  (102, ⟨.func, 1, 8, [.nilFunc]⟩),
  (103, ⟨.func, 1, 8, [.nilFunc]⟩),
  (104, ⟨.int .u64, 1, 8, [.int .u64 0]⟩),
  (105, ⟨.st [(0, 22), (1, 22), (2, 22), (3, 2), (4, 4), (5, 2), (6, 88), (7, 4), (8, 4), (9, 2)], 10, 72, [.int .u64 0, .int .u64 0, .int .u64 0, .int .i64 0, .bool false, .int .i64 0, .pointer none, .bool false, .bool false, .int .i64 0]⟩),
  (106, ⟨.st [(0, 22), (1, 22), (2, 22), (3, 2), (4, 4), (5, 2), (6, 88), (7, 4), (8, 4), (9, 2)], 10, 72, [.int .u64 0, .int .u64 0, .int .u64 0, .int .i64 0, .bool false, .int .i64 0, .pointer none, .bool false, .bool false, .int .i64 0]⟩),
  (107, ⟨.func, 1, 8, [.nilFunc]⟩),
  (108, ⟨.func, 1, 8, [.nilFunc]⟩),
  (109, ⟨.func, 1, 8, [.nilFunc]⟩),
  (110, ⟨.st [(0, 22), (1, 4)], 2, 16, [.int .u64 0, .bool false]⟩),
  (111, ⟨.st [(0, 22), (1, 4)], 2, 16, [.int .u64 0, .bool false]⟩),
  (112, ⟨.st [(0, 3), (1, 3), (2, 3), (3, 3), (4, 86), (5, 111), (7, 111), (9, 4), (10, 2)], 11, 88, [.int .i64 0, .int .i64 0, .int .i64 0, .int .i64 0, .pointer none, .int .u64 0, .bool false, .int .u64 0, .bool false, .bool false, .int .i64 0]⟩),
  (113, ⟨.st [(0, 3), (1, 3), (2, 3), (3, 3), (4, 86), (5, 111), (7, 111), (9, 4), (10, 2)], 11, 88, [.int .i64 0, .int .i64 0, .int .i64 0, .int .i64 0, .pointer none, .int .u64 0, .bool false, .int .u64 0, .bool false, .bool false, .int .i64 0]⟩),
  (114, ⟨.arr 3 27, 3, 72, [.slice none 0 0, .slice none 0 0, .slice none 0 0]⟩),
  (115, ⟨.func, 1, 8, [.nilFunc]⟩),
  (116, ⟨.func, 1, 8, [.nilFunc]⟩),
  (117, ⟨.func, 1, 8, [.nilFunc]⟩),
  (118, ⟨.func, 1, 8, [.nilFunc]⟩),
  (119, ⟨.func, 1, 8, [.nilFunc]⟩),
  (120, ⟨.func, 1, 8, [.nilFunc]⟩),
  (121, ⟨.sl 5, 1, 24, [.slice none 0 0]⟩),
  (122, ⟨.func, 1, 8, [.nilFunc]⟩),
  (123, ⟨.map 22 3, 1, 8, [.map none]⟩),
  (124, ⟨.st [(0, 123), (1, 22), (2, 4), (3, 22), (4, 4)], 5, 40, [.map none, .int .u64 0, .bool false, .int .u64 0, .bool false]⟩),
  (125, ⟨.st [(0, 123), (1, 22), (2, 4), (3, 22), (4, 4)], 5, 40, [.map none, .int .u64 0, .bool false, .int .u64 0, .bool false]⟩),
  (126, ⟨.sl 139, 1, 24, [.slice none 0 0]⟩),
  (127, ⟨.st [(0, 126), (1, 22), (2, 4)], 3, 40, [.slice none 0 0, .int .u64 0, .bool false]⟩),
  (128, ⟨.st [(0, 126), (1, 22), (2, 4)], 3, 40, [.slice none 0 0, .int .u64 0, .bool false]⟩),
  (129, ⟨.st [(0, 4), (1, 2), (2, 2), (3, 2)], 4, 32, [.bool false, .int .i64 0, .int .i64 0, .int .i64 0]⟩),
  (130, ⟨.st [(0, 4), (1, 2), (2, 2), (3, 2)], 4, 32, [.bool false, .int .i64 0, .int .i64 0, .int .i64 0]⟩),
  (131, ⟨.st [(0, 2), (1, 22)], 2, 16, [.int .i64 0, .int .u64 0]⟩),
  (132, ⟨.st [(0, 2), (1, 22)], 2, 16, [.int .i64 0, .int .u64 0]⟩),
  (133, ⟨.sl 132, 1, 24, [.slice none 0 0]⟩),
  (134, ⟨.st [(0, 133)], 1, 24, [.slice none 0 0]⟩),
  (135, ⟨.st [(0, 133)], 1, 24, [.slice none 0 0]⟩),
  (136, ⟨.func, 1, 8, [.nilFunc]⟩),
  (137, ⟨.func, 1, 8, [.nilFunc]⟩),
  (138, ⟨.st [(0, 22), (1, 2), (2, 3)], 3, 24, [.int .u64 0, .int .i64 0, .int .i64 0]⟩),
  (139, ⟨.st [(0, 22), (1, 2), (2, 3)], 3, 24, [.int .u64 0, .int .i64 0, .int .i64 0]⟩),
  (140, ⟨.ptr 139, 1, 8, [.pointer none]⟩),
  (141, ⟨.func, 1, 8, [.nilFunc]⟩),
  (142, ⟨.func, 1, 8, [.nilFunc]⟩),
  (143, ⟨.func, 1, 8, [.nilFunc]⟩),
  (144, ⟨.sl 2, 1, 24, [.slice none 0 0]⟩),
  (145, ⟨.func, 1, 8, [.nilFunc]⟩),
  (146, ⟨.func, 1, 8, [.nilFunc]⟩),
  (147, ⟨.sl 27, 1, 24, [.slice none 0 0]⟩),
  (149, ⟨.func, 1, 8, [.nilFunc]⟩),
  (150, ⟨.int .u32, 1, 4, [.int .u32 0]⟩),
  (151, ⟨.arr 3 5, 3, 3, [.int .u8 0, .int .u8 0, .int .u8 0]⟩),
  (152, ⟨.st [(0, 3), (1, 3), (2, 3), (3, 3), (4, 3), (5, 3), (6, 3), (7, 4), (8, 22), (9, 22), (10, 150), (11, 3), (12, 151)], 15, 104, [.int .i64 0, .int .i64 0, .int .i64 0, .int .i64 0, .int .i64 0, .int .i64 0, .int .i64 0, .bool false, .int .u64 0, .int .u64 0, .int .u32 0, .int .i64 0, .int .u8 0, .int .u8 0, .int .u8 0]⟩),
  (153, ⟨.st [(0, 3), (1, 3), (2, 3), (3, 3), (4, 3), (5, 3), (6, 3), (7, 4), (8, 22), (9, 22), (10, 150), (11, 3), (12, 151)], 15, 104, [.int .i64 0, .int .i64 0, .int .i64 0, .int .i64 0, .int .i64 0, .int .i64 0, .int .i64 0, .bool false, .int .u64 0, .int .u64 0, .int .u32 0, .int .i64 0, .int .u8 0, .int .u8 0, .int .u8 0]⟩),
  (154, ⟨.st [(0, 3), (1, 9)], 2, 24, [.int .i64 0, .string ByteArray.empty]⟩),
  (155, ⟨.st [(0, 3), (1, 9)], 2, 24, [.int .i64 0, .string ByteArray.empty]⟩),
  (156, ⟨.sl 155, 1, 24, [.slice none 0 0]⟩),
  (157, ⟨.st [(0, 153), (15, 156), (16, 9)], 17, 144, [.int .i64 0, .int .i64 0, .int .i64 0, .int .i64 0, .int .i64 0, .int .i64 0, .int .i64 0, .bool false, .int .u64 0, .int .u64 0, .int .u32 0, .int .i64 0, .int .u8 0, .int .u8 0, .int .u8 0, .slice none 0 0, .string ByteArray.empty]⟩),
  (158, ⟨.st [(0, 153), (15, 156), (16, 9)], 17, 144, [.int .i64 0, .int .i64 0, .int .i64 0, .int .i64 0, .int .i64 0, .int .i64 0, .int .i64 0, .bool false, .int .u64 0, .int .u64 0, .int .u32 0, .int .i64 0, .int .u8 0, .int .u8 0, .int .u8 0, .slice none 0 0, .string ByteArray.empty]⟩),
  (159, ⟨.int .i64, 1, 8, [.int .i64 0]⟩),
  (161, ⟨.func, 1, 8, [.nilFunc]⟩),
  (163, ⟨.func, 1, 8, [.nilFunc]⟩),
  (165, ⟨.func, 1, 8, [.nilFunc]⟩),
  (166, ⟨.func, 1, 8, [.nilFunc]⟩),
  (167, ⟨.func, 1, 8, [.nilFunc]⟩),
  (168, ⟨.func, 1, 8, [.nilFunc]⟩),
  (169, ⟨.func, 1, 8, [.nilFunc]⟩),
  (170, ⟨.func, 1, 8, [.nilFunc]⟩),
  (171, ⟨.iface, 1, 16, [.nilIface]⟩),
  (172, ⟨.iface, 1, 16, [.nilIface]⟩),
  (173, ⟨.func, 1, 8, [.nilFunc]⟩),
  (174, ⟨.func, 1, 8, [.nilFunc]⟩),
  (175, ⟨.func, 1, 8, [.nilFunc]⟩),
  (177, ⟨.func, 1, 8, [.nilFunc]⟩),
  (178, ⟨.func, 1, 8, [.nilFunc]⟩),
  (179, ⟨.func, 1, 8, [.nilFunc]⟩),
  (180, ⟨.func, 1, 8, [.nilFunc]⟩),
  (181, ⟨.func, 1, 8, [.nilFunc]⟩),
  (182, ⟨.func, 1, 8, [.nilFunc]⟩),
  (183, ⟨.func, 1, 8, [.nilFunc]⟩),
  (185, ⟨.func, 1, 8, [.nilFunc]⟩),
  (187, ⟨.func, 1, 8, [.nilFunc]⟩),
  (189, ⟨.func, 1, 8, [.nilFunc]⟩),
  (190, ⟨.func, 1, 8, [.nilFunc]⟩),
  (191, ⟨.func, 1, 8, [.nilFunc]⟩),
  (192, ⟨.func, 1, 8, [.nilFunc]⟩),
  (193, ⟨.func, 1, 8, [.nilFunc]⟩),
  (194, ⟨.func, 1, 8, [.nilFunc]⟩),
  (195, ⟨.func, 1, 8, [.nilFunc]⟩),
  (196, ⟨.func, 1, 8, [.nilFunc]⟩),
  (198, ⟨.func, 1, 8, [.nilFunc]⟩),
  (199, ⟨.func, 1, 8, [.nilFunc]⟩),
  (201, ⟨.func, 1, 8, [.nilFunc]⟩),
  (202, ⟨.func, 1, 8, [.nilFunc]⟩),
  (203, ⟨.arr 256 4, 256, 256, [.bool false, .bool false, .bool false, .bool false, .bool false, .bool false, .bool false, .bool false, .bool false, .bool false, .bool false, .bool false, .bool false, .bool false, .bool false, .bool false, .bool false, .bool false, .bool false, .bool false, .bool false, .bool false, .bool false, .bool false, .bool false, .bool false, .bool false, .bool false, .bool false, .bool false, .bool false, .bool false, .bool false, .bool false, .bool false, .bool false, .bool false, .bool false, .bool false, .bool false, .bool false, .bool false, .bool false, .bool false, .bool false, .bool false, .bool false, .bool false, .bool false, .bool false, .bool false, .bool false, .bool false, .bool false, .bool false, .bool false, .bool false, .bool false, .bool false, .bool false, .bool false, .bool false, .bool false, .bool false, .bool false, .bool false, .bool false, .bool false, .bool false, .bool false, .bool false, .bool false, .bool false, .bool false, .bool false, .bool false, .bool false, .bool false, .bool false, .bool false, .bool false, .bool false, .bool false, .bool false, .bool false, .bool false, .bool false, .bool false, .bool false, .bool false, .bool false, .bool false, .bool false, .bool false, .bool false, .bool false, .bool false, .bool false, .bool false, .bool false, .bool false, .bool false, .bool false, .bool false, .bool false, .bool false, .bool false, .bool false, .bool false, .bool false, .bool false, .bool false, .bool false, .bool false, .bool false, .bool false, .bool false, .bool false, .bool false, .bool false, .bool false, .bool false, .bool false, .bool false, .bool false, .bool false, .bool false, .bool false, .bool false, .bool false, .bool false, .bool false, .bool false, .bool false, .bool false, .bool false, .bool false, .bool false, .bool false, .bool false, .bool false, .bool false, .bool false, .bool false, .bool false, .bool false, .bool false, .bool false, .bool false, .bool false, .bool false, .bool false, .bool false, .bool false, .bool false, .bool false, .bool false, .bool false, .bool false, .bool false, .bool false, .bool false, .bool false, .bool false, .bool false, .bool false, .bool false, .bool false, .bool false, .bool false, .bool false, .bool false, .bool false, .bool false, .bool false, .bool false, .bool false, .bool false, .bool false, .bool false, .bool false, .bool false, .bool false, .bool false, .bool false, .bool false, .bool false, .bool false, .bool false, .bool false, .bool false, .bool false, .bool false, .bool false, .bool false, .bool false, .bool false, .bool false, .bool false, .bool false, .bool false, .bool false, .bool false, .bool false, .bool false, .bool false, .bool false, .bool false, .bool false, .bool false, .bool false, .bool false, .bool false, .bool false, .bool false, .bool false, .bool false, .bool false, .bool false, .bool false, .bool false, .bool false, .bool false, .bool false, .bool false, .bool false, .bool false, .bool false, .bool false, .bool false, .bool false, .bool false, .bool false, .bool false, .bool false, .bool false, .bool false, .bool false, .bool false, .bool false, .bool false, .bool false, .bool false, .bool false, .bool false, .bool false, .bool false, .bool false, .bool false, .bool false, .bool false, .bool false, .bool false, .bool false, .bool false, .bool false]⟩),
  (204, ⟨.arr 256 4, 256, 256, [.bool false, .bool false, .bool false, .bool false, .bool false, .bool false, .bool false, .bool false, .bool false, .bool false, .bool false, .bool false, .bool false, .bool false, .bool false, .bool false, .bool false, .bool false, .bool false, .bool false, .bool false, .bool false, .bool false, .bool false, .bool false, .bool false, .bool false, .bool false, .bool false, .bool false, .bool false, .bool false, .bool false, .bool false, .bool false, .bool false, .bool false, .bool false, .bool false, .bool false, .bool false, .bool false, .bool false, .bool false, .bool false, .bool false, .bool false, .bool false, .bool false, .bool false, .bool false, .bool false, .bool false, .bool false, .bool false, .bool false, .bool false, .bool false, .bool false, .bool false, .bool false, .bool false, .bool false, .bool false, .bool false, .bool false, .bool false, .bool false, .bool false, .bool false, .bool false, .bool false, .bool false, .bool false, .bool false, .bool false, .bool false, .bool false, .bool false, .bool false, .bool false, .bool false, .bool false, .bool false, .bool false, .bool false, .bool false, .bool false, .bool false, .bool false, .bool false, .bool false, .bool false, .bool false, .bool false, .bool false, .bool false, .bool false, .bool false, .bool false, .bool false, .bool false, .bool false, .bool false, .bool false, .bool false, .bool false, .bool false, .bool false, .bool false, .bool false, .bool false, .bool false, .bool false, .bool false, .bool false, .bool false, .bool false, .bool false, .bool false, .bool false, .bool false, .bool false, .bool false, .bool false, .bool false, .bool false, .bool false, .bool false, .bool false, .bool false, .bool false, .bool false, .bool false, .bool false, .bool false, .bool false, .bool false, .bool false, .bool false, .bool false, .bool false, .bool false, .bool false, .bool false, .bool false, .bool false, .bool false, .bool false, .bool false, .bool false, .bool false, .bool false, .bool false, .bool false, .bool false, .bool false, .bool false, .bool false, .bool false, .bool false, .bool false, .bool false, .bool false, .bool false, .bool false, .bool false, .bool false, .bool false, .bool false, .bool false, .bool false, .bool false, .bool false, .bool false, .bool false, .bool false, .bool false, .bool false, .bool false, .bool false, .bool false, .bool false, .bool false, .bool false, .bool false, .bool false, .bool false, .bool false, .bool false, .bool false, .bool false, .bool false, .bool false, .bool false, .bool false, .bool false, .bool false, .bool false, .bool false, .bool false, .bool false, .bool false, .bool false, .bool false, .bool false, .bool false, .bool false, .bool false, .bool false, .bool false, .bool false, .bool false, .bool false, .bool false, .bool false, .bool false, .bool false, .bool false, .bool false, .bool false, .bool false, .bool false, .bool false, .bool false, .bool false, .bool false, .bool false, .bool false, .bool false, .bool false, .bool false, .bool false, .bool false, .bool false, .bool false, .bool false, .bool false, .bool false, .bool false, .bool false, .bool false, .bool false, .bool false, .bool false, .bool false, .bool false, .bool false, .bool false, .bool false, .bool false, .bool false, .bool false, .bool false, .bool false, .bool false]⟩),
  (206, ⟨.func, 1, 8, [.nilFunc]⟩),
  (207, ⟨.func, 1, 8, [.nilFunc]⟩),
  (208, ⟨.ptr 204, 1, 8, [.pointer none]⟩),
  (209, ⟨.func, 1, 8, [.nilFunc]⟩),
  (210, ⟨.func, 1, 8, [.nilFunc]⟩),
  (211, ⟨.func, 1, 8, [.nilFunc]⟩),
  (212, ⟨.func, 1, 8, [.nilFunc]⟩),
  (214, ⟨.func, 1, 8, [.nilFunc]⟩),
  (215, ⟨.func, 1, 8, [.nilFunc]⟩),
  (216, ⟨.func, 1, 8, [.nilFunc]⟩),
  (217, ⟨.arr 24 5, 24, 24, [.int .u8 0, .int .u8 0, .int .u8 0, .int .u8 0, .int .u8 0, .int .u8 0, .int .u8 0, .int .u8 0, .int .u8 0, .int .u8 0, .int .u8 0, .int .u8 0, .int .u8 0, .int .u8 0, .int .u8 0, .int .u8 0, .int .u8 0, .int .u8 0, .int .u8 0, .int .u8 0, .int .u8 0, .int .u8 0, .int .u8 0, .int .u8 0]⟩),
  (218, ⟨.func, 1, 8, [.nilFunc]⟩),
  (220, ⟨.func, 1, 8, [.nilFunc]⟩),
  (221, ⟨.int .i64, 1, 8, [.int .i64 0]⟩),
  (222, ⟨.func, 1, 8, [.nilFunc]⟩),
  (223, ⟨.func, 1, 8, [.nilFunc]⟩),
  (224, ⟨.ptr 235, 1, 8, [.pointer none]⟩),
  (225, ⟨.func, 1, 8, [.nilFunc]⟩),
  (226, ⟨.func, 1, 8, [.nilFunc]⟩),
  (227, ⟨.func, 1, 8, [.nilFunc]⟩),
  (228, ⟨.func, 1, 8, [.nilFunc]⟩),
  (229, ⟨.func, 1, 8, [.nilFunc]⟩),
  (230, ⟨.arr 20 22, 20, 160, [.int .u64 0, .int .u64 0, .int .u64 0, .int .u64 0, .int .u64 0, .int .u64 0, .int .u64 0, .int .u64 0, .int .u64 0, .int .u64 0, .int .u64 0, .int .u64 0, .int .u64 0, .int .u64 0, .int .u64 0, .int .u64 0, .int .u64 0, .int .u64 0, .int .u64 0, .int .u64 0]⟩),
  (231, ⟨.arr 65 5, 65, 65, [.int .u8 0, .int .u8 0, .int .u8 0, .int .u8 0, .int .u8 0, .int .u8 0, .int .u8 0, .int .u8 0, .int .u8 0, .int .u8 0, .int .u8 0, .int .u8 0, .int .u8 0, .int .u8 0, .int .u8 0, .int .u8 0, .int .u8 0, .int .u8 0, .int .u8 0, .int .u8 0, .int .u8 0, .int .u8 0, .int .u8 0, .int .u8 0, .int .u8 0, .int .u8 0, .int .u8 0, .int .u8 0, .int .u8 0, .int .u8 0, .int .u8 0, .int .u8 0, .int .u8 0, .int .u8 0, .int .u8 0, .int .u8 0, .int .u8 0, .int .u8 0, .int .u8 0, .int .u8 0, .int .u8 0, .int .u8 0, .int .u8 0, .int .u8 0, .int .u8 0, .int .u8 0, .int .u8 0, .int .u8 0, .int .u8 0, .int .u8 0, .int .u8 0, .int .u8 0, .int .u8 0, .int .u8 0, .int .u8 0, .int .u8 0, .int .u8 0, .int .u8 0, .int .u8 0, .int .u8 0, .int .u8 0, .int .u8 0, .int .u8 0, .int .u8 0, .int .u8 0]⟩),
  (232, ⟨.func, 1, 8, [.nilFunc]⟩),
  (233, ⟨.func, 1, 8, [.nilFunc]⟩),
  (234, ⟨.st [(0, 9), (1, 9), (2, 172)], 3, 48, [.string ByteArray.empty, .string ByteArray.empty, .nilIface]⟩),
  (235, ⟨.st [(0, 9), (1, 9), (2, 172)], 3, 48, [.string ByteArray.empty, .string ByteArray.empty, .nilIface]⟩),
  (236, ⟨.func, 1, 8, [.nilFunc]⟩),
  (237, ⟨.func, 1, 8, [.nilFunc]⟩),
  (238, ⟨.func, 1, 8, [.nilFunc]⟩),
  (239, ⟨.ptr 5, 1, 8, [.pointer none]⟩),
  (240, ⟨.ptr 242, 1, 8, [.pointer none]⟩),
  (241, ⟨.st [(0, 9)], 1, 16, [.string ByteArray.empty]⟩),
  (242, ⟨.st [(0, 9)], 1, 16, [.string ByteArray.empty]⟩),
  (243, ⟨.arr 256 5, 256, 256, [.int .u8 0, .int .u8 0, .int .u8 0, .int .u8 0, .int .u8 0, .int .u8 0, .int .u8 0, .int .u8 0, .int .u8 0, .int .u8 0, .int .u8 0, .int .u8 0, .int .u8 0, .int .u8 0, .int .u8 0, .int .u8 0, .int .u8 0, .int .u8 0, .int .u8 0, .int .u8 0, .int .u8 0, .int .u8 0, .int .u8 0, .int .u8 0, .int .u8 0, .int .u8 0, .int .u8 0, .int .u8 0, .int .u8 0, .int .u8 0, .int .u8 0, .int .u8 0, .int .u8 0, .int .u8 0, .int .u8 0, .int .u8 0, .int .u8 0, .int .u8 0, .int .u8 0, .int .u8 0, .int .u8 0, .int .u8 0, .int .u8 0, .int .u8 0, .int .u8 0, .int .u8 0, .int .u8 0, .int .u8 0, .int .u8 0, .int .u8 0, .int .u8 0, .int .u8 0, .int .u8 0, .int .u8 0, .int .u8 0, .int .u8 0, .int .u8 0, .int .u8 0, .int .u8 0, .int .u8 0, .int .u8 0, .int .u8 0, .int .u8 0, .int .u8 0, .int .u8 0, .int .u8 0, .int .u8 0, .int .u8 0, .int .u8 0, .int .u8 0, .int .u8 0, .int .u8 0, .int .u8 0, .int .u8 0, .int .u8 0, .int .u8 0, .int .u8 0, .int .u8 0, .int .u8 0, .int .u8 0, .int .u8 0, .int .u8 0, .int .u8 0, .int .u8 0, .int .u8 0, .int .u8 0, .int .u8 0, .int .u8 0, .int .u8 0, .int .u8 0, .int .u8 0, .int .u8 0, .int .u8 0, .int .u8 0, .int .u8 0, .int .u8 0, .int .u8 0, .int .u8 0, .int .u8 0, .int .u8 0, .int .u8 0, .int .u8 0, .int .u8 0, .int .u8 0, .int .u8 0, .int .u8 0, .int .u8 0, .int .u8 0, .int .u8 0, .int .u8 0, .int .u8 0, .int .u8 0, .int .u8 0, .int .u8 0, .int .u8 0, .int .u8 0, .int .u8 0, .int .u8 0, .int .u8 0, .int .u8 0, .int .u8 0, .int .u8 0, .int .u8 0, .int .u8 0, .int .u8 0, .int .u8 0, .int .u8 0, .int .u8 0, .int .u8 0, .int .u8 0, .int .u8 0, .int .u8 0, .int .u8 0, .int .u8 0, .int .u8 0, .int .u8 0, .int .u8 0, .int .u8 0, .int .u8 0, .int .u8 0, .int .u8 0, .int .u8 0, .int .u8 0, .int .u8 0, .int .u8 0, .int .u8 0, .int .u8 0, .int .u8 0, .int .u8 0, .int .u8 0, .int .u8 0, .int .u8 0, .int .u8 0, .int .u8 0, .int .u8 0, .int .u8 0, .int .u8 0, .int .u8 0, .int .u8 0, .int .u8 0, .int .u8 0, .int .u8 0, .int .u8 0, .int .u8 0, .int .u8 0, .int .u8 0, .int .u8 0, .int .u8 0, .int .u8 0, .int .u8 0, .int .u8 0, .int .u8 0, .int .u8 0, .int .u8 0, .int .u8 0, .int .u8 0, .int .u8 0, .int .u8 0, .int .u8 0, .int .u8 0, .int .u8 0, .int .u8 0, .int .u8 0, .int .u8 0, .int .u8 0, .int .u8 0, .int .u8 0, .int .u8 0, .int .u8 0, .int .u8 0, .int .u8 0, .int .u8 0, .int .u8 0, .int .u8 0, .int .u8 0, .int .u8 0, .int .u8 0, .int .u8 0, .int .u8 0, .int .u8 0, .int .u8 0, .int .u8 0, .int .u8 0, .int .u8 0, .int .u8 0, .int .u8 0, .int .u8 0, .int .u8 0, .int .u8 0, .int .u8 0, .int .u8 0, .int .u8 0, .int .u8 0, .int .u8 0, .int .u8 0, .int .u8 0, .int .u8 0, .int .u8 0, .int .u8 0, .int .u8 0, .int .u8 0, .int .u8 0, .int .u8 0, .int .u8 0, .int .u8 0, .int .u8 0, .int .u8 0, .int .u8 0, .int .u8 0, .int .u8 0, .int .u8 0, .int .u8 0, .int .u8 0, .int .u8 0, .int .u8 0, .int .u8 0, .int .u8 0, .int .u8 0, .int .u8 0, .int .u8 0, .int .u8 0, .int .u8 0, .int .u8 0, .int .u8 0, .int .u8 0, .int .u8 0, .int .u8 0, .int .u8 0, .int .u8 0, .int .u8 0, .int .u8 0, .int .u8 0, .int .u8 0, .int .u8 0, .int .u8 0, .int .u8 0]⟩),
  (244, ⟨.st [(0, 5), (1, 5)], 2, 2, [.int .u8 0, .int .u8 0]⟩),
  (245, ⟨.st [(0, 5), (1, 5)], 2, 2, [.int .u8 0, .int .u8 0]⟩),
  (246, ⟨.arr 16 245, 32, 32, [.int .u8 0, .int .u8 0, .int .u8 0, .int .u8 0, .int .u8 0, .int .u8 0, .int .u8 0, .int .u8 0, .int .u8 0, .int .u8 0, .int .u8 0, .int .u8 0, .int .u8 0, .int .u8 0, .int .u8 0, .int .u8 0, .int .u8 0, .int .u8 0, .int .u8 0, .int .u8 0, .int .u8 0, .int .u8 0, .int .u8 0, .int .u8 0, .int .u8 0, .int .u8 0, .int .u8 0, .int .u8 0, .int .u8 0, .int .u8 0, .int .u8 0, .int .u8 0]⟩),
  (247, ⟨.arr 32 5, 32, 32, [.int .u8 0, .int .u8 0, .int .u8 0, .int .u8 0, .int .u8 0, .int .u8 0, .int .u8 0, .int .u8 0, .int .u8 0, .int .u8 0, .int .u8 0, .int .u8 0, .int .u8 0, .int .u8 0, .int .u8 0, .int .u8 0, .int .u8 0, .int .u8 0, .int .u8 0, .int .u8 0, .int .u8 0, .int .u8 0, .int .u8 0, .int .u8 0, .int .u8 0, .int .u8 0, .int .u8 0, .int .u8 0, .int .u8 0, .int .u8 0, .int .u8 0, .int .u8 0]⟩),
  (248, ⟨.arr 64 5, 64, 64, [.int .u8 0, .int .u8 0, .int .u8 0, .int .u8 0, .int .u8 0, .int .u8 0, .int .u8 0, .int .u8 0, .int .u8 0, .int .u8 0, .int .u8 0, .int .u8 0, .int .u8 0, .int .u8 0, .int .u8 0, .int .u8 0, .int .u8 0, .int .u8 0, .int .u8 0, .int .u8 0, .int .u8 0, .int .u8 0, .int .u8 0, .int .u8 0, .int .u8 0, .int .u8 0, .int .u8 0, .int .u8 0, .int .u8 0, .int .u8 0, .int .u8 0, .int .u8 0, .int .u8 0, .int .u8 0, .int .u8 0, .int .u8 0, .int .u8 0, .int .u8 0, .int .u8 0, .int .u8 0, .int .u8 0, .int .u8 0, .int .u8 0, .int .u8 0, .int .u8 0, .int .u8 0, .int .u8 0, .int .u8 0, .int .u8 0, .int .u8 0, .int .u8 0, .int .u8 0, .int .u8 0, .int .u8 0, .int .u8 0, .int .u8 0, .int .u8 0, .int .u8 0, .int .u8 0, .int .u8 0, .int .u8 0, .int .u8 0, .int .u8 0, .int .u8 0]⟩),
  (249, ⟨.func, 1, 8, [.nilFunc]⟩),
  (250, ⟨.func, 1, 8, [.nilFunc]⟩),
  (251, ⟨.st [(0, 17), (1, 17), (2, 17), (3, 9)], 4, 40, [.pointer none, .pointer none, .pointer none, .string ByteArray.empty]⟩),
  (252, ⟨.st [(0, 17), (1, 17), (2, 17), (3, 9)], 4, 40, [.pointer none, .pointer none, .pointer none, .string ByteArray.empty]⟩),
  (253, ⟨.arr 0 16, 0, 0, []⟩),
  (254, ⟨.st [(0, 253)], 0, 0, []⟩),
  (255, ⟨.st [(0, 253)], 0, 0, []⟩),
  (256, ⟨.int .u8, 1, 1, [.int .u8 0]⟩),
  (257, ⟨.int .u8, 1, 1, [.int .u8 0]⟩),
  (258, ⟨.func, 1, 8, [.nilFunc]⟩),
  (259, ⟨.int .i32, 1, 4, [.int .i32 0]⟩),
  (260, ⟨.int .i32, 1, 4, [.int .i32 0]⟩),
  (261, ⟨.st [(0, 12), (1, 12), (2, 150), (3, 256), (4, 5), (5, 5), (6, 257), (7, 258), (8, 239), (9, 259), (10, 260)], 11, 48, [.int .u64 0, .int .u64 0, .int .u32 0, .int .u8 0, .int .u8 0, .int .u8 0, .int .u8 0, .nilFunc, .pointer none, .int .i32 0, .int .i32 0]⟩),
  (262, ⟨.st [(0, 12), (1, 12), (2, 150), (3, 256), (4, 5), (5, 5), (6, 257), (7, 258), (8, 239), (9, 259), (10, 260)], 11, 48, [.int .u64 0, .int .u64 0, .int .u32 0, .int .u8 0, .int .u8 0, .int .u8 0, .int .u8 0, .nilFunc, .pointer none, .int .i32 0, .int .i32 0]⟩),
  (263, ⟨.func, 1, 8, [.nilFunc]⟩)]
set_option maxRecDepth 100000 in
theorem tab_ok : TabOk Go.Proofs.Tryz.prog tab :=
  .cons (.mk' (z := .nilFunc) ⟨_, _, _, Go.Proofs.Tryz.underlying1⟩ (by kernel_rfl) rfl (fun h => rfl))
  (.cons (.mk' (z := .int .i64 0) Go.Proofs.Tryz.underlying2 (by kernel_rfl) rfl (fun h => rfl))
  (.cons (.mk' (z := .int .i64 0) Go.Proofs.Tryz.underlying3 (by kernel_rfl) rfl (fun h => rfl))
  (.cons (.mk' (z := .bool false) Go.Proofs.Tryz.underlying4 (by kernel_rfl) rfl (fun h => rfl))
  (.cons (.mk' (z := .int .u8 0) Go.Proofs.Tryz.underlying5 (by kernel_rfl) rfl (fun h => rfl))
  (.cons (.mk' (z := .int .u8 0) Go.Proofs.Tryz.underlying6 (by kernel_rfl) rfl (fun h => rfl))
  (.cons (.mk' (z := .agg #[.int .i64 0, .int .i64 0, .bool false, .int .u8 0]) ⟨_, Go.Proofs.Tryz.underlying7, rfl⟩ (by kernel_rfl) rfl (fun h => by cases h))
  (.cons (.mk' (z := .agg #[.int .i64 0, .int .i64 0, .bool false, .int .u8 0]) ⟨_, Go.Proofs.Tryz.underlying8, rfl⟩ (by kernel_rfl) rfl (fun h => by cases h))
  (.cons (.mk' (z := .string ByteArray.empty) Go.Proofs.Tryz.underlying9 (by kernel_rfl) rfl (fun h => rfl))
  (.cons (.mk' (z := .string ByteArray.empty) Go.Proofs.Tryz.underlying10 (by kernel_rfl) rfl (fun h => rfl))
  (.cons (.mk' (z := .string ByteArray.empty) Go.Proofs.Tryz.underlying11 (by kernel_rfl) rfl (fun h => rfl))
  (.cons (.mk' (z := .int .u64 0) Go.Proofs.Tryz.underlying12 (by kernel_rfl) rfl (fun h => rfl))
  (.cons (.mk' (z := .agg #[.string ByteArray.empty, .int .u64 0]) ⟨_, Go.Proofs.Tryz.underlying13, rfl⟩ (by kernel_rfl) rfl (fun h => by cases h))
  (.cons (.mk' (z := .agg #[.string ByteArray.empty, .int .u64 0]) ⟨_, Go.Proofs.Tryz.underlying14, rfl⟩ (by kernel_rfl) rfl (fun h => by cases h))
  (.cons (.mk' (z := .pointer none) Go.Proofs.Tryz.underlying15 (by kernel_rfl) rfl (fun h => rfl))
  (.cons (.mk' (z := .pointer none) Go.Proofs.Tryz.underlying16 (by kernel_rfl) rfl (fun h => rfl))
  (.cons (.mk' (z := .pointer none) Go.Proofs.Tryz.underlying17 (by kernel_rfl) rfl (fun h => rfl))
  (.cons (.mk' (z := .agg #[.pointer none]) ⟨_, Go.Proofs.Tryz.underlying18, rfl⟩ (by kernel_rfl) rfl (fun h => by cases h))
  (.cons (.mk' (z := .agg #[.pointer none]) ⟨_, Go.Proofs.Tryz.underlying19, rfl⟩ (by kernel_rfl) rfl (fun h => by cases h))
  (.cons (.mk' (z := .nilIface) ⟨_, Go.Proofs.Tryz.underlying20⟩ (by kernel_rfl) rfl (fun h => rfl))
  (.cons (.mk' (z := .int .i32 0) Go.Proofs.Tryz.underlying21 (by kernel_rfl) rfl (fun h => rfl))
  (.cons (.mk' (z := .int .u64 0) Go.Proofs.Tryz.underlying22 (by kernel_rfl) rfl (fun h => rfl))
  (.cons (.mk' (z := .slice none 0 0) Go.Proofs.Tryz.underlying23 (by kernel_rfl) rfl (fun h => rfl))
  (.cons (.mk' (z := .nilFunc) ⟨_, _, _, Go.Proofs.Tryz.underlying24⟩ (by kernel_rfl) rfl (fun h => rfl))
  (.cons (.mk' (z := .pointer none) Go.Proofs.Tryz.underlying25 (by kernel_rfl) rfl (fun h => rfl))
  (.cons (.mk' (z := .nilFunc) ⟨_, _, _, Go.Proofs.Tryz.underlying26⟩ (by kernel_rfl) rfl (fun h => rfl))
  (.cons (.mk' (z := .slice none 0 0) Go.Proofs.Tryz.underlying27 (by kernel_rfl) rfl (fun h => rfl))
  (.cons (.mk' (z := .nilFunc) ⟨_, _, _, Go.Proofs.Tryz.underlying28⟩ (by kernel_rfl) rfl (fun h => rfl))
  (.cons (.mk' (z := .nilFunc) ⟨_, _, _, Go.Proofs.Tryz.underlying29⟩ (by kernel_rfl) rfl (fun h => rfl))
  (.cons (.mk' (z := .nilFunc) ⟨_, _, _, Go.Proofs.Tryz.underlying31⟩ (by kernel_rfl) rfl (fun h => rfl))
  (.cons (.mk' (z := .nilFunc) ⟨_, _, _, Go.Proofs.Tryz.underlying33⟩ (by kernel_rfl) rfl (fun h => rfl))
  (.cons (.mk' (z := .nilFunc) ⟨_, _, _, Go.Proofs.Tryz.underlying34⟩ (by kernel_rfl) rfl (fun h => rfl))
  (.cons (.mk' (z := .nilFunc) ⟨_, _, _, Go.Proofs.Tryz.underlying35⟩ (by kernel_rfl) rfl (fun h => rfl))
  (.cons (.mk' (z := .slice none 0 0) Go.Proofs.Tryz.underlying36 (by kernel_rfl) rfl (fun h => rfl))
  (.cons (.mk' (z := .nilFunc) ⟨_, _, _, Go.Proofs.Tryz.underlying37⟩ (by kernel_rfl) rfl (fun h => rfl))
  (.cons (.mk' (z := .nilFunc) ⟨_, _, _, Go.Proofs.Tryz.underlying38⟩ (by kernel_rfl) rfl (fun h => rfl))
  (.cons (.mk' (z := .slice none 0 0) Go.Proofs.Tryz.underlying39 (by kernel_rfl) rfl (fun h => rfl))
  (.cons (.mk' (z := .agg #[.int .i64 0, .int .i64 0, .int .u64 0, .int .i64 0]) ⟨_, Go.Proofs.Tryz.underlying40, rfl⟩ (by kernel_rfl) rfl (fun h => by cases h))
  (.cons (.mk' (z := .agg #[.int .i64 0, .int .i64 0, .int .u64 0, .int .i64 0]) ⟨_, Go.Proofs.Tryz.underlying41, rfl⟩ (by kernel_rfl) rfl (fun h => by cases h))
  (.cons (.mk' (z := .nilFunc) ⟨_, _, _, Go.Proofs.Tryz.underlying42⟩ (by kernel_rfl) rfl (fun h => rfl))
  (.cons (.mk' (z := .nilFunc) ⟨_, _, _, Go.Proofs.Tryz.underlying43⟩ (by kernel_rfl) rfl (fun h => rfl))
  (.cons (.mk' (z := .nilFunc) ⟨_, _, _, Go.Proofs.Tryz.underlying44⟩ (by kernel_rfl) rfl (fun h => rfl))
  (.cons (.mk' (z := .nilFunc) ⟨_, _, _, Go.Proofs.Tryz.underlying45⟩ (by kernel_rfl) rfl (fun h => rfl))
  (.cons (.mk' (z := .pointer none) Go.Proofs.Tryz.underlying46 (by kernel_rfl) rfl (fun h => rfl))
  (.cons (.mk' (z := .nilFunc) ⟨_, _, _, Go.Proofs.Tryz.underlying47⟩ (by kernel_rfl) rfl (fun h => rfl))
  (.cons (.mk' (z := .nilFunc) ⟨_, _, _, Go.Proofs.Tryz.underlying48⟩ (by kernel_rfl) rfl (fun h => rfl))
  (.cons (.mk' (z := .nilFunc) ⟨_, _, _, Go.Proofs.Tryz.underlying49⟩ (by kernel_rfl) rfl (fun h => rfl))
  (.cons (.mk' (z := .nilFunc) ⟨_, _, _, Go.Proofs.Tryz.underlying51⟩ (by kernel_rfl) rfl (fun h => rfl))
  (.cons (.mk' (z := .nilFunc) ⟨_, _, _, Go.Proofs.Tryz.underlying52⟩ (by kernel_rfl) rfl (fun h => rfl))
  (.cons (.mk' (z := .nilFunc) ⟨_, _, _, Go.Proofs.Tryz.underlying53⟩ (by kernel_rfl) rfl (fun h => rfl))
  (.cons (.mk' (z := .pointer none) Go.Proofs.Tryz.underlying54 (by kernel_rfl) rfl (fun h => rfl))
  (.cons (.mk' (z := .nilFunc) ⟨_, _, _, Go.Proofs.Tryz.underlying55⟩ (by kernel_rfl) rfl (fun h => rfl))
  (.cons (.mk' (z := .nilFunc) ⟨_, _, _, Go.Proofs.Tryz.underlying56⟩ (by kernel_rfl) rfl (fun h => rfl))
  (.cons (.mk' (z := .agg #[.slice none 0 0, .slice none 0 0, .slice none 0 0, .int .i64 0, .int .i64 0]) ⟨_, Go.Proofs.Tryz.underlying57, rfl⟩ (by kernel_rfl) rfl (fun h => by cases h))
  (.cons (.mk' (z := .agg #[.slice none 0 0, .slice none 0 0, .slice none 0 0, .int .i64 0, .int .i64 0]) ⟨_, Go.Proofs.Tryz.underlying58, rfl⟩ (by kernel_rfl) rfl (fun h => by cases h))
  (.cons (.mk' (z := .agg #[.slice none 0 0, .slice none 0 0, .slice none 0 0, .int .i64 0, .int .i64 0]) ⟨_, Go.Proofs.Tryz.underlying59, rfl⟩ (by kernel_rfl) rfl (fun h => by cases h))
  (.cons (.mk' (z := .nilFunc) ⟨_, _, _, Go.Proofs.Tryz.underlying61⟩ (by kernel_rfl) rfl (fun h => rfl))
  (.cons (.mk' (z := .agg #[.int .i64 0, .int .i64 0, .int .i64 0, .int .i64 0, .int .i64 0, .int .u64 0, .int .i64 0, .int .i64 0]) ⟨_, Go.Proofs.Tryz.underlying62, rfl⟩ (by kernel_rfl) rfl (fun h => by cases h))
  (.cons (.mk' (z := .agg #[.int .i64 0, .int .i64 0, .int .i64 0, .int .i64 0, .int .i64 0, .int .u64 0, .int .i64 0, .int .i64 0]) ⟨_, Go.Proofs.Tryz.underlying63, rfl⟩ (by kernel_rfl) rfl (fun h => by cases h))
  (.cons (.mk' (z := .nilFunc) ⟨_, _, _, Go.Proofs.Tryz.underlying64⟩ (by kernel_rfl) rfl (fun h => rfl))
  (.cons (.mk' (z := .nilFunc) ⟨_, _, _, Go.Proofs.Tryz.underlying65⟩ (by kernel_rfl) rfl (fun h => rfl))
  (.cons (.mk' (z := .slice none 0 0) Go.Proofs.Tryz.underlying66 (by kernel_rfl) rfl (fun h => rfl))
  (.cons (.mk' (z := .nilFunc) ⟨_, _, _, Go.Proofs.Tryz.underlying67⟩ (by kernel_rfl) rfl (fun h => rfl))
  (.cons (.mk' (z := .nilFunc) ⟨_, _, _, Go.Proofs.Tryz.underlying68⟩ (by kernel_rfl) rfl (fun h => rfl))
  (.cons (.mk' (z := .slice none 0 0) Go.Proofs.Tryz.underlying69 (by kernel_rfl) rfl (fun h => rfl))
  (.cons (.mk' (z := .nilFunc) ⟨_, _, _, Go.Proofs.Tryz.underlying70⟩ (by kernel_rfl) rfl (fun h => rfl))
  (.cons (.mk' (z := .nilFunc) ⟨_, _, _, Go.Proofs.Tryz.underlying71⟩ (by kernel_rfl) rfl (fun h => rfl))
  (.cons (.mk' (z := .nilFunc) ⟨_, _, _, Go.Proofs.Tryz.underlying72⟩ (by kernel_rfl) rfl (fun h => rfl))
  (.cons (.mk' (z := .nilFunc) ⟨_, _, _, Go.Proofs.Tryz.underlying73⟩ (by kernel_rfl) rfl (fun h => rfl))
  (.cons (.mk' (z := .nilFunc) ⟨_, _, _, Go.Proofs.Tryz.underlying74⟩ (by kernel_rfl) rfl (fun h => rfl))
  (.cons (.mk' (z := .nilFunc) ⟨_, _, _, Go.Proofs.Tryz.underlying76⟩ (by kernel_rfl) rfl (fun h => rfl))
  (.cons (.mk' (z := .nilFunc) ⟨_, _, _, Go.Proofs.Tryz.underlying77⟩ (by kernel_rfl) rfl (fun h => rfl))
  (.cons (.mk' (z := .nilFunc) ⟨_, _, _, Go.Proofs.Tryz.underlying78⟩ (by kernel_rfl) rfl (fun h => rfl))
  (.cons (.mk' (z := .agg #[.int .i64 0, .int .i64 0]) ⟨_, Go.Proofs.Tryz.underlying79, rfl⟩ (by kernel_rfl) rfl (fun h => by cases h))
  (.cons (.mk' (z := .agg #[.int .i64 0, .int .i64 0]) ⟨_, Go.Proofs.Tryz.underlying80, rfl⟩ (by kernel_rfl) rfl (fun h => by cases h))
  (.cons (.mk' (z := .nilFunc) ⟨_, _, _, Go.Proofs.Tryz.underlying81⟩ (by kernel_rfl) rfl (fun h => rfl))
  (.cons (.mk' (z := .pointer none) Go.Proofs.Tryz.underlying82 (by kernel_rfl) rfl (fun h => rfl))
  (.cons (.mk' (z := .nilFunc) ⟨_, _, _, Go.Proofs.Tryz.underlying83⟩ (by kernel_rfl) rfl (fun h => rfl))
  (.cons (.mk' (z := .pointer none) Go.Proofs.Tryz.underlying84 (by kernel_rfl) rfl (fun h => rfl))
  (.cons (.mk' (z := .nilFunc) ⟨_, _, _, Go.Proofs.Tryz.underlying85⟩ (by kernel_rfl) rfl (fun h => rfl))
  (.cons (.mk' (z := .pointer none) Go.Proofs.Tryz.underlying86 (by kernel_rfl) rfl (fun h => rfl))
  (.cons (.mk' (z := .nilFunc) ⟨_, _, _, Go.Proofs.Tryz.underlying87⟩ (by kernel_rfl) rfl (fun h => rfl))
  (.cons (.mk' (z := .pointer none) Go.Proofs.Tryz.underlying88 (by kernel_rfl) rfl (fun h => rfl))
  (.cons (.mk' (z := .nilFunc) ⟨_, _, _, Go.Proofs.Tryz.underlying89⟩ (by kernel_rfl) rfl (fun h => rfl))
  (.cons (.mk' (z := .nilFunc) ⟨_, _, _, Go.Proofs.Tryz.underlying90⟩ (by kernel_rfl) rfl (fun h => rfl))
  (.cons (.mk' (z := .nilFunc) ⟨_, _, _, Go.Proofs.Tryz.underlying91⟩ (by kernel_rfl) rfl (fun h => rfl))
  (.cons (.mk' (z := .nilFunc) ⟨_, _, _, Go.Proofs.Tryz.underlying92⟩ (by kernel_rfl) rfl (fun h => rfl))
  (.cons (.mk' (z := .nilFunc) ⟨_, _, _, Go.Proofs.Tryz.underlying94⟩ (by kernel_rfl) rfl (fun h => rfl))
  (.cons (.mk' (z := .nilFunc) ⟨_, _, _, Go.Proofs.Tryz.underlying95⟩ (by kernel_rfl) rfl (fun h => rfl))
  (.cons (.mk' (z := .nilFunc) ⟨_, _, _, Go.Proofs.Tryz.underlying96⟩ (by kernel_rfl) rfl (fun h => rfl))
  (.cons (.mk' (z := .map none) Go.Proofs.Tryz.underlying97 (by kernel_rfl) rfl (fun h => rfl))
  (.cons (.mk' (z := .map none) Go.Proofs.Tryz.underlying98 (by kernel_rfl) rfl (fun h => rfl))
  (.cons (.mk' (z := .agg #[.int .i64 0, .bool false, .int .i64 0, .int .u64 0, .int .u64 0, .map none, .map none, .int .i64 0, .bool false, .int .i64 0, .int .u64 0, .slice none 0 0, .int .u64 0, .int .i64 0]) ⟨_, Go.Proofs.Tryz.underlying99, rfl⟩ (by kernel_rfl) rfl (fun h => by cases h))
  (.cons (.mk' (z := .agg #[.int .i64 0, .bool false, .int .i64 0, .int .u64 0, .int .u64 0, .map none, .map none, .int .i64 0, .bool false, .int .i64 0, .int .u64 0, .slice none 0 0, .int .u64 0, .int .i64 0]) ⟨_, Go.Proofs.Tryz.underlying100, rfl⟩ (by kernel_rfl) rfl (fun h => by cases h))
  (.cons (.mk' (z := .nilFunc) ⟨_, _, _, Go.Proofs.Tryz.underlying101⟩ (by kernel_rfl) rfl (fun h => rfl))
  (.cons (.mk' (z := .nilFunc) ⟨_, _, _, Go.Proofs.Tryz.underlying102⟩ (by kernel_rfl) rfl (fun h => rfl))
  (.cons (.mk' (z := .nilFunc) ⟨_, _, _, Go.Proofs.Tryz.underlying103⟩ (by kernel_rfl) rfl (fun h => rfl))
  (.cons (.mk' (z := .int .u64 0) Go.Proofs.Tryz.underlying104 (by kernel_rfl) rfl (fun h => rfl))
  (.cons (.mk' (z := .agg #[.int .u64 0, .int .u64 0, .int .u64 0, .int .i64 0, .bool false, .int .i64 0, .pointer none, .bool false, .bool false, .int .i64 0]) ⟨_, Go.Proofs.Tryz.underlying105, rfl⟩ (by kernel_rfl) rfl (fun h => by cases h))
  (.cons (.mk' (z := .agg #[.int .u64 0, .int .u64 0, .int .u64 0, .int .i64 0, .bool false, .int .i64 0, .pointer none, .bool false, .bool false, .int .i64 0]) ⟨_, Go.Proofs.Tryz.underlying106, rfl⟩ (by kernel_rfl) rfl (fun h => by cases h))
  (.cons (.mk' (z := .nilFunc) ⟨_, _, _, Go.Proofs.Tryz.underlying107⟩ (by kernel_rfl) rfl (fun h => rfl))
  (.cons (.mk' (z := .nilFunc) ⟨_, _, _, Go.Proofs.Tryz.underlying108⟩ (by kernel_rfl) rfl (fun h => rfl))
  (.cons (.mk' (z := .nilFunc) ⟨_, _, _, Go.Proofs.Tryz.underlying109⟩ (by kernel_rfl) rfl (fun h => rfl))
  (.cons (.mk' (z := .agg #[.int .u64 0, .bool false]) ⟨_, Go.Proofs.Tryz.underlying110, rfl⟩ (by kernel_rfl) rfl (fun h => by cases h))
  (.cons (.mk' (z := .agg #[.int .u64 0, .bool false]) ⟨_, Go.Proofs.Tryz.underlying111, rfl⟩ (by kernel_rfl) rfl (fun h => by cases h))
  (.cons (.mk' (z := .agg #[.int .i64 0, .int .i64 0, .int .i64 0, .int .i64 0, .pointer none, .int .u64 0, .bool false, .int .u64 0, .bool false, .bool false, .int .i64 0]) ⟨_, Go.Proofs.Tryz.underlying112, rfl⟩ (by kernel_rfl) rfl (fun h => by cases h))
  (.cons (.mk' (z := .agg #[.int .i64 0, .int .i64 0, .int .i64 0, .int .i64 0, .pointer none, .int .u64 0, .bool false, .int .u64 0, .bool false, .bool false, .int .i64 0]) ⟨_, Go.Proofs.Tryz.underlying113, rfl⟩ (by kernel_rfl) rfl (fun h => by cases h))
  (.cons (.mk' (z := .agg #[.slice none 0 0, .slice none 0 0, .slice none 0 0]) Go.Proofs.Tryz.underlying114 (by kernel_rfl) rfl (fun h => by cases h))
  (.cons (.mk' (z := .nilFunc) ⟨_, _, _, Go.Proofs.Tryz.underlying115⟩ (by kernel_rfl) rfl (fun h => rfl))
  (.cons (.mk' (z := .nilFunc) ⟨_, _, _, Go.Proofs.Tryz.underlying116⟩ (by kernel_rfl) rfl (fun h => rfl))
  (.cons (.mk' (z := .nilFunc) ⟨_, _, _, Go.Proofs.Tryz.underlying117⟩ (by kernel_rfl) rfl (fun h => rfl))
  (.cons (.mk' (z := .nilFunc) ⟨_, _, _, Go.Proofs.Tryz.underlying118⟩ (by kernel_rfl) rfl (fun h => rfl))
  (.cons (.mk' (z := .nilFunc) ⟨_, _, _, Go.Proofs.Tryz.underlying119⟩ (by kernel_rfl) rfl (fun h => rfl))
  (.cons (.mk' (z := .nilFunc) ⟨_, _, _, Go.Proofs.Tryz.underlying120⟩ (by kernel_rfl) rfl (fun h => rfl))
  (.cons (.mk' (z := .slice none 0 0) Go.Proofs.Tryz.underlying121 (by kernel_rfl) rfl (fun h => rfl))
  (.cons (.mk' (z := .nilFunc) ⟨_, _, _, Go.Proofs.Tryz.underlying122⟩ (by kernel_rfl) rfl (fun h => rfl))
  (.cons (.mk' (z := .map none) Go.Proofs.Tryz.underlying123 (by kernel_rfl) rfl (fun h => rfl))
  (.cons (.mk' (z := .agg #[.map none, .int .u64 0, .bool false, .int .u64 0, .bool false]) ⟨_, Go.Proofs.Tryz.underlying124, rfl⟩ (by kernel_rfl) rfl (fun h => by cases h))
  (.cons (.mk' (z := .agg #[.map none, .int .u64 0, .bool false, .int .u64 0, .bool false]) ⟨_, Go.Proofs.Tryz.underlying125, rfl⟩ (by kernel_rfl) rfl (fun h => by cases h))
  (.cons (.mk' (z := .slice none 0 0) Go.Proofs.Tryz.underlying126 (by kernel_rfl) rfl (fun h => rfl))
  (.cons (.mk' (z := .agg #[.slice none 0 0, .int .u64 0, .bool false]) ⟨_, Go.Proofs.Tryz.underlying127, rfl⟩ (by kernel_rfl) rfl (fun h => by cases h))
  (.cons (.mk' (z := .agg #[.slice none 0 0, .int .u64 0, .bool false]) ⟨_, Go.Proofs.Tryz.underlying128, rfl⟩ (by kernel_rfl) rfl (fun h => by cases h))
  (.cons (.mk' (z := .agg #[.bool false, .int .i64 0, .int .i64 0, .int .i64 0]) ⟨_, Go.Proofs.Tryz.underlying129, rfl⟩ (by kernel_rfl) rfl (fun h => by cases h))
  (.cons (.mk' (z := .agg #[.bool false, .int .i64 0, .int .i64 0, .int .i64 0]) ⟨_, Go.Proofs.Tryz.underlying130, rfl⟩ (by kernel_rfl) rfl (fun h => by cases h))
  (.cons (.mk' (z := .agg #[.int .i64 0, .int .u64 0]) ⟨_, Go.Proofs.Tryz.underlying131, rfl⟩ (by kernel_rfl) rfl (fun h => by cases h))
  (.cons (.mk' (z := .agg #[.int .i64 0, .int .u64 0]) ⟨_, Go.Proofs.Tryz.underlying132, rfl⟩ (by kernel_rfl) rfl (fun h => by cases h))
  (.cons (.mk' (z := .slice none 0 0) Go.Proofs.Tryz.underlying133 (by kernel_rfl) rfl (fun h => rfl))
  (.cons (.mk' (z := .agg #[.slice none 0 0]) ⟨_, Go.Proofs.Tryz.underlying134, rfl⟩ (by kernel_rfl) rfl (fun h => by cases h))
  (.cons (.mk' (z := .agg #[.slice none 0 0]) ⟨_, Go.Proofs.Tryz.underlying135, rfl⟩ (by kernel_rfl) rfl (fun h => by cases h))
  (.cons (.mk' (z := .nilFunc) ⟨_, _, _, Go.Proofs.Tryz.underlying136⟩ (by kernel_rfl) rfl (fun h => rfl))
  (.cons (.mk' (z := .nilFunc) ⟨_, _, _, Go.Proofs.Tryz.underlying137⟩ (by kernel_rfl) rfl (fun h => rfl))
  (.cons (.mk' (z := .agg #[.int .u64 0, .int .i64 0, .int .i64 0]) ⟨_, Go.Proofs.Tryz.underlying138, rfl⟩ (by kernel_rfl) rfl (fun h => by cases h))
  (.cons (.mk' (z := .agg #[.int .u64 0, .int .i64 0, .int .i64 0]) ⟨_, Go.Proofs.Tryz.underlying139, rfl⟩ (by kernel_rfl) rfl (fun h => by cases h))
  (.cons (.mk' (z := .pointer none) Go.Proofs.Tryz.underlying140 (by kernel_rfl) rfl (fun h => rfl))
  (.cons (.mk' (z := .nilFunc) ⟨_, _, _, Go.Proofs.Tryz.underlying141⟩ (by kernel_rfl) rfl (fun h => rfl))
  (.cons (.mk' (z := .nilFunc) ⟨_, _, _, Go.Proofs.Tryz.underlying142⟩ (by kernel_rfl) rfl (fun h => rfl))
  (.cons (.mk' (z := .nilFunc) ⟨_, _, _, Go.Proofs.Tryz.underlying143⟩ (by kernel_rfl) rfl (fun h => rfl))
  (.cons (.mk' (z := .slice none 0 0) Go.Proofs.Tryz.underlying144 (by kernel_rfl) rfl (fun h => rfl))
  (.cons (.mk' (z := .nilFunc) ⟨_, _, _, Go.Proofs.Tryz.underlying145⟩ (by kernel_rfl) rfl (fun h => rfl))
  (.cons (.mk' (z := .nilFunc) ⟨_, _, _, Go.Proofs.Tryz.underlying146⟩ (by kernel_rfl) rfl (fun h => rfl))
  (.cons (.mk' (z := .slice none 0 0) Go.Proofs.Tryz.underlying147 (by kernel_rfl) rfl (fun h => rfl))
  (.cons (.mk' (z := .nilFunc) ⟨_, _, _, Go.Proofs.Tryz.underlying149⟩ (by kernel_rfl) rfl (fun h => rfl))
  (.cons (.mk' (z := .int .u32 0) Go.Proofs.Tryz.underlying150 (by kernel_rfl) rfl (fun h => rfl))
  (.cons (.mk' (z := .agg #[.int .u8 0, .int .u8 0, .int .u8 0]) Go.Proofs.Tryz.underlying151 (by kernel_rfl) rfl (fun h => by cases h))
  (.cons (.mk' (z := .agg #[.int .i64 0, .int .i64 0, .int .i64 0, .int .i64 0, .int .i64 0, .int .i64 0, .int .i64 0, .bool false, .int .u64 0, .int .u64 0, .int .u32 0, .int .i64 0, .int .u8 0, .int .u8 0, .int .u8 0]) ⟨_, Go.Proofs.Tryz.underlying152, rfl⟩ (by kernel_rfl) rfl (fun h => by cases h))
  (.cons (.mk' (z := .agg #[.int .i64 0, .int .i64 0, .int .i64 0, .int .i64 0, .int .i64 0, .int .i64 0, .int .i64 0, .bool false, .int .u64 0, .int .u64 0, .int .u32 0, .int .i64 0, .int .u8 0, .int .u8 0, .int .u8 0]) ⟨_, Go.Proofs.Tryz.underlying153, rfl⟩ (by kernel_rfl) rfl (fun h => by cases h))
  (.cons (.mk' (z := .agg #[.int .i64 0, .string ByteArray.empty]) ⟨_, Go.Proofs.Tryz.underlying154, rfl⟩ (by kernel_rfl) rfl (fun h => by cases h))
  (.cons (.mk' (z := .agg #[.int .i64 0, .string ByteArray.empty]) ⟨_, Go.Proofs.Tryz.underlying155, rfl⟩ (by kernel_rfl) rfl (fun h => by cases h))
  (.cons (.mk' (z := .slice none 0 0) Go.Proofs.Tryz.underlying156 (by kernel_rfl) rfl (fun h => rfl))
  (.cons (.mk' (z := .agg #[.int .i64 0, .int .i64 0, .int .i64 0, .int .i64 0, .int .i64 0, .int .i64 0, .int .i64 0, .bool false, .int .u64 0, .int .u64 0, .int .u32 0, .int .i64 0, .int .u8 0, .int .u8 0, .int .u8 0, .slice none 0 0, .string ByteArray.empty]) ⟨_, Go.Proofs.Tryz.underlying157, rfl⟩ (by kernel_rfl) rfl (fun h => by cases h))
  (.cons (.mk' (z := .agg #[.int .i64 0, .int .i64 0, .int .i64 0, .int .i64 0, .int .i64 0, .int .i64 0, .int .i64 0, .bool false, .int .u64 0, .int .u64 0, .int .u32 0, .int .i64 0, .int .u8 0, .int .u8 0, .int .u8 0, .slice none 0 0, .string ByteArray.empty]) ⟨_, Go.Proofs.Tryz.underlying158, rfl⟩ (by kernel_rfl) rfl (fun h => by cases h))
  (.cons (.mk' (z := .int .i64 0) Go.Proofs.Tryz.underlying159 (by kernel_rfl) rfl (fun h => rfl))
  (.cons (.mk' (z := .nilFunc) ⟨_, _, _, Go.Proofs.Tryz.underlying161⟩ (by kernel_rfl) rfl (fun h => rfl))
  (.cons (.mk' (z := .nilFunc) ⟨_, _, _, Go.Proofs.Tryz.underlying163⟩ (by kernel_rfl) rfl (fun h => rfl))
  (.cons (.mk' (z := .nilFunc) ⟨_, _, _, Go.Proofs.Tryz.underlying165⟩ (by kernel_rfl) rfl (fun h => rfl))
  (.cons (.mk' (z := .nilFunc) ⟨_, _, _, Go.Proofs.Tryz.underlying166⟩ (by kernel_rfl) rfl (fun h => rfl))
  (.cons (.mk' (z := .nilFunc) ⟨_, _, _, Go.Proofs.Tryz.underlying167⟩ (by kernel_rfl) rfl (fun h => rfl))
  (.cons (.mk' (z := .nilFunc) ⟨_, _, _, Go.Proofs.Tryz.underlying168⟩ (by kernel_rfl) rfl (fun h => rfl))
  (.cons (.mk' (z := .nilFunc) ⟨_, _, _, Go.Proofs.Tryz.underlying169⟩ (by kernel_rfl) rfl (fun h => rfl))
  (.cons (.mk' (z := .nilFunc) ⟨_, _, _, Go.Proofs.Tryz.underlying170⟩ (by kernel_rfl) rfl (fun h => rfl))
  (.cons (.mk' (z := .nilIface) ⟨_, Go.Proofs.Tryz.underlying171⟩ (by kernel_rfl) rfl (fun h => rfl))
  (.cons (.mk' (z := .nilIface) ⟨_, Go.Proofs.Tryz.underlying172⟩ (by kernel_rfl) rfl (fun h => rfl))
  (.cons (.mk' (z := .nilFunc) ⟨_, _, _, Go.Proofs.Tryz.underlying173⟩ (by kernel_rfl) rfl (fun h => rfl))
  (.cons (.mk' (z := .nilFunc) ⟨_, _, _, Go.Proofs.Tryz.underlying174⟩ (by kernel_rfl) rfl (fun h => rfl))
  (.cons (.mk' (z := .nilFunc) ⟨_, _, _, Go.Proofs.Tryz.underlying175⟩ (by kernel_rfl) rfl (fun h => rfl))
  (.cons (.mk' (z := .nilFunc) ⟨_, _, _, Go.Proofs.Tryz.underlying177⟩ (by kernel_rfl) rfl (fun h => rfl))
  (.cons (.mk' (z := .nilFunc) ⟨_, _, _, Go.Proofs.Tryz.underlying178⟩ (by kernel_rfl) rfl (fun h => rfl))
  (.cons (.mk' (z := .nilFunc) ⟨_, _, _, Go.Proofs.Tryz.underlying179⟩ (by kernel_rfl) rfl (fun h => rfl))
  (.cons (.mk' (z := .nilFunc) ⟨_, _, _, Go.Proofs.Tryz.underlying180⟩ (by kernel_rfl) rfl (fun h => rfl))
  (.cons (.mk' (z := .nilFunc) ⟨_, _, _, Go.Proofs.Tryz.underlying181⟩ (by kernel_rfl) rfl (fun h => rfl))
  (.cons (.mk' (z := .nilFunc) ⟨_, _, _, Go.Proofs.Tryz.underlying182⟩ (by kernel_rfl) rfl (fun h => rfl))
  (.cons (.mk' (z := .nilFunc) ⟨_, _, _, Go.Proofs.Tryz.underlying183⟩ (by kernel_rfl) rfl (fun h => rfl))
  (.cons (.mk' (z := .nilFunc) ⟨_, _, _, Go.Proofs.Tryz.underlying185⟩ (by kernel_rfl) rfl (fun h => rfl))
  (.cons (.mk' (z := .nilFunc) ⟨_, _, _, Go.Proofs.Tryz.underlying187⟩ (by kernel_rfl) rfl (fun h => rfl))
  (.cons (.mk' (z := .nilFunc) ⟨_, _, _, Go.Proofs.Tryz.underlying189⟩ (by kernel_rfl) rfl (fun h => rfl))
  (.cons (.mk' (z := .nilFunc) ⟨_, _, _, Go.Proofs.Tryz.underlying190⟩ (by kernel_rfl) rfl (fun h => rfl))
  (.cons (.mk' (z := .nilFunc) ⟨_, _, _, Go.Proofs.Tryz.underlying191⟩ (by kernel_rfl) rfl (fun h => rfl))
  (.cons (.mk' (z := .nilFunc) ⟨_, _, _, Go.Proofs.Tryz.underlying192⟩ (by kernel_rfl) rfl (fun h => rfl))
  (.cons (.mk' (z := .nilFunc) ⟨_, _, _, Go.Proofs.Tryz.underlying193⟩ (by kernel_rfl) rfl (fun h => rfl))
  (.cons (.mk' (z := .nilFunc) ⟨_, _, _, Go.Proofs.Tryz.underlying194⟩ (by kernel_rfl) rfl (fun h => rfl))
  (.cons (.mk' (z := .nilFunc) ⟨_, _, _, Go.Proofs.Tryz.underlying195⟩ (by kernel_rfl) rfl (fun h => rfl))
  (.cons (.mk' (z := .nilFunc) ⟨_, _, _, Go.Proofs.Tryz.underlying196⟩ (by kernel_rfl) rfl (fun h => rfl))
  (.cons (.mk' (z := .nilFunc) ⟨_, _, _, Go.Proofs.Tryz.underlying198⟩ (by kernel_rfl) rfl (fun h => rfl))
  (.cons (.mk' (z := .nilFunc) ⟨_, _, _, Go.Proofs.Tryz.underlying199⟩ (by kernel_rfl) rfl (fun h => rfl))
  (.cons (.mk' (z := .nilFunc) ⟨_, _, _, Go.Proofs.Tryz.underlying201⟩ (by kernel_rfl) rfl (fun h => rfl))
  (.cons (.mk' (z := .nilFunc) ⟨_, _, _, Go.Proofs.Tryz.underlying202⟩ (by kernel_rfl) rfl (fun h => rfl))
  (.cons (.mk' (z := .agg #[.bool false, .bool false, .bool false, .bool false, .bool false, .bool false, .bool false, .bool false, .bool false, .bool false, .bool false, .bool false, .bool false, .bool false, .bool false, .bool false, .bool false, .bool false, .bool false, .bool false, .bool false, .bool false, .bool false, .bool false, .bool false, .bool false, .bool false, .bool false, .bool false, .bool false, .bool false, .bool false, .bool false, .bool false, .bool false, .bool false, .bool false, .bool false, .bool false, .bool false, .bool false, .bool false, .bool false, .bool false, .bool false, .bool false, .bool false, .bool false, .bool false, .bool false, .bool false, .bool false, .bool false, .bool false, .bool false, .bool false, .bool false, .bool false, .bool false, .bool false, .bool false, .bool false, .bool false, .bool false, .bool false, .bool false, .bool false, .bool false, .bool false, .bool false, .bool false, .bool false, .bool false, .bool false, .bool false, .bool false, .bool false, .bool false, .bool false, .bool false, .bool false, .bool false, .bool false, .bool false, .bool false, .bool false, .bool false, .bool false, .bool false, .bool false, .bool false, .bool false, .bool false, .bool false, .bool false, .bool false, .bool false, .bool false, .bool false, .bool false, .bool false, .bool false, .bool false, .bool false, .bool false, .bool false, .bool false, .bool false, .bool false, .bool false, .bool false, .bool false, .bool false, .bool false, .bool false, .bool false, .bool false, .bool false, .bool false, .bool false, .bool false, .bool false, .bool false, .bool false, .bool false, .bool false, .bool false, .bool false, .bool false, .bool false, .bool false, .bool false, .bool false, .bool false, .bool false, .bool false, .bool false, .bool false, .bool false, .bool false, .bool false, .bool false, .bool false, .bool false, .bool false, .bool false, .bool false, .bool false, .bool false, .bool false, .bool false, .bool false, .bool false, .bool false, .bool false, .bool false, .bool false, .bool false, .bool false, .bool false, .bool false, .bool false, .bool false, .bool false, .bool false, .bool false, .bool false, .bool false, .bool false, .bool false, .bool false, .bool false, .bool false, .bool false, .bool false, .bool false, .bool false, .bool false, .bool false, .bool false, .bool false, .bool false, .bool false, .bool false, .bool false, .bool false, .bool false, .bool false, .bool false, .bool false, .bool false, .bool false, .bool false, .bool false, .bool false, .bool false, .bool false, .bool false, .bool false, .bool false, .bool false, .bool false, .bool false, .bool false, .bool false, .bool false, .bool false, .bool false, .bool false, .bool false, .bool false, .bool false, .bool false, .bool false, .bool false, .bool false, .bool false, .bool false, .bool false, .bool false, .bool false, .bool false, .bool false, .bool false, .bool false, .bool false, .bool false, .bool false, .bool false, .bool false, .bool false, .bool false, .bool false, .bool false, .bool false, .bool false, .bool false, .bool false, .bool false, .bool false, .bool false, .bool false, .bool false, .bool false, .bool false, .bool false, .bool false, .bool false, .bool false, .bool false, .bool false, .bool false, .bool false, .bool false, .bool false, .bool false]) Go.Proofs.Tryz.underlying203 (by kernel_rfl) rfl (fun h => by cases h))
  (.cons (.mk' (z := .agg #[.bool false, .bool false, .bool false, .bool false, .bool false, .bool false, .bool false, .bool false, .bool false, .bool false, .bool false, .bool false, .bool false, .bool false, .bool false, .bool false, .bool false, .bool false, .bool false, .bool false, .bool false, .bool false, .bool false, .bool false, .bool false, .bool false, .bool false, .bool false, .bool false, .bool false, .bool false, .bool false, .bool false, .bool false, .bool false, .bool false, .bool false, .bool false, .bool false, .bool false, .bool false, .bool false, .bool false, .bool false, .bool false, .bool false, .bool false, .bool false, .bool false, .bool false, .bool false, .bool false, .bool false, .bool false, .bool false, .bool false, .bool false, .bool false, .bool false, .bool false, .bool false, .bool false, .bool false, .bool false, .bool false, .bool false, .bool false, .bool false, .bool false, .bool false, .bool false, .bool false, .bool false, .bool false, .bool false, .bool false, .bool false, .bool false, .bool false, .bool false, .bool false, .bool false, .bool false, .bool false, .bool false, .bool false, .bool false, .bool false, .bool false, .bool false, .bool false, .bool false, .bool false, .bool false, .bool false, .bool false, .bool false, .bool false, .bool false, .bool false, .bool false, .bool false, .bool false, .bool false, .bool false, .bool false, .bool false, .bool false, .bool false, .bool false, .bool false, .bool false, .bool false, .bool false, .bool false, .bool false, .bool false, .bool false, .bool false, .bool false, .bool false, .bool false, .bool false, .bool false, .bool false, .bool false, .bool false, .bool false, .bool false, .bool false, .bool false, .bool false, .bool false, .bool false, .bool false, .bool false, .bool false, .bool false, .bool false, .bool false, .bool false, .bool false, .bool false, .bool false, .bool false, .bool false, .bool false, .bool false, .bool false, .bool false, .bool false, .bool false, .bool false, .bool false, .bool false, .bool false, .bool false, .bool false, .bool false, .bool false, .bool false, .bool false, .bool false, .bool false, .bool false, .bool false, .bool false, .bool false, .bool false, .bool false, .bool false, .bool false, .bool false, .bool false, .bool false, .bool false, .bool false, .bool false, .bool false, .bool false, .bool false, .bool false, .bool false, .bool false, .bool false, .bool false, .bool false, .bool false, .bool false, .bool false, .bool false, .bool false, .bool false, .bool false, .bool false, .bool false, .bool false, .bool false, .bool false, .bool false, .bool false, .bool false, .bool false, .bool false, .bool false, .bool false, .bool false, .bool false, .bool false, .bool false, .bool false, .bool false, .bool false, .bool false, .bool false, .bool false, .bool false, .bool false, .bool false, .bool false, .bool false, .bool false, .bool false, .bool false, .bool false, .bool false, .bool false, .bool false, .bool false, .bool false, .bool false, .bool false, .bool false, .bool false, .bool false, .bool false, .bool false, .bool false, .bool false, .bool false, .bool false, .bool false, .bool false, .bool false, .bool false, .bool false, .bool false, .bool false, .bool false, .bool false, .bool false, .bool false, .bool false, .bool false, .bool false, .bool false]) Go.Proofs.Tryz.underlying204 (by kernel_rfl) rfl (fun h => by cases h))
  (.cons (.mk' (z := .nilFunc) ⟨_, _, _, Go.Proofs.Tryz.underlying206⟩ (by kernel_rfl) rfl (fun h => rfl))
  (.cons (.mk' (z := .nilFunc) ⟨_, _, _, Go.Proofs.Tryz.underlying207⟩ (by kernel_rfl) rfl (fun h => rfl))
  (.cons (.mk' (z := .pointer none) Go.Proofs.Tryz.underlying208 (by kernel_rfl) rfl (fun h => rfl))
  (.cons (.mk' (z := .nilFunc) ⟨_, _, _, Go.Proofs.Tryz.underlying209⟩ (by kernel_rfl) rfl (fun h => rfl))
  (.cons (.mk' (z := .nilFunc) ⟨_, _, _, Go.Proofs.Tryz.underlying210⟩ (by kernel_rfl) rfl (fun h => rfl))
  (.cons (.mk' (z := .nilFunc) ⟨_, _, _, Go.Proofs.Tryz.underlying211⟩ (by kernel_rfl) rfl (fun h => rfl))
  (.cons (.mk' (z := .nilFunc) ⟨_, _, _, Go.Proofs.Tryz.underlying212⟩ (by kernel_rfl) rfl (fun h => rfl))
  (.cons (.mk' (z := .nilFunc) ⟨_, _, _, Go.Proofs.Tryz.underlying214⟩ (by kernel_rfl) rfl (fun h => rfl))
  (.cons (.mk' (z := .nilFunc) ⟨_, _, _, Go.Proofs.Tryz.underlying215⟩ (by kernel_rfl) rfl (fun h => rfl))
  (.cons (.mk' (z := .nilFunc) ⟨_, _, _, Go.Proofs.Tryz.underlying216⟩ (by kernel_rfl) rfl (fun h => rfl))
  (.cons (.mk' (z := .agg #[.int .u8 0, .int .u8 0, .int .u8 0, .int .u8 0, .int .u8 0, .int .u8 0, .int .u8 0, .int .u8 0, .int .u8 0, .int .u8 0, .int .u8 0, .int .u8 0, .int .u8 0, .int .u8 0, .int .u8 0, .int .u8 0, .int .u8 0, .int .u8 0, .int .u8 0, .int .u8 0, .int .u8 0, .int .u8 0, .int .u8 0, .int .u8 0]) Go.Proofs.Tryz.underlying217 (by kernel_rfl) rfl (fun h => by cases h))
  (.cons (.mk' (z := .nilFunc) ⟨_, _, _, Go.Proofs.Tryz.underlying218⟩ (by kernel_rfl) rfl (fun h => rfl))
  (.cons (.mk' (z := .nilFunc) ⟨_, _, _, Go.Proofs.Tryz.underlying220⟩ (by kernel_rfl) rfl (fun h => rfl))
  (.cons (.mk' (z := .int .i64 0) Go.Proofs.Tryz.underlying221 (by kernel_rfl) rfl (fun h => rfl))
  (.cons (.mk' (z := .nilFunc) ⟨_, _, _, Go.Proofs.Tryz.underlying222⟩ (by kernel_rfl) rfl (fun h => rfl))
  (.cons (.mk' (z := .nilFunc) ⟨_, _, _, Go.Proofs.Tryz.underlying223⟩ (by kernel_rfl) rfl (fun h => rfl))
  (.cons (.mk' (z := .pointer none) Go.Proofs.Tryz.underlying224 (by kernel_rfl) rfl (fun h => rfl))
  (.cons (.mk' (z := .nilFunc) ⟨_, _, _, Go.Proofs.Tryz.underlying225⟩ (by kernel_rfl) rfl (fun h => rfl))
  (.cons (.mk' (z := .nilFunc) ⟨_, _, _, Go.Proofs.Tryz.underlying226⟩ (by kernel_rfl) rfl (fun h => rfl))
  (.cons (.mk' (z := .nilFunc) ⟨_, _, _, Go.Proofs.Tryz.underlying227⟩ (by kernel_rfl) rfl (fun h => rfl))
  (.cons (.mk' (z := .nilFunc) ⟨_, _, _, Go.Proofs.Tryz.underlying228⟩ (by kernel_rfl) rfl (fun h => rfl))
  (.cons (.mk' (z := .nilFunc) ⟨_, _, _, Go.Proofs.Tryz.underlying229⟩ (by kernel_rfl) rfl (fun h => rfl))
  (.cons (.mk' (z := .agg #[.int .u64 0, .int .u64 0, .int .u64 0, .int .u64 0, .int .u64 0, .int .u64 0, .int .u64 0, .int .u64 0, .int .u64 0, .int .u64 0, .int .u64 0, .int .u64 0, .int .u64 0, .int .u64 0, .int .u64 0, .int .u64 0, .int .u64 0, .int .u64 0, .int .u64 0, .int .u64 0]) Go.Proofs.Tryz.underlying230 (by kernel_rfl) rfl (fun h => by cases h))
  (.cons (.mk' (z := .agg #[.int .u8 0, .int .u8 0, .int .u8 0, .int .u8 0, .int .u8 0, .int .u8 0, .int .u8 0, .int .u8 0, .int .u8 0, .int .u8 0, .int .u8 0, .int .u8 0, .int .u8 0, .int .u8 0, .int .u8 0, .int .u8 0, .int .u8 0, .int .u8 0, .int .u8 0, .int .u8 0, .int .u8 0, .int .u8 0, .int .u8 0, .int .u8 0, .int .u8 0, .int .u8 0, .int .u8 0, .int .u8 0, .int .u8 0, .int .u8 0, .int .u8 0, .int .u8 0, .int .u8 0, .int .u8 0, .int .u8 0, .int .u8 0, .int .u8 0, .int .u8 0, .int .u8 0, .int .u8 0, .int .u8 0, .int .u8 0, .int .u8 0, .int .u8 0, .int .u8 0, .int .u8 0, .int .u8 0, .int .u8 0, .int .u8 0, .int .u8 0, .int .u8 0, .int .u8 0, .int .u8 0, .int .u8 0, .int .u8 0, .int .u8 0, .int .u8 0, .int .u8 0, .int .u8 0, .int .u8 0, .int .u8 0, .int .u8 0, .int .u8 0, .int .u8 0, .int .u8 0]) Go.Proofs.Tryz.underlying231 (by kernel_rfl) rfl (fun h => by cases h))
  (.cons (.mk' (z := .nilFunc) ⟨_, _, _, Go.Proofs.Tryz.underlying232⟩ (by kernel_rfl) rfl (fun h => rfl))
  (.cons (.mk' (z := .nilFunc) ⟨_, _, _, Go.Proofs.Tryz.underlying233⟩ (by kernel_rfl) rfl (fun h => rfl))
  (.cons (.mk' (z := .agg #[.string ByteArray.empty, .string ByteArray.empty, .nilIface]) ⟨_, Go.Proofs.Tryz.underlying234, rfl⟩ (by kernel_rfl) rfl (fun h => by cases h))
  (.cons (.mk' (z := .agg #[.string ByteArray.empty, .string ByteArray.empty, .nilIface]) ⟨_, Go.Proofs.Tryz.underlying235, rfl⟩ (by kernel_rfl) rfl (fun h => by cases h))
  (.cons (.mk' (z := .nilFunc) ⟨_, _, _, Go.Proofs.Tryz.underlying236⟩ (by kernel_rfl) rfl (fun h => rfl))
  (.cons (.mk' (z := .nilFunc) ⟨_, _, _, Go.Proofs.Tryz.underlying237⟩ (by kernel_rfl) rfl (fun h => rfl))
  (.cons (.mk' (z := .nilFunc) ⟨_, _, _, Go.Proofs.Tryz.underlying238⟩ (by kernel_rfl) rfl (fun h => rfl))
  (.cons (.mk' (z := .pointer none) Go.Proofs.Tryz.underlying239 (by kernel_rfl) rfl (fun h => rfl))
  (.cons (.mk' (z := .pointer none) Go.Proofs.Tryz.underlying240 (by kernel_rfl) rfl (fun h => rfl))
  (.cons (.mk' (z := .agg #[.string ByteArray.empty]) ⟨_, Go.Proofs.Tryz.underlying241, rfl⟩ (by kernel_rfl) rfl (fun h => by cases h))
  (.cons (.mk' (z := .agg #[.string ByteArray.empty]) ⟨_, Go.Proofs.Tryz.underlying242, rfl⟩ (by kernel_rfl) rfl (fun h => by cases h))
  (.cons (.mk' (z := .agg #[.int .u8 0, .int .u8 0, .int .u8 0, .int .u8 0, .int .u8 0, .int .u8 0, .int .u8 0, .int .u8 0, .int .u8 0, .int .u8 0, .int .u8 0, .int .u8 0, .int .u8 0, .int .u8 0, .int .u8 0, .int .u8 0, .int .u8 0, .int .u8 0, .int .u8 0, .int .u8 0, .int .u8 0, .int .u8 0, .int .u8 0, .int .u8 0, .int .u8 0, .int .u8 0, .int .u8 0, .int .u8 0, .int .u8 0, .int .u8 0, .int .u8 0, .int .u8 0, .int .u8 0, .int .u8 0, .int .u8 0, .int .u8 0, .int .u8 0, .int .u8 0, .int .u8 0, .int .u8 0, .int .u8 0, .int .u8 0, .int .u8 0, .int .u8 0, .int .u8 0, .int .u8 0, .int .u8 0, .int .u8 0, .int .u8 0, .int .u8 0, .int .u8 0, .int .u8 0, .int .u8 0, .int .u8 0, .int .u8 0, .int .u8 0, .int .u8 0, .int .u8 0, .int .u8 0, .int .u8 0, .int .u8 0, .int .u8 0, .int .u8 0, .int .u8 0, .int .u8 0, .int .u8 0, .int .u8 0, .int .u8 0, .int .u8 0, .int .u8 0, .int .u8 0, .int .u8 0, .int .u8 0, .int .u8 0, .int .u8 0, .int .u8 0, .int .u8 0, .int .u8 0, .int .u8 0, .int .u8 0, .int .u8 0, .int .u8 0, .int .u8 0, .int .u8 0, .int .u8 0, .int .u8 0, .int .u8 0, .int .u8 0, .int .u8 0, .int .u8 0, .int .u8 0, .int .u8 0, .int .u8 0, .int .u8 0, .int .u8 0, .int .u8 0, .int .u8 0, .int .u8 0, .int .u8 0, .int .u8 0, .int .u8 0, .int .u8 0, .int .u8 0, .int .u8 0, .int .u8 0, .int .u8 0, .int .u8 0, .int .u8 0, .int .u8 0, .int .u8 0, .int .u8 0, .int .u8 0, .int .u8 0, .int .u8 0, .int .u8 0, .int .u8 0, .int .u8 0, .int .u8 0, .int .u8 0, .int .u8 0, .int .u8 0, .int .u8 0, .int .u8 0, .int .u8 0, .int .u8 0, .int .u8 0, .int .u8 0, .int .u8 0, .int .u8 0, .int .u8 0, .int .u8 0, .int .u8 0, .int .u8 0, .int .u8 0, .int .u8 0, .int .u8 0, .int .u8 0, .int .u8 0, .int .u8 0, .int .u8 0, .int .u8 0, .int .u8 0, .int .u8 0, .int .u8 0, .int .u8 0, .int .u8 0, .int .u8 0, .int .u8 0, .int .u8 0, .int .u8 0, .int .u8 0, .int .u8 0, .int .u8 0, .int .u8 0, .int .u8 0, .int .u8 0, .int .u8 0, .int .u8 0, .int .u8 0, .int .u8 0, .int .u8 0, .int .u8 0, .int .u8 0, .int .u8 0, .int .u8 0, .int .u8 0, .int .u8 0, .int .u8 0, .int .u8 0, .int .u8 0, .int .u8 0, .int .u8 0, .int .u8 0, .int .u8 0, .int .u8 0, .int .u8 0, .int .u8 0, .int .u8 0, .int .u8 0, .int .u8 0, .int .u8 0, .int .u8 0, .int .u8 0, .int .u8 0, .int .u8 0, .int .u8 0, .int .u8 0, .int .u8 0, .int .u8 0, .int .u8 0, .int .u8 0, .int .u8 0, .int .u8 0, .int .u8 0, .int .u8 0, .int .u8 0, .int .u8 0, .int .u8 0, .int .u8 0, .int .u8 0, .int .u8 0, .int .u8 0, .int .u8 0, .int .u8 0, .int .u8 0, .int .u8 0, .int .u8 0, .int .u8 0, .int .u8 0, .int .u8 0, .int .u8 0, .int .u8 0, .int .u8 0, .int .u8 0, .int .u8 0, .int .u8 0, .int .u8 0, .int .u8 0, .int .u8 0, .int .u8 0, .int .u8 0, .int .u8 0, .int .u8 0, .int .u8 0, .int .u8 0, .int .u8 0, .int .u8 0, .int .u8 0, .int .u8 0, .int .u8 0, .int .u8 0, .int .u8 0, .int .u8 0, .int .u8 0, .int .u8 0, .int .u8 0, .int .u8 0, .int .u8 0, .int .u8 0, .int .u8 0, .int .u8 0, .int .u8 0, .int .u8 0, .int .u8 0, .int .u8 0, .int .u8 0, .int .u8 0, .int .u8 0, .int .u8 0, .int .u8 0, .int .u8 0, .int .u8 0, .int .u8 0, .int .u8 0, .int .u8 0, .int .u8 0]) Go.Proofs.Tryz.underlying243 (by kernel_rfl) rfl (fun h => by cases h))
  (.cons (.mk' (z := .agg #[.int .u8 0, .int .u8 0]) ⟨_, Go.Proofs.Tryz.underlying244, rfl⟩ (by kernel_rfl) rfl (fun h => by cases h))
  (.cons (.mk' (z := .agg #[.int .u8 0, .int .u8 0]) ⟨_, Go.Proofs.Tryz.underlying245, rfl⟩ (by kernel_rfl) rfl (fun h => by cases h))
  (.cons (.mk' (z := .agg #[.int .u8 0, .int .u8 0, .int .u8 0, .int .u8 0, .int .u8 0, .int .u8 0, .int .u8 0, .int .u8 0, .int .u8 0, .int .u8 0, .int .u8 0, .int .u8 0, .int .u8 0, .int .u8 0, .int .u8 0, .int .u8 0, .int .u8 0, .int .u8 0, .int .u8 0, .int .u8 0, .int .u8 0, .int .u8 0, .int .u8 0, .int .u8 0, .int .u8 0, .int .u8 0, .int .u8 0, .int .u8 0, .int .u8 0, .int .u8 0, .int .u8 0, .int .u8 0]) Go.Proofs.Tryz.underlying246 (by kernel_rfl) rfl (fun h => by cases h))
  (.cons (.mk' (z := .agg #[.int .u8 0, .int .u8 0, .int .u8 0, .int .u8 0, .int .u8 0, .int .u8 0, .int .u8 0, .int .u8 0, .int .u8 0, .int .u8 0, .int .u8 0, .int .u8 0, .int .u8 0, .int .u8 0, .int .u8 0, .int .u8 0, .int .u8 0, .int .u8 0, .int .u8 0, .int .u8 0, .int .u8 0, .int .u8 0, .int .u8 0, .int .u8 0, .int .u8 0, .int .u8 0, .int .u8 0, .int .u8 0, .int .u8 0, .int .u8 0, .int .u8 0, .int .u8 0]) Go.Proofs.Tryz.underlying247 (by kernel_rfl) rfl (fun h => by cases h))
  (.cons (.mk' (z := .agg #[.int .u8 0, .int .u8 0, .int .u8 0, .int .u8 0, .int .u8 0, .int .u8 0, .int .u8 0, .int .u8 0, .int .u8 0, .int .u8 0, .int .u8 0, .int .u8 0, .int .u8 0, .int .u8 0, .int .u8 0, .int .u8 0, .int .u8 0, .int .u8 0, .int .u8 0, .int .u8 0, .int .u8 0, .int .u8 0, .int .u8 0, .int .u8 0, .int .u8 0, .int .u8 0, .int .u8 0, .int .u8 0, .int .u8 0, .int .u8 0, .int .u8 0, .int .u8 0, .int .u8 0, .int .u8 0, .int .u8 0, .int .u8 0, .int .u8 0, .int .u8 0, .int .u8 0, .int .u8 0, .int .u8 0, .int .u8 0, .int .u8 0, .int .u8 0, .int .u8 0, .int .u8 0, .int .u8 0, .int .u8 0, .int .u8 0, .int .u8 0, .int .u8 0, .int .u8 0, .int .u8 0, .int .u8 0, .int .u8 0, .int .u8 0, .int .u8 0, .int .u8 0, .int .u8 0, .int .u8 0, .int .u8 0, .int .u8 0, .int .u8 0, .int .u8 0]) Go.Proofs.Tryz.underlying248 (by kernel_rfl) rfl (fun h => by cases h))
  (.cons (.mk' (z := .nilFunc) ⟨_, _, _, Go.Proofs.Tryz.underlying249⟩ (by kernel_rfl) rfl (fun h => rfl))
  (.cons (.mk' (z := .nilFunc) ⟨_, _, _, Go.Proofs.Tryz.underlying250⟩ (by kernel_rfl) rfl (fun h => rfl))
  (.cons (.mk' (z := .agg #[.pointer none, .pointer none, .pointer none, .string ByteArray.empty]) ⟨_, Go.Proofs.Tryz.underlying251, rfl⟩ (by kernel_rfl) rfl (fun h => by cases h))
  (.cons (.mk' (z := .agg #[.pointer none, .pointer none, .pointer none, .string ByteArray.empty]) ⟨_, Go.Proofs.Tryz.underlying252, rfl⟩ (by kernel_rfl) rfl (fun h => by cases h))
  (.cons (.mk' (z := .agg #[]) Go.Proofs.Tryz.underlying253 (by kernel_rfl) rfl (fun h => by cases h))
  (.cons (.mk' (z := .agg #[]) ⟨_, Go.Proofs.Tryz.underlying254, rfl⟩ (by kernel_rfl) rfl (fun h => by cases h))
  (.cons (.mk' (z := .agg #[]) ⟨_, Go.Proofs.Tryz.underlying255, rfl⟩ (by kernel_rfl) rfl (fun h => by cases h))
  (.cons (.mk' (z := .int .u8 0) Go.Proofs.Tryz.underlying256 (by kernel_rfl) rfl (fun h => rfl))
  (.cons (.mk' (z := .int .u8 0) Go.Proofs.Tryz.underlying257 (by kernel_rfl) rfl (fun h => rfl))
  (.cons (.mk' (z := .nilFunc) ⟨_, _, _, Go.Proofs.Tryz.underlying258⟩ (by kernel_rfl) rfl (fun h => rfl))
  (.cons (.mk' (z := .int .i32 0) Go.Proofs.Tryz.underlying259 (by kernel_rfl) rfl (fun h => rfl))
  (.cons (.mk' (z := .int .i32 0) Go.Proofs.Tryz.underlying260 (by kernel_rfl) rfl (fun h => rfl))
  (.cons (.mk' (z := .agg #[.int .u64 0, .int .u64 0, .int .u32 0, .int .u8 0, .int .u8 0, .int .u8 0, .int .u8 0, .nilFunc, .pointer none, .int .i32 0, .int .i32 0]) ⟨_, Go.Proofs.Tryz.underlying261, rfl⟩ (by kernel_rfl) rfl (fun h => by cases h))
  (.cons (.mk' (z := .agg #[.int .u64 0, .int .u64 0, .int .u32 0, .int .u8 0, .int .u8 0, .int .u8 0, .int .u8 0, .nilFunc, .pointer none, .int .i32 0, .int .i32 0]) ⟨_, Go.Proofs.Tryz.underlying262, rfl⟩ (by kernel_rfl) rfl (fun h => by cases h))
  (.cons (.mk' (z := .nilFunc) ⟨_, _, _, Go.Proofs.Tryz.underlying263⟩ (by kernel_rfl) rfl (fun h => rfl))
  (.nil))))))))))))))))))))))))))))))))))))))))))))))))))))))))))))))))))))))))))))))))))))))))))))))))))))))))))))))))))))))))))))))))))))))))))))))))))))))))))))))))))))))))))))))))))))))))))))))))))))))))))))))))))))))))))))))))))))))))))))))))))))
theorem mixed : Go.Proofs.Tryz.prog.follows .mixedOrders = true := by kernel_rfl
end Go.Sx.T

