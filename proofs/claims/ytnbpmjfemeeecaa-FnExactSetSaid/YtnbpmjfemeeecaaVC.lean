import Derived.Test.YtnbpmjfemeeecaaVmd
import Derived.Test.YtnbpmjfemeeecaaProg
namespace Go.Proofs.Ytnbpmjfemeeecaa
open Go.VK

def tab : List (Nat × TI) := [
  (1, { agg := false, cts := [.oth], bytes := 8 }),
  (2, { agg := false, cts := [.int .i64], bytes := 8 }),
  (3, { agg := false, cts := [.int .i64], bytes := 8 }),
  (4, { agg := false, cts := [.bool], bytes := 1 }),
  (5, { agg := false, cts := [.int .u8], bytes := 1 }),
  (6, { agg := false, cts := [.int .u8], bytes := 1 }),
  (7, { agg := true, cts := [.int .i64, .int .i64, .bool, .int .u8], offs := [(0, 2), (1, 3), (2, 4), (3, 6)], bytes := 24 }),
  (8, { agg := true, cts := [.int .i64, .int .i64, .bool, .int .u8], offs := [(0, 2), (1, 3), (2, 4), (3, 6)], bytes := 24 }),
  (9, { agg := false, cts := [.str], bytes := 16 }),
  (10, { agg := false, cts := [.str], bytes := 16 }),
  (11, { agg := false, cts := [.str], bytes := 16 }),
  (12, { agg := false, cts := [.int .u64], bytes := 8 }),
  (13, { agg := true, cts := [.str, .int .u64], offs := [(0, 9), (1, 12)], bytes := 24 }),
  (14, { agg := true, cts := [.str, .int .u64], offs := [(0, 9), (1, 12)], bytes := 24 }),
  (15, { agg := false, cts := [.ptr], bytes := 8 }),
  (16, { agg := false, cts := [.ptr], bytes := 8 }),
  (17, { agg := false, cts := [.ptr], bytes := 8 }),
  (18, { agg := true, cts := [.ptr], offs := [(0, 17)], bytes := 8 }),
  (19, { agg := true, cts := [.ptr], offs := [(0, 17)], bytes := 8 }),
  (21, { agg := false, cts := [.int .i32], bytes := 4 }),
  (22, { agg := false, cts := [.slice 4], elem := some 24, bytes := 24 }),
  (23, { agg := true, cts := [.str, .str, .bool, .slice 4], offs := [(0, 9), (1, 9), (2, 4), (3, 22)], bytes := 64 }),
  (24, { agg := true, cts := [.str, .str, .bool, .slice 4], offs := [(0, 9), (1, 9), (2, 4), (3, 22)], bytes := 64 }),
  (25, { agg := false, cts := [.oth], bytes := 8 }),
  (26, { agg := false, cts := [.slice 4], elem := some 28, bytes := 24 }),
  (27, { agg := true, cts := [.str, .str, .bool, .slice 4], offs := [(0, 9), (1, 9), (2, 4), (3, 26)], bytes := 64 }),
  (28, { agg := true, cts := [.str, .str, .bool, .slice 4], offs := [(0, 9), (1, 9), (2, 4), (3, 26)], bytes := 64 }),
  (29, { agg := false, cts := [.slice 1], elem := some 70, bytes := 24 }),
  (31, { agg := false, cts := [.oth], bytes := 8 }),
  (32, { agg := false, cts := [.oth], bytes := 8 }),
  (33, { agg := false, cts := [.oth], bytes := 8 }),
  (34, { agg := false, cts := [.oth], bytes := 8 }),
  (35, { agg := false, cts := [.oth], bytes := 8 }),
  (36, { agg := false, cts := [.oth], bytes := 8 }),
  (37, { agg := false, cts := [.oth], bytes := 8 }),
  (38, { agg := false, cts := [.slice 4], elem := some 111, bytes := 24 }),
  (39, { agg := false, cts := [.slice 1], elem := some 4, bytes := 24 }),
  (40, { agg := false, cts := [.oth], bytes := 8 }),
  (42, { agg := false, cts := [.oth], bytes := 8 }),
  (43, { agg := false, cts := [.slice 4], elem := some 115, bytes := 24 }),
  (44, { agg := false, cts := [.oth], bytes := 8 }),
  (45, { agg := false, cts := [.oth], bytes := 8 }),
  (46, { agg := false, cts := [.oth], bytes := 8 }),
  (47, { agg := false, cts := [.oth], bytes := 8 }),
  (48, { agg := false, cts := [.oth], bytes := 8 }),
  (50, { agg := false, cts := [.oth], bytes := 8 }),
  (51, { agg := false, cts := [.oth], bytes := 8 }),
  (52, { agg := false, cts := [.slice 3], elem := some 215, bytes := 24 }),
  (53, { agg := false, cts := [.slice 1], elem := some 9, bytes := 24 }),
  (54, { agg := false, cts := [.slice 5], elem := some 218, bytes := 24 }),
  (55, { agg := true, cts := [.slice 3, .slice 1, .int .i64, .slice 5], offs := [(0, 52), (1, 53), (2, 3), (3, 54)], bytes := 80 }),
  (56, { agg := true, cts := [.slice 3, .slice 1, .int .i64, .slice 5], offs := [(0, 52), (1, 53), (2, 3), (3, 54)], bytes := 80 }),
  (57, { agg := false, cts := [.oth], bytes := 8 }),
  (59, { agg := false, cts := [.oth], bytes := 8 }),
  (60, { agg := false, cts := [.slice 3], elem := some 220, bytes := 24 }),
  (61, { agg := false, cts := [.slice 5], elem := some 222, bytes := 24 }),
  (62, { agg := true, cts := [.slice 3, .slice 1, .int .i64, .slice 5], offs := [(0, 60), (1, 53), (2, 3), (3, 61)], bytes := 80 }),
  (63, { agg := true, cts := [.slice 3, .slice 1, .int .i64, .slice 5], offs := [(0, 60), (1, 53), (2, 3), (3, 61)], bytes := 80 }),
  (64, { agg := false, cts := [.oth], bytes := 8 }),
  (65, { agg := false, cts := [.oth], bytes := 8 }),
  (66, { agg := false, cts := [.oth], bytes := 8 }),
  (67, { agg := false, cts := [.slice 1], elem := some 238, bytes := 24 }),
  (68, { agg := true, cts := [.slice 1, .slice 1], offs := [(0, 67), (1, 29)], bytes := 48 }),
  (69, { agg := true, cts := [.slice 1, .slice 1], offs := [(0, 67), (1, 29)], bytes := 48 }),
  (70, { agg := false, cts := [.slice 1], elem := some 3, bytes := 24 }),
  (71, { agg := false, cts := [.oth], bytes := 8 }),
  (73, { agg := false, cts := [.oth], bytes := 8 }),
  (74, { agg := false, cts := [.slice 1], elem := some 239, bytes := 24 }),
  (75, { agg := true, cts := [.slice 1, .slice 1], offs := [(0, 74), (1, 29)], bytes := 48 }),
  (76, { agg := true, cts := [.slice 1, .slice 1], offs := [(0, 74), (1, 29)], bytes := 48 }),
  (77, { agg := false, cts := [.oth], bytes := 8 }),
  (78, { agg := false, cts := [.oth], bytes := 8 }),
  (79, { agg := false, cts := [.oth], bytes := 8 }),
  (80, { agg := false, cts := [.oth], bytes := 8 }),
  (81, { agg := false, cts := [.oth], bytes := 8 }),
  (82, { agg := false, cts := [.oth], bytes := 8 }),
  (83, { agg := false, cts := [.oth], bytes := 8 }),
  (84, { agg := false, cts := [.oth], bytes := 8 }),
  (86, { agg := false, cts := [.oth], bytes := 8 }),
  (87, { agg := false, cts := [.oth], bytes := 8 }),
  (88, { agg := false, cts := [.slice 6], elem := some 90, bytes := 24 }),
  (89, { agg := true, cts := [.int .i64, .str, .str, .bool, .slice 4, .slice 6], offs := [(0, 3), (1, 28), (5, 88)], bytes := 96 }),
  (90, { agg := true, cts := [.int .i64, .str, .str, .bool, .slice 4, .slice 6], offs := [(0, 3), (1, 28), (5, 88)], bytes := 96 }),
  (92, { agg := false, cts := [.oth], bytes := 8 }),
  (93, { agg := false, cts := [.oth], bytes := 8 }),
  (94, { agg := false, cts := [.oth], bytes := 8 }),
  (95, { agg := false, cts := [.oth], bytes := 8 }),
  (96, { agg := false, cts := [.oth], bytes := 8 }),
  (97, { agg := false, cts := [.oth], bytes := 8 }),
  (98, { agg := false, cts := [.ptr], bytes := 8 }),
  (99, { agg := true, cts := [.slice 1], offs := [(0, 29)], bytes := 24 }),
  (100, { agg := true, cts := [.slice 1], offs := [(0, 29)], bytes := 24 }),
  (101, { agg := false, cts := [.oth], bytes := 8 }),
  (102, { agg := false, cts := [.oth], bytes := 8 }),
  (103, { agg := false, cts := [.oth], bytes := 8 }),
  (104, { agg := false, cts := [.ptr], bytes := 8 }),
  (105, { agg := true, cts := [.slice 1], offs := [(0, 29)], bytes := 24 }),
  (106, { agg := true, cts := [.slice 1], offs := [(0, 29)], bytes := 24 }),
  (107, { agg := false, cts := [.oth], bytes := 8 }),
  (108, { agg := false, cts := [.oth], bytes := 8 }),
  (109, { agg := false, cts := [.oth], bytes := 8 }),
  (110, { agg := true, cts := [.int .i64, .str, .int .i64, .slice 1], offs := [(0, 3), (1, 9), (2, 3), (3, 70)], bytes := 56 }),
  (111, { agg := true, cts := [.int .i64, .str, .int .i64, .slice 1], offs := [(0, 3), (1, 9), (2, 3), (3, 70)], bytes := 56 }),
  (112, { agg := false, cts := [.oth], bytes := 8 }),
  (113, { agg := false, cts := [.oth], bytes := 8 }),
  (114, { agg := false, cts := [.oth], bytes := 8 }),
  (115, { agg := true, cts := [.int .i64, .str, .int .i64, .slice 1], offs := [(0, 3), (1, 9), (2, 3), (3, 70)], bytes := 56 }),
  (116, { agg := false, cts := [.oth], bytes := 8 }),
  (117, { agg := false, cts := [.oth], bytes := 8 }),
  (118, { agg := false, cts := [.oth], bytes := 8 }),
  (119, { agg := false, cts := [.oth], bytes := 8 }),
  (120, { agg := false, cts := [.ptr], bytes := 8 }),
  (121, { agg := false, cts := [.oth], bytes := 8 }),
  (122, { agg := false, cts := [.oth], bytes := 8 }),
  (123, { agg := false, cts := [.oth], bytes := 8 }),
  (124, { agg := true, cts := [.slice 4, .slice 1, .slice 1, .oth, .oth], offs := [(0, 43), (1, 70), (2, 39), (3, 122), (4, 123)], bytes := 88 }),
  (125, { agg := true, cts := [.slice 4, .slice 1, .slice 1, .oth, .oth], offs := [(0, 43), (1, 70), (2, 39), (3, 122), (4, 123)], bytes := 88 }),
  (126, { agg := false, cts := [.oth], bytes := 8 }),
  (127, { agg := false, cts := [.oth], bytes := 8 }),
  (128, { agg := false, cts := [.oth], bytes := 8 }),
  (129, { agg := false, cts := [.oth], bytes := 8 }),
  (130, { agg := false, cts := [.oth], bytes := 8 }),
  (131, { agg := false, cts := [.oth], bytes := 8 }),
  (132, { agg := false, cts := [.oth], bytes := 8 }),
  (133, { agg := false, cts := [.oth], bytes := 8 }),
  (134, { agg := false, cts := [.ptr], bytes := 8 }),
  (135, { agg := false, cts := [.oth], bytes := 8 }),
  (136, { agg := false, cts := [.oth], bytes := 8 }),
  (137, { agg := false, cts := [.oth], bytes := 8 }),
  (138, { agg := false, cts := [.oth], bytes := 8 }),
  (139, { agg := false, cts := [.oth], bytes := 8 }),
  (140, { agg := false, cts := [.oth], bytes := 8 }),
  (141, { agg := false, cts := [.oth], bytes := 8 }),
  (142, { agg := false, cts := [.oth], bytes := 8 }),
  (143, { agg := true, cts := [.slice 1, .slice 1, .int .i64], offs := [(0, 70), (1, 29), (2, 3)], bytes := 56 }),
  (144, { agg := true, cts := [.slice 1, .slice 1, .int .i64], offs := [(0, 70), (1, 29), (2, 3)], bytes := 56 }),
  (145, { agg := false, cts := [.oth], bytes := 8 }),
  (146, { agg := true, cts := [.int .i64, .int .i64], offs := [(0, 3), (1, 3)], bytes := 16 }),
  (147, { agg := true, cts := [.int .i64, .int .i64], offs := [(0, 3), (1, 3)], bytes := 16 }),
  (149, { agg := false, cts := [.oth], bytes := 8 }),
  (150, { agg := false, cts := [.oth], bytes := 8 }),
  (152, { agg := false, cts := [.oth], bytes := 8 }),
  (153, { agg := false, cts := [.ptr], bytes := 8 }),
  (154, { agg := false, cts := [.slice 1], elem := some 159, bytes := 24 }),
  (155, { agg := true, cts := [.slice 3, .slice 1, .int .i64, .slice 5, .slice 1, .slice 1, .slice 1, .slice 1, .int .i64, .bool], offs := [(0, 63), (4, 76), (6, 70), (7, 154), (8, 3), (9, 4)], bytes := 192 }),
  (156, { agg := true, cts := [.slice 3, .slice 1, .int .i64, .slice 5, .slice 1, .slice 1, .slice 1, .slice 1, .int .i64, .bool], offs := [(0, 63), (4, 76), (6, 70), (7, 154), (8, 3), (9, 4)], bytes := 192 }),
  (157, { agg := false, cts := [.oth], bytes := 8 }),
  (158, { agg := false, cts := [.oth], bytes := 8 }),
  (159, { agg := false, cts := [.ptr], bytes := 8 }),
  (160, { agg := true, cts := [.int .i64, .slice 1], offs := [(0, 3), (1, 154)], bytes := 32 }),
  (161, { agg := true, cts := [.int .i64, .slice 1], offs := [(0, 3), (1, 154)], bytes := 32 }),
  (162, { agg := false, cts := [.oth], bytes := 8 }),
  (163, { agg := false, cts := [.oth], bytes := 8 }),
  (164, { agg := false, cts := [.oth], bytes := 8 }),
  (165, { agg := false, cts := [.oth], bytes := 8 }),
  (166, { agg := false, cts := [.slice 258], elem := some 280, bytes := 24 }),
  (168, { agg := false, cts := [.oth], bytes := 8 }),
  (169, { agg := false, cts := [.ptr], bytes := 8 }),
  (170, { agg := false, cts := [.slice 256], elem := some 301, bytes := 24 }),
  (174, { agg := false, cts := [.oth], bytes := 8 }),
  (175, { agg := false, cts := [.oth], bytes := 8 }),
  (176, { agg := false, cts := [.ptr], bytes := 8 }),
  (177, { agg := false, cts := [.oth], elem := some 3, key := some 262, bytes := 8 }),
  (178, { agg := false, cts := [.slice 6], elem := some 260, bytes := 24 }),
  (179, { agg := true, cts := [.slice 6, .slice 6, .oth, .oth], offs := [(0, 178), (1, 178), (2, 177), (3, 177)], bytes := 64 }),
  (180, { agg := true, cts := [.slice 6, .slice 6, .oth, .oth], offs := [(0, 178), (1, 178), (2, 177), (3, 177)], bytes := 64 }),
  (182, { agg := false, cts := [.ptr], bytes := 8 }),
  (185, { agg := false, cts := [.oth], bytes := 8 }),
  (186, { agg := false, cts := [.oth], bytes := 8 }),
  (187, { agg := false, cts := [.oth], bytes := 8 }),
  (192, { agg := false, cts := [.ptr], bytes := 8 }),
  (195, { agg := false, cts := [.ptr], bytes := 8 }),
  (198, { agg := false, cts := [.ptr], bytes := 8 }),
  (199, { agg := false, cts := [.slice 1], elem := some 5, bytes := 24 }),
  (200, { agg := true, cts := [.slice 4, .slice 1, .slice 1], offs := [(0, 43), (1, 39), (2, 199)], bytes := 72 }),
  (201, { agg := true, cts := [.slice 4, .slice 1, .slice 1], offs := [(0, 43), (1, 39), (2, 199)], bytes := 72 }),
  (202, { agg := false, cts := [.oth], elem := some 3, key := some 3, bytes := 8 }),
  (204, { agg := false, cts := [.ptr], bytes := 8 }),
  (205, { agg := true, cts := [.ptr, .slice 1], offs := [(0, 204), (1, 199)], bytes := 32 }),
  (206, { agg := true, cts := [.ptr, .slice 1], offs := [(0, 204), (1, 199)], bytes := 32 }),
  (208, { agg := false, cts := [.oth], bytes := 16 }),
  (210, { agg := false, cts := [.oth], bytes := 8 }),
  (214, { agg := true, cts := [.str, .int .i64, .int .i64], offs := [(0, 9), (1, 3), (2, 3)], bytes := 32 }),
  (215, { agg := true, cts := [.str, .int .i64, .int .i64], offs := [(0, 9), (1, 3), (2, 3)], bytes := 32 }),
  (217, { agg := true, cts := [.int .i64, .slice 1, .str, .int .i64, .int .i64], offs := [(0, 3), (1, 70), (2, 9), (3, 3), (4, 3)], bytes := 64 }),
  (218, { agg := true, cts := [.int .i64, .slice 1, .str, .int .i64, .int .i64], offs := [(0, 3), (1, 70), (2, 9), (3, 3), (4, 3)], bytes := 64 }),
  (220, { agg := true, cts := [.str, .int .i64, .int .i64], offs := [(0, 9), (1, 3), (2, 3)], bytes := 32 }),
  (221, { agg := false, cts := [.oth], bytes := 8 }),
  (222, { agg := true, cts := [.int .i64, .slice 1, .str, .int .i64, .int .i64], offs := [(0, 3), (1, 70), (2, 9), (3, 3), (4, 3)], bytes := 64 }),
  (223, { agg := false, cts := [.slice 1], elem := some 39, bytes := 24 }),
  (225, { agg := false, cts := [.oth], bytes := 8 }),
  (226, { agg := false, cts := [.oth], bytes := 8 }),
  (227, { agg := false, cts := [.oth], elem := some 3, key := some 9, bytes := 8 }),
  (228, { agg := true, cts := [.slice 3, .slice 1, .int .i64, .slice 5, .int .i64, .int .i64, .slice 1, .slice 1, .slice 1, .slice 1, .slice 1], offs := [(0, 63), (4, 3), (5, 3), (6, 39), (7, 39), (8, 70), (9, 223), (10, 29)], bytes := 216 }),
  (229, { agg := true, cts := [.slice 3, .slice 1, .int .i64, .slice 5, .int .i64, .int .i64, .slice 1, .slice 1, .slice 1, .slice 1, .slice 1], offs := [(0, 63), (4, 3), (5, 3), (6, 39), (7, 39), (8, 70), (9, 223), (10, 29)], bytes := 216 }),
  (234, { agg := false, cts := [.oth], bytes := 8 }),
  (235, { agg := false, cts := [.oth], bytes := 8 }),
  (238, { agg := false, cts := [.slice 2], elem := some 275, bytes := 24 }),
  (239, { agg := false, cts := [.slice 2], elem := some 147, bytes := 24 }),
  (245, { agg := false, cts := [.ptr], bytes := 8 }),
  (246, { agg := true, cts := [.str, .int .i64, .int .i64, .slice 258], offs := [(0, 9), (1, 3), (2, 3), (3, 166)], bytes := 56 }),
  (247, { agg := true, cts := [.str, .int .i64, .int .i64, .slice 258], offs := [(0, 9), (1, 3), (2, 3), (3, 166)], bytes := 56 }),
  (249, { agg := true, cts := [.int .i64], offs := [(0, 3)], bytes := 8 }),
  (250, { agg := true, cts := [.int .i64], offs := [(0, 3)], bytes := 8 }),
  (252, { agg := false, cts := [.ptr], bytes := 8 }),
  (253, { agg := true, cts := [.str, .int .i64, .slice 256], offs := [(0, 9), (1, 3), (2, 170)], bytes := 48 }),
  (254, { agg := true, cts := [.str, .int .i64, .slice 256], offs := [(0, 9), (1, 3), (2, 170)], bytes := 48 }),
  (259, { agg := true, cts := [.str, .str, .bool, .slice 4, .slice 1, .int .i64], offs := [(0, 28), (4, 70), (5, 3)], bytes := 96 }),
  (260, { agg := true, cts := [.str, .str, .bool, .slice 4, .slice 1, .int .i64], offs := [(0, 28), (4, 70), (5, 3)], bytes := 96 }),
  (266, { agg := false, cts := [.int .u64], bytes := 8 }),
  (269, { agg := false, cts := [.ptr], bytes := 8 }),
  (275, { agg := true, cts := [.int .i64, .int .i64], offs := [(0, 3), (1, 3)], bytes := 16 }),
  (281, { agg := false, cts := [.slice 1], elem := some 169, bytes := 24 }),
  (282, { agg := true, cts := [.int .i64, .int .i64, .int .u8, .slice 1], offs := [(0, 3), (1, 3), (2, 5), (3, 281)], bytes := 48 }),
  (283, { agg := true, cts := [.int .i64, .int .i64, .int .u8, .slice 1], offs := [(0, 3), (1, 3), (2, 5), (3, 281)], bytes := 48 }),
  (284, { agg := false, cts := [.slice 1], elem := some 88, bytes := 24 }),
  (289, { agg := false, cts := [.int .u32], bytes := 4 }),
  (292, { agg := false, cts := [.int .u64], bytes := 8 }),
  (299, { agg := false, cts := [.ptr], bytes := 8 }),
  (300, { agg := false, cts := [.oth], bytes := 8 }),
  (305, { agg := true, cts := [.ptr, .ptr, .ptr, .str], offs := [(0, 17), (1, 17), (2, 17), (3, 9)], bytes := 40 }),
  (306, { agg := true, cts := [.ptr, .ptr, .ptr, .str], offs := [(0, 17), (1, 17), (2, 17), (3, 9)], bytes := 40 }),
  (310, { agg := false, cts := [.int .u8], bytes := 1 }),
  (311, { agg := false, cts := [.int .u8], bytes := 1 }),
  (313, { agg := false, cts := [.int .i32], bytes := 4 }),
  (314, { agg := false, cts := [.int .i32], bytes := 4 }),
  (315, { agg := true, cts := [.int .u64, .int .u64, .int .u32, .int .u8, .int .u8, .int .u8, .int .u8, .oth, .ptr, .int .i32, .int .i32], offs := [(0, 12), (1, 12), (2, 289), (3, 310), (4, 5), (5, 5), (6, 311), (7, 312), (8, 269), (9, 313), (10, 314)], bytes := 48 }),
  (316, { agg := true, cts := [.int .u64, .int .u64, .int .u32, .int .u8, .int .u8, .int .u8, .int .u8, .oth, .ptr, .int .i32, .int .i32], offs := [(0, 12), (1, 12), (2, 289), (3, 310), (4, 5), (5, 5), (6, 311), (7, 312), (8, 269), (9, 313), (10, 314)], bytes := 48 })]

noncomputable def fn4 : FnI := { nt := 56, res := [.tmp 4], body := (Try.f4.body.getD .skip), rts := [4] }
noncomputable def fn5 : FnI := { nt := 53, res := [.tmp 4], body := (Try.f5.body.getD .skip), rts := [4] }
noncomputable def fn21 : FnI := { nt := 27, res := [.tmp 4], body := (Try.f21.body.getD .skip), rts := [3], loops := [{ live := [0, 1, 5], liveX := [1] }] }
noncomputable def fn22 : FnI := { nt := 17, res := [.tmp 4, .tmp 5], body := (Try.f22.body.getD .skip), rts := [9, 3] }
noncomputable def fn23 : FnI := { nt := 23, res := [.tmp 2], body := (Try.f23.body.getD .skip), rts := [43], frz := false, loops := [{ live := [0, 3, 4], liveX := [3] }] }
noncomputable def fn24 : FnI := { nt := 22, res := [.tmp 2], body := (Try.f24.body.getD .skip), rts := [39], frz := false, loops := [{ live := [0, 3, 4], liveX := [3] }] }
noncomputable def fn25 : FnI := { nt := 17, res := [.tmp 4, .tmp 5], body := (Try.f25.body.getD .skip), rts := [9, 3], frz := false }
noncomputable def fn26 : FnI := { nt := 27, res := [.tmp 4], body := (Try.f26.body.getD .skip), rts := [4], loops := [{ live := [0, 1, 5], liveX := [] }] }
noncomputable def fn27 : FnI := { nt := 26, res := [.tmp 4], body := (Try.f27.body.getD .skip), rts := [4], loops := [{ live := [0, 1, 5], liveX := [] }] }
noncomputable def fn28 : FnI := { nt := 79, res := [.tmp 4, .tmp 5, .tmp 6], body := (Try.f28.body.getD .skip), rts := [9, 3, 3], loops := [{ live := [0, 1, 7, 8, 9, 10, 11], liveX := [8, 9] }, { live := [0, 1, 7, 8, 9, 10, 11, 12, 13], liveX := [0, 1, 7, 8, 9, 10, 11, 12] }] }
noncomputable def fn29 : FnI := { nt := 102, res := [.tmp 4, .tmp 5, .tmp 6], body := (Try.f29.body.getD .skip), rts := [9, 3, 3], frz := false, loops := [{ live := [0, 3, 7, 8, 9, 10, 11], liveX := [0, 8, 9] }, { live := [0, 3, 7, 8, 9, 10, 11, 12, 40, 41], liveX := [0, 3, 7, 8, 9, 10, 11, 12] }] }
noncomputable def fn38 : FnI := { nt := 22, res := [.tmp 2], body := (Try.f38.body.getD .skip), rts := [70], frz := false, loops := [{ live := [0, 3, 4], liveX := [3] }] }
noncomputable def fn40 : FnI := { nt := 26, res := [.tmp 4], body := (Try.f40.body.getD .skip), rts := [4], loops := [{ live := [0, 1, 5], liveX := [] }] }
noncomputable def fn66 : FnI := { nt := 19, res := [.tmp 4], body := (Try.f66.body.getD .skip), rts := [3] }
noncomputable def fn67 : FnI := { nt := 124, res := [.tmp 2], body := (Try.f67.body.getD .skip), rts := [4], loops := [{ live := [0, 3, 4], liveX := [0, 3] }, { live := [0, 3, 4, 5, 6, 7], liveX := [0, 3, 4] }, { live := [0, 3, 8], liveX := [] }] }
noncomputable def fn68 : FnI := { nt := 20, res := [.tmp 2], body := (Try.f68.body.getD .skip), rts := [3], loops := [{ live := [0, 3, 4], liveX := [3] }] }
noncomputable def fn69 : FnI := { nt := 20, res := [.tmp 4], body := (Try.f69.body.getD .skip), rts := [9] }
noncomputable def fn70 : FnI := { nt := 18, res := [.cell 2 115], body := (Try.f70.body.getD .skip), rts := [115], frz := false }
noncomputable def fn71 : FnI := { nt := 36, res := [.tmp 2], body := (Try.f71.body.getD .skip), rts := [4], frz := false, loops := [{ live := [0, 3, 20, 21], liveX := [0, 3] }] }
noncomputable def fn72 : FnI := { nt := 19, res := [.tmp 2], body := (Try.f72.body.getD .skip), rts := [3], frz := false, loops := [{ live := [3, 6, 7, 8], liveX := [3] }] }
noncomputable def fn73 : FnI := { nt := 24, res := [.tmp 4], body := (Try.f73.body.getD .skip), rts := [9], frz := false }
noncomputable def fn74 : FnI := { nt := 26, res := [.tmp 4], body := (Try.f74.body.getD .skip), rts := [4] }
noncomputable def fn75 : FnI := { nt := 15, res := [.tmp 6], body := (Try.f75.body.getD .skip), rts := [4] }
noncomputable def fn76 : FnI := { nt := 31, res := [.tmp 4, .tmp 5], body := (Try.f76.body.getD .skip), rts := [3, 3], loops := [{ live := [0, 1, 6, 7, 8, 9], liveX := [6, 7] }] }
noncomputable def fn77 : FnI := { nt := 37, res := [.tmp 4], body := (Try.f77.body.getD .skip), rts := [120], sink := true, loops := [{ live := [5, 6, 16, 17, 18], liveX := [5] }] }
noncomputable def fn78 : FnI := { nt := 7, res := [], body := (Try.f78.body.getD .skip), rts := [], frz := false }
noncomputable def fn79 : FnI := { nt := 15, res := [], body := (Try.f79.body.getD .skip), rts := [], frz := false }
noncomputable def fn80 : FnI := { nt := 110, res := [], body := (Try.f80.body.getD .skip), rts := [], frz := false, loops := [{ live := [0, 2, 3, 21, 22, 23], liveX := [] }] }
noncomputable def fn135 : FnI := { nt := 12, res := [.tmp 4], body := (Try.f135.body.getD .skip), rts := [3] }
noncomputable def fn136 : FnI := { nt := 17, res := [.tmp 4], body := (Try.f136.body.getD .skip), rts := [4], loops := [{ live := [0, 1, 5], liveX := [] }] }
noncomputable def fn137 : FnI := { nt := 110, res := [], body := (Try.f137.body.getD .skip), rts := [], loops := [{ live := [0, 2, 3, 8, 9], liveX := [] }] }
noncomputable def fn138 : FnI := { nt := 128, res := [.tmp 6], body := (Try.f138.body.getD .skip), rts := [4], frz := false, muts := [2], loops := [{ live := [1, 2, 106, 107, 108], liveX := [] }] }
noncomputable def fn139 : FnI := { nt := 5, res := [], body := (Try.f139.body.getD .skip), rts := [], frz := false, muts := [1] }
noncomputable def fn140 : FnI := { nt := 19, res := [.tmp 4, .tmp 5], body := (Try.f140.body.getD .skip), rts := [3, 208], frz := false, muts := [0] }
noncomputable def fn141 : FnI := { nt := 7, res := [], body := (Try.f141.body.getD .skip), rts := [], frz := false, muts := [1] }
noncomputable def fn142 : FnI := { nt := 125, res := [.tmp 4], body := (Try.f142.body.getD .skip), rts := [9], frz := false }
noncomputable def fn143 : FnI := { nt := 14, res := [.tmp 2], body := (Try.f143.body.getD .skip), rts := [9], frz := false, muts := [0] }
noncomputable def fn185 : FnI := { nt := 28, res := [], body := (Try.f185.body.getD .skip), rts := [], loops := [{ live := [0, 1, 4], liveX := [] }] }
noncomputable def fn186 : FnI := { nt := 12, res := [.tmp 4], body := (Try.f186.body.getD .skip), rts := [3], frz := false, rops := [0] }
noncomputable def fn187 : FnI := { nt := 9, res := [.tmp 4], body := (Try.f187.body.getD .skip), rts := [4] }
noncomputable def fn210 : FnI := { nt := 8, res := [.tmp 4], body := (Try.f210.body.getD .skip), rts := [3] }
noncomputable def fn221 : FnI := { nt := 143, res := [.tmp 4], body := (Try.f221.body.getD .skip), rts := [3], loops := [{ live := [0, 1, 5, 6, 7, 8, 9, 10], liveX := [] }] }
noncomputable def fn225 : FnI := { nt := 8, res := [.tmp 4], body := (Try.f225.body.getD .skip), rts := [3] }
noncomputable def fn227 : FnI := { nt := 6, res := [.tmp 2], body := (Try.f227.body.getD .skip), rts := [3] }
noncomputable def fn228 : FnI := { nt := 81, res := [.tmp 4], body := (Try.f228.body.getD .skip), rts := [3], loops := [{ live := [0, 1, 5, 6, 7, 8, 9], liveX := [0, 1, 5, 6, 7, 8] }, { live := [0, 1, 5, 6, 7, 8, 10], liveX := [] }] }
noncomputable def fn235 : FnI := { nt := 39, res := [.tmp 2, .tmp 3], body := (Try.f235.body.getD .skip), rts := [289, 289], loops := [{ live := [0, 4, 5], liveX := [0, 4] }, { live := [4, 6, 7, 8], liveX := [4, 6] }] }
abbrev bT : Nat := 206
abbrev bE : Nat := 5

noncomputable def ctx : Ctx := { tab := tab, fns := [(4, fn4), (5, fn5), (21, fn21), (22, fn22), (23, fn23), (24, fn24), (25, fn25), (26, fn26), (27, fn27), (28, fn28), (29, fn29), (38, fn38), (40, fn40), (66, fn66), (67, fn67), (68, fn68), (69, fn69), (70, fn70), (71, fn71), (72, fn72), (73, fn73), (74, fn74), (75, fn75), (76, fn76), (77, fn77), (78, fn78), (79, fn79), (80, fn80), (135, fn135), (136, fn136), (137, fn137), (138, fn138), (139, fn139), (140, fn140), (141, fn141), (142, fn142), (143, fn143), (185, fn185), (186, fn186), (187, fn187), (210, fn210), (221, fn221), (225, fn225), (227, fn227), (228, fn228), (235, fn235)], idxB := some 234, bld := some (206, 5), nats := [(140, 1), (142, 5), (143, 3)] }

end Go.Proofs.Ytnbpmjfemeeecaa
