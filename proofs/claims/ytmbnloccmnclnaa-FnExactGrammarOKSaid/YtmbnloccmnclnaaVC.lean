import Derived.Test.YtmbnloccmnclnaaVmd
import Derived.Test.YtmbnloccmnclnaaProg
namespace Go.Proofs.Ytmbnloccmnclnaa
open Go.VK

def tab : List (Nat × TI) := [
  (2, { agg := false, cts := [.int .i64], bytes := 8 }),
  (3, { agg := false, cts := [.int .i64], bytes := 8 }),
  (4, { agg := false, cts := [.bool], bytes := 1 }),
  (5, { agg := false, cts := [.int .u8], bytes := 1 }),
  (6, { agg := false, cts := [.int .u8], bytes := 1 }),
  (7, { agg := true, cts := [.int .i64, .int .i64, .bool, .int .u8], offs := [(0, 2), (1, 3), (2, 4), (3, 6)], bytes := 24 }),
  (8, { agg := true, cts := [.int .i64, .int .i64, .bool, .int .u8], offs := [(0, 2), (1, 3), (2, 4), (3, 6)], bytes := 24 }),
  (9, { agg := false, cts := [.str], bytes := 16 }),
  (10, { agg := false, cts := [.str], bytes := 16 }),
  (11, { agg := false, cts := [.str], bytes := 16 }),
  (12, { agg := false, cts := [.int .u64], bytes := 8 }),
  (13, { agg := true, cts := [.str, .int .u64], offs := [(0, 9), (1, 12)], bytes := 24 }),
  (14, { agg := true, cts := [.str, .int .u64], offs := [(0, 9), (1, 12)], bytes := 24 }),
  (15, { agg := false, cts := [.ptr], bytes := 8 }),
  (16, { agg := false, cts := [.ptr], bytes := 8 }),
  (17, { agg := false, cts := [.ptr], bytes := 8 }),
  (18, { agg := true, cts := [.ptr], offs := [(0, 17)], bytes := 8 }),
  (19, { agg := true, cts := [.ptr], offs := [(0, 17)], bytes := 8 }),
  (21, { agg := false, cts := [.int .i32], bytes := 4 }),
  (22, { agg := false, cts := [.slice 3], elem := some 254, bytes := 24 }),
  (23, { agg := false, cts := [.slice 1], elem := some 9, bytes := 24 }),
  (24, { agg := false, cts := [.slice 5], elem := some 256, bytes := 24 }),
  (25, { agg := true, cts := [.slice 3, .slice 1, .int .i64, .slice 5], offs := [(0, 22), (1, 23), (2, 3), (3, 24)], bytes := 80 }),
  (26, { agg := true, cts := [.slice 3, .slice 1, .int .i64, .slice 5], offs := [(0, 22), (1, 23), (2, 3), (3, 24)], bytes := 80 }),
  (30, { agg := false, cts := [.slice 3], elem := some 151, bytes := 24 }),
  (31, { agg := false, cts := [.slice 5], elem := some 214, bytes := 24 }),
  (32, { agg := true, cts := [.slice 3, .slice 1, .int .i64, .slice 5], offs := [(0, 30), (1, 23), (2, 3), (3, 31)], bytes := 80 }),
  (33, { agg := true, cts := [.slice 3, .slice 1, .int .i64, .slice 5], offs := [(0, 30), (1, 23), (2, 3), (3, 31)], bytes := 80 }),
  (37, { agg := false, cts := [.slice 4], elem := some 133, bytes := 24 }),
  (38, { agg := false, cts := [.slice 1], elem := some 4, bytes := 24 }),
  (42, { agg := false, cts := [.slice 4], elem := some 137, bytes := 24 }),
  (48, { agg := false, cts := [.slice 6], elem := some 142, bytes := 24 }),
  (50, { agg := false, cts := [.slice 1], elem := some 3, bytes := 24 }),
  (53, { agg := false, cts := [.slice 6], elem := some 146, bytes := 24 }),
  (61, { agg := false, cts := [.slice 4], elem := some 63, bytes := 24 }),
  (62, { agg := true, cts := [.str, .str, .bool, .slice 4], offs := [(0, 9), (1, 9), (2, 4), (3, 61)], bytes := 64 }),
  (63, { agg := true, cts := [.str, .str, .bool, .slice 4], offs := [(0, 9), (1, 9), (2, 4), (3, 61)], bytes := 64 }),
  (65, { agg := false, cts := [.slice 3], elem := some 288, bytes := 24 }),
  (66, { agg := false, cts := [.slice 2], elem := some 285, bytes := 24 }),
  (67, { agg := true, cts := [.int .i64, .slice 3, .slice 2, .slice 2], offs := [(0, 3), (1, 65), (2, 66), (3, 66)], bytes := 80 }),
  (68, { agg := true, cts := [.int .i64, .slice 3, .slice 2, .slice 2], offs := [(0, 3), (1, 65), (2, 66), (3, 66)], bytes := 80 }),
  (69, { agg := false, cts := [.slice 1], elem := some 50, bytes := 24 }),
  (72, { agg := false, cts := [.slice 4], elem := some 74, bytes := 24 }),
  (73, { agg := true, cts := [.str, .str, .bool, .slice 4], offs := [(0, 9), (1, 9), (2, 4), (3, 72)], bytes := 64 }),
  (74, { agg := true, cts := [.str, .str, .bool, .slice 4], offs := [(0, 9), (1, 9), (2, 4), (3, 72)], bytes := 64 }),
  (86, { agg := false, cts := [.slice 3], elem := some 296, bytes := 24 }),
  (87, { agg := false, cts := [.slice 2], elem := some 298, bytes := 24 }),
  (88, { agg := false, cts := [.slice 2], elem := some 302, bytes := 24 }),
  (89, { agg := false, cts := [.slice 3], elem := some 305, bytes := 24 }),
  (90, { agg := true, cts := [.str, .slice 3, .slice 2, .slice 2, .slice 3], offs := [(0, 9), (1, 86), (2, 87), (3, 88), (4, 89)], bytes := 112 }),
  (91, { agg := true, cts := [.str, .slice 3, .slice 2, .slice 2, .slice 3], offs := [(0, 9), (1, 86), (2, 87), (3, 88), (4, 89)], bytes := 112 }),
  (94, { agg := false, cts := [.slice 3], elem := some 190, bytes := 24 }),
  (95, { agg := false, cts := [.slice 2], elem := some 192, bytes := 24 }),
  (96, { agg := false, cts := [.slice 2], elem := some 198, bytes := 24 }),
  (97, { agg := false, cts := [.slice 3], elem := some 307, bytes := 24 }),
  (98, { agg := true, cts := [.str, .slice 3, .slice 2, .slice 2, .slice 3], offs := [(0, 9), (1, 94), (2, 95), (3, 96), (4, 97)], bytes := 112 }),
  (99, { agg := true, cts := [.str, .slice 3, .slice 2, .slice 2, .slice 3], offs := [(0, 9), (1, 94), (2, 95), (3, 96), (4, 97)], bytes := 112 }),
  (106, { agg := false, cts := [.slice 8], elem := some 225, bytes := 24 }),
  (108, { agg := false, cts := [.slice 5], elem := some 236, bytes := 24 }),
  (111, { agg := false, cts := [.slice 8], elem := some 238, bytes := 24 }),
  (125, { agg := false, cts := [.ptr], bytes := 8 }),
  (132, { agg := true, cts := [.int .i64, .str, .int .i64, .slice 1], offs := [(0, 3), (1, 9), (2, 3), (3, 50)], bytes := 56 }),
  (133, { agg := true, cts := [.int .i64, .str, .int .i64, .slice 1], offs := [(0, 3), (1, 9), (2, 3), (3, 50)], bytes := 56 }),
  (137, { agg := true, cts := [.int .i64, .str, .int .i64, .slice 1], offs := [(0, 3), (1, 9), (2, 3), (3, 50)], bytes := 56 }),
  (141, { agg := true, cts := [.str, .str, .int .i64, .int .i64, .bool, .str], offs := [(0, 9), (1, 9), (2, 3), (3, 3), (4, 4), (5, 9)], bytes := 72 }),
  (142, { agg := true, cts := [.str, .str, .int .i64, .int .i64, .bool, .str], offs := [(0, 9), (1, 9), (2, 3), (3, 3), (4, 4), (5, 9)], bytes := 72 }),
  (143, { agg := false, cts := [.ptr], bytes := 8 }),
  (144, { agg := true, cts := [.str, .slice 3, .slice 2, .slice 2, .slice 3, .slice 3, .slice 1, .int .i64, .slice 5, .slice 1, .bool], offs := [(0, 99), (5, 33), (9, 50), (10, 4)], bytes := 224 }),
  (145, { agg := true, cts := [.str, .slice 3, .slice 2, .slice 2, .slice 3, .slice 3, .slice 1, .int .i64, .slice 5, .slice 1, .bool], offs := [(0, 99), (5, 33), (9, 50), (10, 4)], bytes := 224 }),
  (146, { agg := true, cts := [.str, .str, .int .i64, .int .i64, .bool, .str], offs := [(0, 9), (1, 9), (2, 3), (3, 3), (4, 4), (5, 9)], bytes := 72 }),
  (149, { agg := false, cts := [.oth], elem := some 3, key := some 9, bytes := 8 }),
  (150, { agg := true, cts := [.str, .int .i64, .int .i64], offs := [(0, 9), (1, 3), (2, 3)], bytes := 32 }),
  (151, { agg := true, cts := [.str, .int .i64, .int .i64], offs := [(0, 9), (1, 3), (2, 3)], bytes := 32 }),
  (159, { agg := false, cts := [.ptr], bytes := 8 }),
  (160, { agg := true, cts := [.int .i64, .slice 3, .slice 2, .slice 2, .slice 1, .slice 1], offs := [(0, 68), (4, 69), (5, 69)], bytes := 128 }),
  (161, { agg := true, cts := [.int .i64, .slice 3, .slice 2, .slice 2, .slice 1, .slice 1], offs := [(0, 68), (4, 69), (5, 69)], bytes := 128 }),
  (165, { agg := false, cts := [.ptr], bytes := 8 }),
  (166, { agg := true, cts := [.int .i64, .slice 3, .slice 2, .slice 2, .slice 1, .slice 1], offs := [(0, 68), (4, 69), (5, 69)], bytes := 128 }),
  (167, { agg := true, cts := [.int .i64, .slice 3, .slice 2, .slice 2, .slice 1, .slice 1], offs := [(0, 68), (4, 69), (5, 69)], bytes := 128 }),
  (177, { agg := false, cts := [.ptr], bytes := 8 }),
  (181, { agg := true, cts := [.slice 4, .slice 1, .slice 1, .oth, .oth], offs := [(0, 42), (1, 50), (2, 38), (3, 179), (4, 180)], bytes := 88 }),
  (182, { agg := true, cts := [.slice 4, .slice 1, .slice 1, .oth, .oth], offs := [(0, 42), (1, 50), (2, 38), (3, 179), (4, 180)], bytes := 88 }),
  (189, { agg := true, cts := [.str, .str, .bool], offs := [(0, 9), (1, 9), (2, 4)], bytes := 40 }),
  (190, { agg := true, cts := [.str, .str, .bool], offs := [(0, 9), (1, 9), (2, 4)], bytes := 40 }),
  (191, { agg := true, cts := [.int .i64, .slice 1], offs := [(0, 3), (1, 23)], bytes := 32 }),
  (192, { agg := true, cts := [.int .i64, .slice 1], offs := [(0, 3), (1, 23)], bytes := 32 }),
  (193, { agg := false, cts := [.ptr], bytes := 8 }),
  (194, { agg := true, cts := [.str, .slice 3, .slice 2, .slice 2, .slice 3, .int .i64, .bool], offs := [(0, 99), (5, 3), (6, 4)], bytes := 128 }),
  (195, { agg := true, cts := [.str, .slice 3, .slice 2, .slice 2, .slice 3, .int .i64, .bool], offs := [(0, 99), (5, 3), (6, 4)], bytes := 128 }),
  (196, { agg := false, cts := [.slice 2], elem := some 200, bytes := 24 }),
  (197, { agg := true, cts := [.str, .slice 2], offs := [(0, 9), (1, 196)], bytes := 40 }),
  (198, { agg := true, cts := [.str, .slice 2], offs := [(0, 9), (1, 196)], bytes := 40 }),
  (199, { agg := true, cts := [.slice 1, .str], offs := [(0, 50), (1, 9)], bytes := 40 }),
  (200, { agg := true, cts := [.slice 1, .str], offs := [(0, 50), (1, 9)], bytes := 40 }),
  (207, { agg := false, cts := [.ptr], bytes := 8 }),
  (213, { agg := true, cts := [.int .i64, .slice 1, .str, .int .i64, .int .i64], offs := [(0, 3), (1, 50), (2, 9), (3, 3), (4, 3)], bytes := 64 }),
  (214, { agg := true, cts := [.int .i64, .slice 1, .str, .int .i64, .int .i64], offs := [(0, 3), (1, 50), (2, 9), (3, 3), (4, 3)], bytes := 64 }),
  (218, { agg := false, cts := [.slice 1], elem := some 38, bytes := 24 }),
  (219, { agg := true, cts := [.slice 3, .slice 1, .int .i64, .slice 5, .int .i64, .int .i64, .slice 1, .slice 1, .slice 1, .slice 1, .slice 1], offs := [(0, 33), (4, 3), (5, 3), (6, 38), (7, 38), (8, 50), (9, 218), (10, 69)], bytes := 216 }),
  (220, { agg := true, cts := [.slice 3, .slice 1, .int .i64, .slice 5, .int .i64, .int .i64, .slice 1, .slice 1, .slice 1, .slice 1, .slice 1], offs := [(0, 33), (4, 3), (5, 3), (6, 38), (7, 38), (8, 50), (9, 218), (10, 69)], bytes := 216 }),
  (224, { agg := true, cts := [.str, .str, .bool, .slice 4, .str, .str, .bool, .slice 4], offs := [(0, 63), (4, 63)], bytes := 128 }),
  (225, { agg := true, cts := [.str, .str, .bool, .slice 4, .str, .str, .bool, .slice 4], offs := [(0, 63), (4, 63)], bytes := 128 }),
  (235, { agg := true, cts := [.str, .str, .str, .bool, .slice 4], offs := [(0, 9), (1, 74)], bytes := 80 }),
  (236, { agg := true, cts := [.str, .str, .str, .bool, .slice 4], offs := [(0, 9), (1, 74)], bytes := 80 }),
  (237, { agg := true, cts := [.str, .str, .bool, .slice 4, .str, .str, .bool, .slice 4], offs := [(0, 74), (4, 74)], bytes := 128 }),
  (238, { agg := true, cts := [.str, .str, .bool, .slice 4, .str, .str, .bool, .slice 4], offs := [(0, 74), (4, 74)], bytes := 128 }),
  (240, { agg := false, cts := [.ptr], bytes := 8 }),
  (243, { agg := false, cts := [.oth], elem := some 332, key := some 247, bytes := 8 }),
  (244, { agg := false, cts := [.oth], elem := some 247, key := some 9, bytes := 8 }),
  (245, { agg := true, cts := [.oth, .slice 1, .int .i64], offs := [(0, 244), (1, 23), (2, 3)], bytes := 40 }),
  (246, { agg := true, cts := [.oth, .slice 1, .int .i64], offs := [(0, 244), (1, 23), (2, 3)], bytes := 40 }),
  (247, { agg := false, cts := [.ptr], bytes := 8 }),
  (254, { agg := true, cts := [.str, .int .i64, .int .i64], offs := [(0, 9), (1, 3), (2, 3)], bytes := 32 }),
  (256, { agg := true, cts := [.int .i64, .slice 1, .str, .int .i64, .int .i64], offs := [(0, 3), (1, 50), (2, 9), (3, 3), (4, 3)], bytes := 64 }),
  (268, { agg := false, cts := [.ptr], bytes := 8 }),
  (269, { agg := false, cts := [.slice 1], elem := some 5, bytes := 24 }),
  (270, { agg := true, cts := [.slice 4, .slice 1, .slice 1], offs := [(0, 42), (1, 38), (2, 269)], bytes := 72 }),
  (271, { agg := true, cts := [.slice 4, .slice 1, .slice 1], offs := [(0, 42), (1, 38), (2, 269)], bytes := 72 }),
  (273, { agg := false, cts := [.oth], elem := some 3, key := some 3, bytes := 8 }),
  (275, { agg := false, cts := [.ptr], bytes := 8 }),
  (276, { agg := true, cts := [.ptr, .slice 1], offs := [(0, 275), (1, 269)], bytes := 32 }),
  (277, { agg := true, cts := [.ptr, .slice 1], offs := [(0, 275), (1, 269)], bytes := 32 }),
  (279, { agg := false, cts := [.oth], bytes := 16 }),
  (284, { agg := true, cts := [.int .i64, .str], offs := [(0, 3), (1, 9)], bytes := 24 }),
  (285, { agg := true, cts := [.int .i64, .str], offs := [(0, 3), (1, 9)], bytes := 24 }),
  (287, { agg := true, cts := [.int .i64, .int .i64, .int .i64], offs := [(0, 3), (1, 3), (2, 3)], bytes := 24 }),
  (288, { agg := true, cts := [.int .i64, .int .i64, .int .i64], offs := [(0, 3), (1, 3), (2, 3)], bytes := 24 }),
  (292, { agg := false, cts := [.slice 1], elem := some 66, bytes := 24 }),
  (296, { agg := true, cts := [.str, .str, .bool], offs := [(0, 9), (1, 9), (2, 4)], bytes := 40 }),
  (298, { agg := true, cts := [.int .i64, .slice 1], offs := [(0, 3), (1, 23)], bytes := 32 }),
  (300, { agg := false, cts := [.slice 2], elem := some 364, bytes := 24 }),
  (301, { agg := true, cts := [.str, .slice 2], offs := [(0, 9), (1, 300)], bytes := 40 }),
  (302, { agg := true, cts := [.str, .slice 2], offs := [(0, 9), (1, 300)], bytes := 40 }),
  (304, { agg := true, cts := [.int .i64, .str, .slice 1], offs := [(0, 3), (1, 9), (2, 69)], bytes := 48 }),
  (305, { agg := true, cts := [.int .i64, .str, .slice 1], offs := [(0, 3), (1, 9), (2, 69)], bytes := 48 }),
  (307, { agg := true, cts := [.int .i64, .str, .slice 1], offs := [(0, 3), (1, 9), (2, 69)], bytes := 48 }),
  (318, { agg := false, cts := [.ptr], bytes := 8 }),
  (319, { agg := false, cts := [.slice 1], elem := some 23, bytes := 24 }),
  (320, { agg := true, cts := [.slice 5, .slice 1, .slice 1], offs := [(0, 108), (1, 23), (2, 319)], bytes := 72 }),
  (321, { agg := true, cts := [.slice 5, .slice 1, .slice 1], offs := [(0, 108), (1, 23), (2, 319)], bytes := 72 }),
  (325, { agg := false, cts := [.slice 1], elem := some 247, bytes := 24 }),
  (328, { agg := false, cts := [.oth], elem := some 3, key := some 247, bytes := 8 }),
  (330, { agg := true, cts := [.ptr, .bool, .int .i64, .str, .str, .bool, .slice 1], offs := [(0, 247), (1, 4), (2, 3), (3, 9), (4, 9), (5, 4), (6, 325)], bytes := 88 }),
  (331, { agg := true, cts := [.ptr, .bool, .int .i64, .str, .str, .bool, .slice 1], offs := [(0, 247), (1, 4), (2, 3), (3, 9), (4, 9), (5, 4), (6, 325)], bytes := 88 }),
  (339, { agg := false, cts := [.int .u64], bytes := 8 }),
  (343, { agg := false, cts := [.ptr], bytes := 8 }),
  (352, { agg := false, cts := [.slice 2], elem := some 351, bytes := 24 }),
  (356, { agg := false, cts := [.int .u32], bytes := 4 }),
  (359, { agg := false, cts := [.int .u64], bytes := 8 }),
  (364, { agg := true, cts := [.slice 1, .str], offs := [(0, 50), (1, 9)], bytes := 40 }),
  (374, { agg := true, cts := [.ptr, .ptr, .ptr, .str], offs := [(0, 17), (1, 17), (2, 17), (3, 9)], bytes := 40 }),
  (375, { agg := true, cts := [.ptr, .ptr, .ptr, .str], offs := [(0, 17), (1, 17), (2, 17), (3, 9)], bytes := 40 }),
  (379, { agg := false, cts := [.int .u8], bytes := 1 }),
  (380, { agg := false, cts := [.int .u8], bytes := 1 }),
  (382, { agg := false, cts := [.int .i32], bytes := 4 }),
  (383, { agg := false, cts := [.int .i32], bytes := 4 }),
  (384, { agg := true, cts := [.int .u64, .int .u64, .int .u32, .int .u8, .int .u8, .int .u8, .int .u8, .oth, .ptr, .int .i32, .int .i32], offs := [(0, 12), (1, 12), (2, 356), (3, 379), (4, 5), (5, 5), (6, 380), (7, 381), (8, 343), (9, 382), (10, 383)], bytes := 48 }),
  (385, { agg := true, cts := [.int .u64, .int .u64, .int .u32, .int .u8, .int .u8, .int .u8, .int .u8, .oth, .ptr, .int .i32, .int .i32], offs := [(0, 12), (1, 12), (2, 356), (3, 379), (4, 5), (5, 5), (6, 380), (7, 381), (8, 343), (9, 382), (10, 383)], bytes := 48 })]

/-- loop.example/g00037/laws.FnExactTerminals -/
noncomputable def fn5 : FnI := { nt := 156, res := [.tmp 4], body := (Try.f5.body.getD .skip), rts := [4] }
/-- loop.example/g00037/laws.FnExactGrammarOK -/
noncomputable def fn8 : FnI := { nt := 27, res := [.tmp 2], body := (Try.f8.body.getD .skip), rts := [4] }
/-- loop.example/g00037/laws.szBnf -/
noncomputable def fn11 : FnI := { nt := 24, res := [.tmp 4], body := (Try.f11.body.getD .skip), rts := [3] }
/-- loop.example/g00037/laws.toBnf -/
noncomputable def fn13 : FnI := { nt := 20, res := [.cell 2 33], body := (Try.f13.body.getD .skip), rts := [33], frz := false }
/-- loop.example/g00037/laws.eqBnf -/
noncomputable def fn15 : FnI := { nt := 28, res := [.tmp 4], body := (Try.f15.body.getD .skip), rts := [4] }
/-- loop.example/g00037/laws.szWordS -/
noncomputable def fn23 : FnI := { nt := 27, res := [.tmp 4], body := (Try.f23.body.getD .skip), rts := [3], loops := [{ live := [0, 1, 5], liveX := [1] }] }
/-- loop.example/g00037/spec.Terminals -/
noncomputable def fn24 : FnI := { nt := 70, res := [.tmp 4, .tmp 5, .tmp 6], body := (Try.f24.body.getD .skip), rts := [50, 50, 3], loops := [{ live := [1, 7, 8, 9, 10], liveX := [8, 9] }] }
/-- loop.example/g00037/laws.toWordS -/
noncomputable def fn25 : FnI := { nt := 23, res := [.tmp 2], body := (Try.f25.body.getD .skip), rts := [53], frz := false, loops := [{ live := [0, 3, 4], liveX := [3] }] }
/-- loop.example/g00037/impl.Terminals -/
noncomputable def fn26 : FnI := { nt := 75, res := [.tmp 4, .tmp 5, .tmp 6], body := (Try.f26.body.getD .skip), rts := [50, 50, 3], frz := false, loops := [{ live := [1, 7, 27, 28, 29], liveX := [1, 7], own := [10, 11] }, { live := [7, 10, 11, 39, 40, 41], liveX := [10, 11], own := [10, 11] }] }
/-- loop.example/g00037/laws.eqIntS -/
noncomputable def fn27 : FnI := { nt := 26, res := [.tmp 4], body := (Try.f27.body.getD .skip), rts := [4], loops := [{ live := [0, 1, 5], liveX := [] }] }
/-- loop.example/g00037/laws.eqWordS -/
noncomputable def fn28 : FnI := { nt := 27, res := [.tmp 4], body := (Try.f28.body.getD .skip), rts := [4], loops := [{ live := [0, 1, 5], liveX := [] }] }
/-- loop.example/g00037/laws.markBnf -/
noncomputable def fn29 : FnI := { nt := 18, res := [.tmp 4], body := (Try.f29.body.getD .skip), rts := [3], muts := [0] }
/-- loop.example/g00037/laws.markWordS -/
noncomputable def fn30 : FnI := { nt := 60, res := [.tmp 4], body := (Try.f30.body.getD .skip), rts := [3], muts := [0], loops := [{ live := [0, 1, 5], liveX := [1] }] }
/-- loop.example/g00037/laws.markIntS -/
noncomputable def fn31 : FnI := { nt := 19, res := [.tmp 4], body := (Try.f31.body.getD .skip), rts := [3], muts := [0], loops := [{ live := [0, 1, 5], liveX := [1] }] }
/-- loop.example/g00037/laws.heldIntS -/
noncomputable def fn32 : FnI := { nt := 21, res := [.tmp 4], body := (Try.f32.body.getD .skip), rts := [3], loops := [{ live := [0, 1, 5], liveX := [1] }] }
/-- loop.example/g00037/laws.eqIntSS -/
noncomputable def fn38 : FnI := { nt := 27, res := [.tmp 4], body := (Try.f38.body.getD .skip), rts := [4], loops := [{ live := [0, 1, 5], liveX := [] }] }
/-- loop.example/g00037/laws.szGrammar -/
noncomputable def fn47 : FnI := { nt := 37, res := [.tmp 4], body := (Try.f47.body.getD .skip), rts := [3] }
/-- loop.example/g00037/spec.GrammarOK -/
noncomputable def fn48 : FnI := { nt := 155, res := [.tmp 2], body := (Try.f48.body.getD .skip), rts := [4], loops := [{ live := [1, 3], liveX := [1] }, { live := [1, 4], liveX := [1] }, { live := [1, 4, 5, 6], liveX := [1, 4] }, { live := [1, 7, 8], liveX := [1, 7] }, { live := [1, 7, 8, 9, 10], liveX := [1, 7, 8] }] }
/-- loop.example/g00037/laws.toGrammar -/
noncomputable def fn49 : FnI := { nt := 24, res := [.cell 2 99], body := (Try.f49.body.getD .skip), rts := [99], frz := false }
/-- loop.example/g00037/impl.GrammarOK -/
noncomputable def fn50 : FnI := { nt := 144, res := [.tmp 2], body := (Try.f50.body.getD .skip), rts := [4], frz := false, loops := [{ live := [1, 43, 44, 45], liveX := [1] }, { live := [1, 61, 62, 63], liveX := [1] }, { live := [1, 61, 62, 63, 82, 83, 84], liveX := [1, 61, 62, 63] }, { live := [1, 9, 94, 95, 96], liveX := [1, 9] }, { live := [1, 9, 94, 95, 96, 111, 112, 113], liveX := [1, 9, 94, 95, 96] }] }
/-- loop.example/g00037/laws.eqGrammar -/
noncomputable def fn51 : FnI := { nt := 34, res := [.tmp 4], body := (Try.f51.body.getD .skip), rts := [4] }
/-- loop.example/g00037/laws.szTermS -/
noncomputable def fn63 : FnI := { nt := 27, res := [.tmp 4], body := (Try.f63.body.getD .skip), rts := [3], loops := [{ live := [0, 1, 5], liveX := [1] }] }
/-- loop.example/g00037/laws.szStringS -/
noncomputable def fn64 : FnI := { nt := 28, res := [.tmp 4], body := (Try.f64.body.getD .skip), rts := [3], loops := [{ live := [0, 1, 5], liveX := [1] }] }
/-- loop.example/g00037/laws.szProdS -/
noncomputable def fn65 : FnI := { nt := 27, res := [.tmp 4], body := (Try.f65.body.getD .skip), rts := [3], loops := [{ live := [0, 1, 5], liveX := [1] }] }
/-- loop.example/g00037/spec.BnfOK -/
noncomputable def fn66 : FnI := { nt := 161, res := [.tmp 2], body := (Try.f66.body.getD .skip), rts := [4], loops := [{ live := [1, 3], liveX := [1] }, { live := [1, 3, 4], liveX := [1, 3] }, { live := [1, 5], liveX := [1] }, { live := [1, 6, 7], liveX := [] }, { live := [1, 6, 7, 8, 9], liveX := [1, 6, 7] }] }
/-- loop.example/g00037/laws.toTermS -/
noncomputable def fn68 : FnI := { nt := 23, res := [.tmp 2], body := (Try.f68.body.getD .skip), rts := [30], frz := false, loops := [{ live := [0, 3, 4], liveX := [3] }] }
/-- loop.example/g00037/laws.toStringS -/
noncomputable def fn69 : FnI := { nt := 22, res := [.tmp 2], body := (Try.f69.body.getD .skip), rts := [23], frz := false, loops := [{ live := [0, 3, 4], liveX := [3] }] }
/-- loop.example/g00037/laws.toProdS -/
noncomputable def fn70 : FnI := { nt := 23, res := [.tmp 2], body := (Try.f70.body.getD .skip), rts := [31], frz := false, loops := [{ live := [0, 3, 4], liveX := [3] }] }
/-- loop.example/g00037/impl.BnfOK -/
noncomputable def fn71 : FnI := { nt := 156, res := [.tmp 2], body := (Try.f71.body.getD .skip), rts := [4], frz := false, loops := [{ live := [1, 3, 51, 52, 53], liveX := [1] }, { live := [1, 6, 76, 77, 78], liveX := [1] }, { live := [1, 9, 97, 98, 99], liveX := [] }, { live := [1, 9, 97, 98, 99, 141, 142, 143], liveX := [1, 9, 97, 98, 99] }] }
/-- loop.example/g00037/laws.eqTermS -/
noncomputable def fn74 : FnI := { nt := 27, res := [.tmp 4], body := (Try.f74.body.getD .skip), rts := [4], loops := [{ live := [0, 1, 5], liveX := [] }] }
/-- loop.example/g00037/laws.eqStringS -/
noncomputable def fn75 : FnI := { nt := 26, res := [.tmp 4], body := (Try.f75.body.getD .skip), rts := [4], loops := [{ live := [0, 1, 5], liveX := [] }] }
/-- loop.example/g00037/laws.eqProdS -/
noncomputable def fn76 : FnI := { nt := 27, res := [.tmp 4], body := (Try.f76.body.getD .skip), rts := [4], loops := [{ live := [0, 1, 5], liveX := [] }] }
/-- loop.example/g00037/laws.szWord -/
noncomputable def fn86 : FnI := { nt := 27, res := [.tmp 4], body := (Try.f86.body.getD .skip), rts := [3] }
/-- (*loop.example/g00037/spec.l03Lower).term -/
noncomputable def fn87 : FnI := { nt := 28, res := [.tmp 4], body := (Try.f87.body.getD .skip), rts := [3], loops := [{ live := [0, 1, 5], liveX := [] }] }
/-- loop.example/g00037/laws.toWord -/
noncomputable def fn88 : FnI := { nt := 23, res := [.cell 2 146], body := (Try.f88.body.getD .skip), rts := [146], frz := false }
/-- loop.example/g00037/laws.eqWord -/
noncomputable def fn89 : FnI := { nt := 35, res := [.tmp 4], body := (Try.f89.body.getD .skip), rts := [4] }
/-- loop.example/g00037/laws.markTermS -/
noncomputable def fn90 : FnI := { nt := 35, res := [.tmp 4], body := (Try.f90.body.getD .skip), rts := [3], muts := [0], loops := [{ live := [0, 1, 5], liveX := [1] }] }
/-- loop.example/g00037/laws.markStringS -/
noncomputable def fn91 : FnI := { nt := 20, res := [.tmp 4], body := (Try.f91.body.getD .skip), rts := [3], muts := [0], loops := [{ live := [0, 1, 5], liveX := [1] }] }
/-- loop.example/g00037/laws.markProdS -/
noncomputable def fn92 : FnI := { nt := 49, res := [.tmp 4], body := (Try.f92.body.getD .skip), rts := [3], muts := [0], loops := [{ live := [0, 1, 5], liveX := [1] }] }
/-- loop.example/g00037/laws.markText -/
noncomputable def fn93 : FnI := { nt := 20, res := [.tmp 2], body := (Try.f93.body.getD .skip), rts := [9], loops := [{ live := [0, 3], liveX := [3] }] }
/-- loop.example/g00037/spec.l01Between -/
noncomputable def fn110 : FnI := { nt := 15, res := [.tmp 6], body := (Try.f110.body.getD .skip), rts := [4] }
/-- loop.example/g00037/laws.szTokenS -/
noncomputable def fn116 : FnI := { nt := 27, res := [.tmp 4], body := (Try.f116.body.getD .skip), rts := [3], loops := [{ live := [0, 1, 5], liveX := [1] }] }
/-- loop.example/g00037/laws.szLevelS -/
noncomputable def fn117 : FnI := { nt := 27, res := [.tmp 4], body := (Try.f117.body.getD .skip), rts := [3], loops := [{ live := [0, 1, 5], liveX := [1] }] }
/-- loop.example/g00037/laws.szGRuleS -/
noncomputable def fn118 : FnI := { nt := 27, res := [.tmp 4], body := (Try.f118.body.getD .skip), rts := [3], loops := [{ live := [0, 1, 5], liveX := [1] }] }
/-- loop.example/g00037/laws.szPartS -/
noncomputable def fn119 : FnI := { nt := 27, res := [.tmp 4], body := (Try.f119.body.getD .skip), rts := [3], loops := [{ live := [0, 1, 5], liveX := [1] }] }
/-- loop.example/g00037/spec.l03Small -/
noncomputable def fn120 : FnI := { nt := 25, res := [.tmp 2], body := (Try.f120.body.getD .skip), rts := [4] }
/-- loop.example/g00037/spec.l03Plain -/
noncomputable def fn121 : FnI := { nt := 10, res := [.tmp 2], body := (Try.f121.body.getD .skip), rts := [4] }
/-- loop.example/g00037/spec.l03RxOK -/
noncomputable def fn122 : FnI := { nt := 10, res := [.tmp 2], body := (Try.f122.body.getD .skip), rts := [4] }
/-- loop.example/g00037/spec.l03LitOK -/
noncomputable def fn123 : FnI := { nt := 15, res := [.tmp 2], body := (Try.f123.body.getD .skip), rts := [4] }
/-- (*loop.example/g00037/spec.l03Walk).items -/
noncomputable def fn124 : FnI := { nt := 151, res := [], body := (Try.f124.body.getD .skip), rts := [], loops := [{ live := [0, 1, 2, 6], liveX := [] }, { live := [0, 1, 2, 6, 7, 8], liveX := [0, 1, 2, 6] }] }
/-- loop.example/g00037/laws.toTokenS -/
noncomputable def fn125 : FnI := { nt := 23, res := [.tmp 2], body := (Try.f125.body.getD .skip), rts := [94], frz := false, loops := [{ live := [0, 3, 4], liveX := [3] }] }
/-- loop.example/g00037/laws.toLevelS -/
noncomputable def fn126 : FnI := { nt := 23, res := [.tmp 2], body := (Try.f126.body.getD .skip), rts := [95], frz := false, loops := [{ live := [0, 3, 4], liveX := [3] }] }
/-- loop.example/g00037/laws.toGRuleS -/
noncomputable def fn127 : FnI := { nt := 23, res := [.tmp 2], body := (Try.f127.body.getD .skip), rts := [96], frz := false, loops := [{ live := [0, 3, 4], liveX := [3] }] }
/-- loop.example/g00037/laws.toPartS -/
noncomputable def fn128 : FnI := { nt := 23, res := [.tmp 2], body := (Try.f128.body.getD .skip), rts := [97], frz := false, loops := [{ live := [0, 3, 4], liveX := [3] }] }
/-- loop.example/g00037/impl.plainName -/
noncomputable def fn129 : FnI := { nt := 10, res := [.tmp 2], body := (Try.f129.body.getD .skip), rts := [4], frz := false }
/-- loop.example/g00037/impl.patternOK -/
noncomputable def fn130 : FnI := { nt := 23, res := [.tmp 2], body := (Try.f130.body.getD .skip), rts := [4], frz := false, loops := [{ live := [0, 3], liveX := [] }] }
/-- loop.example/g00037/impl.litOK -/
noncomputable def fn131 : FnI := { nt := 34, res := [.tmp 2], body := (Try.f131.body.getD .skip), rts := [4], frz := false, loops := [{ live := [0, 3], liveX := [] }] }
/-- loop.example/g00037/impl.inOrder -/
noncomputable def fn132 : FnI := { nt := 98, res := [.tmp 8], body := (Try.f132.body.getD .skip), rts := [4], frz := false, loops := [{ live := [2, 3, 4, 14, 15, 16], liveX := [] }, { live := [2, 3, 4, 14, 15, 16, 20, 21, 22], liveX := [2, 3, 4, 14, 15, 16] }] }
/-- loop.example/g00037/laws.eqTokenS -/
noncomputable def fn133 : FnI := { nt := 27, res := [.tmp 4], body := (Try.f133.body.getD .skip), rts := [4], loops := [{ live := [0, 1, 5], liveX := [] }] }
/-- loop.example/g00037/laws.eqLevelS -/
noncomputable def fn134 : FnI := { nt := 27, res := [.tmp 4], body := (Try.f134.body.getD .skip), rts := [4], loops := [{ live := [0, 1, 5], liveX := [] }] }
/-- loop.example/g00037/laws.eqGRuleS -/
noncomputable def fn135 : FnI := { nt := 27, res := [.tmp 4], body := (Try.f135.body.getD .skip), rts := [4], loops := [{ live := [0, 1, 5], liveX := [] }] }
/-- loop.example/g00037/laws.eqPartS -/
noncomputable def fn136 : FnI := { nt := 27, res := [.tmp 4], body := (Try.f136.body.getD .skip), rts := [4], loops := [{ live := [0, 1, 5], liveX := [] }] }
/-- loop.example/g00037/laws.szTerm -/
noncomputable def fn162 : FnI := { nt := 13, res := [.tmp 4], body := (Try.f162.body.getD .skip), rts := [3] }
/-- loop.example/g00037/laws.szProd -/
noncomputable def fn163 : FnI := { nt := 19, res := [.tmp 4], body := (Try.f163.body.getD .skip), rts := [3] }
/-- loop.example/g00037/spec.l04Strength -/
noncomputable def fn164 : FnI := { nt := 23, res := [.tmp 4], body := (Try.f164.body.getD .skip), rts := [4] }
/-- loop.example/g00037/spec.l03At -/
noncomputable def fn165 : FnI := { nt := 19, res := [.tmp 4], body := (Try.f165.body.getD .skip), rts := [3], loops := [{ live := [0, 1, 5], liveX := [] }] }
/-- loop.example/g00037/spec.l01Name -/
noncomputable def fn166 : FnI := { nt := 29, res := [.tmp 2], body := (Try.f166.body.getD .skip), rts := [4], loops := [{ live := [0, 3], liveX := [] }] }
/-- loop.example/g00037/laws.toTerm -/
noncomputable def fn168 : FnI := { nt := 14, res := [.cell 2 151], body := (Try.f168.body.getD .skip), rts := [151], frz := false }
/-- loop.example/g00037/laws.toProd -/
noncomputable def fn169 : FnI := { nt := 21, res := [.cell 2 214], body := (Try.f169.body.getD .skip), rts := [214], frz := false }
/-- loop.example/g00037/impl.levelOK -/
noncomputable def fn170 : FnI := { nt := 21, res := [.tmp 4], body := (Try.f170.body.getD .skip), rts := [4], frz := false }
/-- loop.example/g00037/impl.nameOK -/
noncomputable def fn171 : FnI := { nt := 29, res := [.tmp 2], body := (Try.f171.body.getD .skip), rts := [4], frz := false, loops := [{ live := [0, 3], liveX := [] }] }
/-- loop.example/g00037/laws.eqTerm -/
noncomputable def fn178 : FnI := { nt := 20, res := [.tmp 4], body := (Try.f178.body.getD .skip), rts := [4] }
/-- loop.example/g00037/laws.eqProd -/
noncomputable def fn179 : FnI := { nt := 31, res := [.tmp 4], body := (Try.f179.body.getD .skip), rts := [4] }
/-- loop.example/g00037/laws.szIntS -/
noncomputable def fn180 : FnI := { nt := 12, res := [.tmp 4], body := (Try.f180.body.getD .skip), rts := [3] }
/-- loop.example/g00037/spec.l02In -/
noncomputable def fn181 : FnI := { nt := 17, res := [.tmp 4], body := (Try.f181.body.getD .skip), rts := [4], loops := [{ live := [0, 1, 5], liveX := [] }] }
/-- loop.example/g00037/laws.toIntS -/
noncomputable def fn183 : FnI := { nt := 22, res := [.tmp 2], body := (Try.f183.body.getD .skip), rts := [50], frz := false, loops := [{ live := [0, 3, 4], liveX := [3] }] }
/-- loop.example/g00037/laws.szToken -/
noncomputable def fn201 : FnI := { nt := 20, res := [.tmp 4], body := (Try.f201.body.getD .skip), rts := [3] }
/-- loop.example/g00037/laws.szLevel -/
noncomputable def fn202 : FnI := { nt := 12, res := [.tmp 4], body := (Try.f202.body.getD .skip), rts := [3] }
/-- loop.example/g00037/laws.szGRule -/
noncomputable def fn203 : FnI := { nt := 19, res := [.tmp 4], body := (Try.f203.body.getD .skip), rts := [3] }
/-- loop.example/g00037/laws.szPart -/
noncomputable def fn204 : FnI := { nt := 19, res := [.tmp 4], body := (Try.f204.body.getD .skip), rts := [3] }
/-- loop.example/g00037/spec.l03Keyword -/
noncomputable def fn205 : FnI := { nt := 18, res := [.tmp 2], body := (Try.f205.body.getD .skip), rts := [4], loops := [{ live := [0, 3, 4], liveX := [] }] }
/-- loop.example/g00037/spec.l03Bytes -/
noncomputable def fn206 : FnI := { nt := 26, res := [.tmp 6], body := (Try.f206.body.getD .skip), rts := [4], loops := [{ live := [0, 1, 2, 7], liveX := [] }] }
/-- loop.example/g00037/laws.toToken -/
noncomputable def fn207 : FnI := { nt := 14, res := [.cell 2 190], body := (Try.f207.body.getD .skip), rts := [190], frz := false }
/-- loop.example/g00037/laws.toLevel -/
noncomputable def fn208 : FnI := { nt := 12, res := [.cell 2 192], body := (Try.f208.body.getD .skip), rts := [192], frz := false }
/-- loop.example/g00037/laws.toGRule -/
noncomputable def fn209 : FnI := { nt := 12, res := [.cell 2 198], body := (Try.f209.body.getD .skip), rts := [198], frz := false }
/-- loop.example/g00037/laws.toPart -/
noncomputable def fn210 : FnI := { nt := 15, res := [.cell 2 307], body := (Try.f210.body.getD .skip), rts := [307], frz := false }
/-- loop.example/g00037/impl.keyword -/
noncomputable def fn211 : FnI := { nt := 11, res := [.tmp 2], body := (Try.f211.body.getD .skip), rts := [4], frz := false }
/-- loop.example/g00037/laws.eqToken -/
noncomputable def fn212 : FnI := { nt := 20, res := [.tmp 4], body := (Try.f212.body.getD .skip), rts := [4] }
/-- loop.example/g00037/laws.eqLevel -/
noncomputable def fn213 : FnI := { nt := 16, res := [.tmp 4], body := (Try.f213.body.getD .skip), rts := [4] }
/-- loop.example/g00037/laws.eqGRule -/
noncomputable def fn214 : FnI := { nt := 16, res := [.tmp 4], body := (Try.f214.body.getD .skip), rts := [4] }
/-- loop.example/g00037/laws.eqPart -/
noncomputable def fn215 : FnI := { nt := 21, res := [.tmp 4], body := (Try.f215.body.getD .skip), rts := [4] }
/-- loop.example/g00037/spec.l01Letter -/
noncomputable def fn226 : FnI := { nt := 17, res := [.tmp 2], body := (Try.f226.body.getD .skip), rts := [4] }
/-- loop.example/g00037/spec.l01NameByte -/
noncomputable def fn227 : FnI := { nt := 13, res := [.tmp 2], body := (Try.f227.body.getD .skip), rts := [4] }
/-- loop.example/g00037/impl.isLetter -/
noncomputable def fn230 : FnI := { nt := 17, res := [.tmp 2], body := (Try.f230.body.getD .skip), rts := [4], frz := false }
/-- loop.example/g00037/impl.inName -/
noncomputable def fn231 : FnI := { nt := 13, res := [.tmp 2], body := (Try.f231.body.getD .skip), rts := [4], frz := false }
/-- loop.example/g00037/laws.szGAltS -/
noncomputable def fn247 : FnI := { nt := 27, res := [.tmp 4], body := (Try.f247.body.getD .skip), rts := [3], loops := [{ live := [0, 1, 5], liveX := [1] }] }
/-- loop.example/g00037/laws.szIntSS -/
noncomputable def fn248 : FnI := { nt := 27, res := [.tmp 4], body := (Try.f248.body.getD .skip), rts := [3], loops := [{ live := [0, 1, 5], liveX := [1] }] }
/-- loop.example/g00037/laws.toGAltS -/
noncomputable def fn249 : FnI := { nt := 23, res := [.tmp 2], body := (Try.f249.body.getD .skip), rts := [196], frz := false, loops := [{ live := [0, 3, 4], liveX := [3] }] }
/-- loop.example/g00037/laws.toIntSS -/
noncomputable def fn250 : FnI := { nt := 23, res := [.tmp 2], body := (Try.f250.body.getD .skip), rts := [69], frz := false, loops := [{ live := [0, 3, 4], liveX := [3] }] }
/-- loop.example/g00037/laws.eqGAltS -/
noncomputable def fn251 : FnI := { nt := 27, res := [.tmp 4], body := (Try.f251.body.getD .skip), rts := [4], loops := [{ live := [0, 1, 5], liveX := [] }] }
/-- loop.example/g00037/spec.l01Digit -/
noncomputable def fn258 : FnI := { nt := 9, res := [.tmp 2], body := (Try.f258.body.getD .skip), rts := [4] }
/-- loop.example/g00037/impl.isDigit -/
noncomputable def fn259 : FnI := { nt := 9, res := [.tmp 2], body := (Try.f259.body.getD .skip), rts := [4], frz := false }
/-- loop.example/g00037/laws.szGAlt -/
noncomputable def fn268 : FnI := { nt := 19, res := [.tmp 4], body := (Try.f268.body.getD .skip), rts := [3] }
/-- loop.example/g00037/laws.toGAlt -/
noncomputable def fn269 : FnI := { nt := 12, res := [.cell 2 200], body := (Try.f269.body.getD .skip), rts := [200], frz := false }
/-- loop.example/g00037/laws.eqGAlt -/
noncomputable def fn270 : FnI := { nt := 16, res := [.tmp 4], body := (Try.f270.body.getD .skip), rts := [4] }

noncomputable def ctx : Ctx := { tab := tab, fns := [(5, fn5), (8, fn8), (11, fn11), (13, fn13), (15, fn15), (23, fn23), (24, fn24), (25, fn25), (26, fn26), (27, fn27), (28, fn28), (29, fn29), (30, fn30), (31, fn31), (32, fn32), (38, fn38), (47, fn47), (48, fn48), (49, fn49), (50, fn50), (51, fn51), (63, fn63), (64, fn64), (65, fn65), (66, fn66), (68, fn68), (69, fn69), (70, fn70), (71, fn71), (74, fn74), (75, fn75), (76, fn76), (86, fn86), (87, fn87), (88, fn88), (89, fn89), (90, fn90), (91, fn91), (92, fn92), (93, fn93), (110, fn110), (116, fn116), (117, fn117), (118, fn118), (119, fn119), (120, fn120), (121, fn121), (122, fn122), (123, fn123), (124, fn124), (125, fn125), (126, fn126), (127, fn127), (128, fn128), (129, fn129), (130, fn130), (131, fn131), (132, fn132), (133, fn133), (134, fn134), (135, fn135), (136, fn136), (162, fn162), (163, fn163), (164, fn164), (165, fn165), (166, fn166), (168, fn168), (169, fn169), (170, fn170), (171, fn171), (178, fn178), (179, fn179), (180, fn180), (181, fn181), (183, fn183), (201, fn201), (202, fn202), (203, fn203), (204, fn204), (205, fn205), (206, fn206), (207, fn207), (208, fn208), (209, fn209), (210, fn210), (211, fn211), (212, fn212), (213, fn213), (214, fn214), (215, fn215), (226, fn226), (227, fn227), (230, fn230), (231, fn231), (247, fn247), (248, fn248), (249, fn249), (250, fn250), (251, fn251), (258, fn258), (259, fn259), (268, fn268), (269, fn269), (270, fn270)] }

end Go.Proofs.Ytmbnloccmnclnaa
