import Derived.Test.YtmbnloccmnclnaaVmd
import Derived.Test.YtmbnloccmnclnaaProg
namespace Go.Proofs.Ytmbnloccmnclnaa
open Go.VK

def tab : List (Nat × TI) := [
  (2, { agg := false, cts := [.int .i64], bytes := 8 }),
  (3, { agg := false, cts := [.int .i64], bytes := 8 }),
  (4, { agg := false, cts := [.bool], bytes := 1 }),
  (5, { agg := false, cts := [.int .u8], bytes := 1 }),
  (6, { agg := false, cts := [.int .u8], bytes := 1 }),
  (7, { agg := true, cts := [.int .i64, .int .i64, .bool, .int .u8], offs := [(0, 2), (1, 3), (2, 4), (3, 6)], bytes := 24 }),
  (8, { agg := true, cts := [.int .i64, .int .i64, .bool, .int .u8], offs := [(0, 2), (1, 3), (2, 4), (3, 6)], bytes := 24 }),
  (9, { agg := false, cts := [.str], bytes := 16 }),
  (10, { agg := false, cts := [.str], bytes := 16 }),
  (11, { agg := false, cts := [.str], bytes := 16 }),
  (12, { agg := false, cts := [.int .u64], bytes := 8 }),
  (13, { agg := true, cts := [.str, .int .u64], offs := [(0, 9), (1, 12)], bytes := 24 }),
  (14, { agg := true, cts := [.str, .int .u64], offs := [(0, 9), (1, 12)], bytes := 24 }),
  (15, { agg := false, cts := [.ptr], bytes := 8 }),
  (16, { agg := false, cts := [.ptr], bytes := 8 }),
  (17, { agg := false, cts := [.ptr], bytes := 8 }),
  (18, { agg := true, cts := [.ptr], offs := [(0, 17)], bytes := 8 }),
  (19, { agg := true, cts := [.ptr], offs := [(0, 17)], bytes := 8 }),
  (21, { agg := false, cts := [.int .i32], bytes := 4 }),
  (22, { agg := false, cts := [.slice 3], elem := some 254, bytes := 24 }),
  (23, { agg := false, cts := [.slice 1], elem := some 9, bytes := 24 }),
  (24, { agg := false, cts := [.slice 5], elem := some 256, bytes := 24 }),
  (25, { agg := true, cts := [.slice 3, .slice 1, .int .i64, .slice 5], offs := [(0, 22), (1, 23), (2, 3), (3, 24)], bytes := 80 }),
  (26, { agg := true, cts := [.slice 3, .slice 1, .int .i64, .slice 5], offs := [(0, 22), (1, 23), (2, 3), (3, 24)], bytes := 80 }),
  (30, { agg := false, cts := [.slice 3], elem := some 151, bytes := 24 }),
  (31, { agg := false, cts := [.slice 5], elem := some 214, bytes := 24 }),
  (32, { agg := true, cts := [.slice 3, .slice 1, .int .i64, .slice 5], offs := [(0, 30), (1, 23), (2, 3), (3, 31)], bytes := 80 }),
  (33, { agg := true, cts := [.slice 3, .slice 1, .int .i64, .slice 5], offs := [(0, 30), (1, 23), (2, 3), (3, 31)], bytes := 80 }),
  (37, { agg := false, cts := [.slice 4], elem := some 133, bytes := 24 }),
  (38, { agg := false, cts := [.slice 1], elem := some 4, bytes := 24 }),
  (42, { agg := false, cts := [.slice 4], elem := some 137, bytes := 24 }),
  (48, { agg := false, cts := [.slice 6], elem := some 142, bytes := 24 }),
  (50, { agg := false, cts := [.slice 1], elem := some 3, bytes := 24 }),
  (53, { agg := false, cts := [.slice 6], elem := some 146, bytes := 24 }),
  (61, { agg := false, cts := [.slice 4], elem := some 63, bytes := 24 }),
  (62, { agg := true, cts := [.str, .str, .bool, .slice 4], offs := [(0, 9), (1, 9), (2, 4), (3, 61)], bytes := 64 }),
  (63, { agg := true, cts := [.str, .str, .bool, .slice 4], offs := [(0, 9), (1, 9), (2, 4), (3, 61)], bytes := 64 }),
  (65, { agg := false, cts := [.slice 3], elem := some 288, bytes := 24 }),
  (66, { agg := false, cts := [.slice 2], elem := some 285, bytes := 24 }),
  (67, { agg := true, cts := [.int .i64, .slice 3, .slice 2, .slice 2], offs := [(0, 3), (1, 65), (2, 66), (3, 66)], bytes := 80 }),
  (68, { agg := true, cts := [.int .i64, .slice 3, .slice 2, .slice 2], offs := [(0, 3), (1, 65), (2, 66), (3, 66)], bytes := 80 }),
  (69, { agg := false, cts := [.slice 1], elem := some 50, bytes := 24 }),
  (72, { agg := false, cts := [.slice 4], elem := some 74, bytes := 24 }),
  (73, { agg := true, cts := [.str, .str, .bool, .slice 4], offs := [(0, 9), (1, 9), (2, 4), (3, 72)], bytes := 64 }),
  (74, { agg := true, cts := [.str, .str, .bool, .slice 4], offs := [(0, 9), (1, 9), (2, 4), (3, 72)], bytes := 64 }),
  (86, { agg := false, cts := [.slice 3], elem := some 296, bytes := 24 }),
  (87, { agg := false, cts := [.slice 2], elem := some 298, bytes := 24 }),
  (88, { agg := false, cts := [.slice 2], elem := some 302, bytes := 24 }),
  (89, { agg := false, cts := [.slice 3], elem := some 305, bytes := 24 }),
  (90, { agg := true, cts := [.str, .slice 3, .slice 2, .slice 2, .slice 3], offs := [(0, 9), (1, 86), (2, 87), (3, 88), (4, 89)], bytes := 112 }),
  (91, { agg := true, cts := [.str, .slice 3, .slice 2, .slice 2, .slice 3], offs := [(0, 9), (1, 86), (2, 87), (3, 88), (4, 89)], bytes := 112 }),
  (94, { agg := false, cts := [.slice 3], elem := some 190, bytes := 24 }),
  (95, { agg := false, cts := [.slice 2], elem := some 192, bytes := 24 }),
  (96, { agg := false, cts := [.slice 2], elem := some 198, bytes := 24 }),
  (97, { agg := false, cts := [.slice 3], elem := some 307, bytes := 24 }),
  (98, { agg := true, cts := [.str, .slice 3, .slice 2, .slice 2, .slice 3], offs := [(0, 9), (1, 94), (2, 95), (3, 96), (4, 97)], bytes := 112 }),
  (99, { agg := true, cts := [.str, .slice 3, .slice 2, .slice 2, .slice 3], offs := [(0, 9), (1, 94), (2, 95), (3, 96), (4, 97)], bytes := 112 }),
  (106, { agg := false, cts := [.slice 8], elem := some 225, bytes := 24 }),
  (108, { agg := false, cts := [.slice 5], elem := some 236, bytes := 24 }),
  (111, { agg := false, cts := [.slice 8], elem := some 238, bytes := 24 }),
  (125, { agg := false, cts := [.ptr], bytes := 8 }),
  (132, { agg := true, cts := [.int .i64, .str, .int .i64, .slice 1], offs := [(0, 3), (1, 9), (2, 3), (3, 50)], bytes := 56 }),
  (133, { agg := true, cts := [.int .i64, .str, .int .i64, .slice 1], offs := [(0, 3), (1, 9), (2, 3), (3, 50)], bytes := 56 }),
  (137, { agg := true, cts := [.int .i64, .str, .int .i64, .slice 1], offs := [(0, 3), (1, 9), (2, 3), (3, 50)], bytes := 56 }),
  (141, { agg := true, cts := [.str, .str, .int .i64, .int .i64, .bool, .str], offs := [(0, 9), (1, 9), (2, 3), (3, 3), (4, 4), (5, 9)], bytes := 72 }),
  (142, { agg := true, cts := [.str, .str, .int .i64, .int .i64, .bool, .str], offs := [(0, 9), (1, 9), (2, 3), (3, 3), (4, 4), (5, 9)], bytes := 72 }),
  (143, { agg := false, cts := [.ptr], bytes := 8 }),
  (144, { agg := true, cts := [.str, .slice 3, .slice 2, .slice 2, .slice 3, .slice 3, .slice 1, .int .i64, .slice 5, .slice 1, .bool], offs := [(0, 99), (5, 33), (9, 50), (10, 4)], bytes := 224 }),
  (145, { agg := true, cts := [.str, .slice 3, .slice 2, .slice 2, .slice 3, .slice 3, .slice 1, .int .i64, .slice 5, .slice 1, .bool], offs := [(0, 99), (5, 33), (9, 50), (10, 4)], bytes := 224 }),
  (146, { agg := true, cts := [.str, .str, .int .i64, .int .i64, .bool, .str], offs := [(0, 9), (1, 9), (2, 3), (3, 3), (4, 4), (5, 9)], bytes := 72 }),
  (149, { agg := false, cts := [.oth], elem := some 3, key := some 9, bytes := 8 }),
  (150, { agg := true, cts := [.str, .int .i64, .int .i64], offs := [(0, 9), (1, 3), (2, 3)], bytes := 32 }),
  (151, { agg := true, cts := [.str, .int .i64, .int .i64], offs := [(0, 9), (1, 3), (2, 3)], bytes := 32 }),
  (159, { agg := false, cts := [.ptr], bytes := 8 }),
  (160, { agg := true, cts := [.int .i64, .slice 3, .slice 2, .slice 2, .slice 1, .slice 1], offs := [(0, 68), (4, 69), (5, 69)], bytes := 128 }),
  (161, { agg := true, cts := [.int .i64, .slice 3, .slice 2, .slice 2, .slice 1, .slice 1], offs := [(0, 68), (4, 69), (5, 69)], bytes := 128 }),
  (165, { agg := false, cts := [.ptr], bytes := 8 }),
  (166, { agg := true, cts := [.int .i64, .slice 3, .slice 2, .slice 2, .slice 1, .slice 1], offs := [(0, 68), (4, 69), (5, 69)], bytes := 128 }),
  (167, { agg := true, cts := [.int .i64, .slice 3, .slice 2, .slice 2, .slice 1, .slice 1], offs := [(0, 68), (4, 69), (5, 69)], bytes := 128 }),
  (177, { agg := false, cts := [.ptr], bytes := 8 }),
  (181, { agg := true, cts := [.slice 4, .slice 1, .slice 1, .oth, .oth], offs := [(0, 42), (1, 50), (2, 38), (3, 179), (4, 180)], bytes := 88 }),
  (182, { agg := true, cts := [.slice 4, .slice 1, .slice 1, .oth, .oth], offs := [(0, 42), (1, 50), (2, 38), (3, 179), (4, 180)], bytes := 88 }),
  (189, { agg := true, cts := [.str, .str, .bool], offs := [(0, 9), (1, 9), (2, 4)], bytes := 40 }),
  (190, { agg := true, cts := [.str, .str, .bool], offs := [(0, 9), (1, 9), (2, 4)], bytes := 40 }),
  (191, { agg := true, cts := [.int .i64, .slice 1], offs := [(0, 3), (1, 23)], bytes := 32 }),
  (192, { agg := true, cts := [.int .i64, .slice 1], offs := [(0, 3), (1, 23)], bytes := 32 }),
  (193, { agg := false, cts := [.ptr], bytes := 8 }),
  (194, { agg := true, cts := [.str, .slice 3, .slice 2, .slice 2, .slice 3, .int .i64, .bool], offs := [(0, 99), (5, 3), (6, 4)], bytes := 128 }),
  (195, { agg := true, cts := [.str, .slice 3, .slice 2, .slice 2, .slice 3, .int .i64, .bool], offs := [(0, 99), (5, 3), (6, 4)], bytes := 128 }),
  (196, { agg := false, cts := [.slice 2], elem := some 200, bytes := 24 }),
  (197, { agg := true, cts := [.str, .slice 2], offs := [(0, 9), (1, 196)], bytes := 40 }),
  (198, { agg := true, cts := [.str, .slice 2], offs := [(0, 9), (1, 196)], bytes := 40 }),
  (199, { agg := true, cts := [.slice 1, .str], offs := [(0, 50), (1, 9)], bytes := 40 }),
  (200, { agg := true, cts := [.slice 1, .str], offs := [(0, 50), (1, 9)], bytes := 40 }),
  (207, { agg := false, cts := [.ptr], bytes := 8 }),
  (213, { agg := true, cts := [.int .i64, .slice 1, .str, .int .i64, .int .i64], offs := [(0, 3), (1, 50), (2, 9), (3, 3), (4, 3)], bytes := 64 }),
  (214, { agg := true, cts := [.int .i64, .slice 1, .str, .int .i64, .int .i64], offs := [(0, 3), (1, 50), (2, 9), (3, 3), (4, 3)], bytes := 64 }),
  (218, { agg := false, cts := [.slice 1], elem := some 38, bytes := 24 }),
  (219, { agg := true, cts := [.slice 3, .slice 1, .int .i64, .slice 5, .int .i64, .int .i64, .slice 1, .slice 1, .slice 1, .slice 1, .slice 1], offs := [(0, 33), (4, 3), (5, 3), (6, 38), (7, 38), (8, 50), (9, 218), (10, 69)], bytes := 216 }),
  (220, { agg := true, cts := [.slice 3, .slice 1, .int .i64, .slice 5, .int .i64, .int .i64, .slice 1, .slice 1, .slice 1, .slice 1, .slice 1], offs := [(0, 33), (4, 3), (5, 3), (6, 38), (7, 38), (8, 50), (9, 218), (10, 69)], bytes := 216 }),
  (224, { agg := true, cts := [.str, .str, .bool, .slice 4, .str, .str, .bool, .slice 4], offs := [(0, 63), (4, 63)], bytes := 128 }),
  (225, { agg := true, cts := [.str, .str, .bool, .slice 4, .str, .str, .bool, .slice 4], offs := [(0, 63), (4, 63)], bytes := 128 }),
  (235, { agg := true, cts := [.str, .str, .str, .bool, .slice 4], offs := [(0, 9), (1, 74)], bytes := 80 }),
  (236, { agg := true, cts := [.str, .str, .str, .bool, .slice 4], offs := [(0, 9), (1, 74)], bytes := 80 }),
  (237, { agg := true, cts := [.str, .str, .bool, .slice 4, .str, .str, .bool, .slice 4], offs := [(0, 74), (4, 74)], bytes := 128 }),
  (238, { agg := true, cts := [.str, .str, .bool, .slice 4, .str, .str, .bool, .slice 4], offs := [(0, 74), (4, 74)], bytes := 128 }),
  (240, { agg := false, cts := [.ptr], bytes := 8 }),
  (243, { agg := false, cts := [.oth], elem := some 332, key := some 247, bytes := 8 }),
  (244, { agg := false, cts := [.oth], elem := some 247, key := some 9, bytes := 8 }),
  (245, { agg := true, cts := [.oth, .slice 1, .int .i64], offs := [(0, 244), (1, 23), (2, 3)], bytes := 40 }),
  (246, { agg := true, cts := [.oth, .slice 1, .int .i64], offs := [(0, 244), (1, 23), (2, 3)], bytes := 40 }),
  (247, { agg := false, cts := [.ptr], bytes := 8 }),
  (254, { agg := true, cts := [.str, .int .i64, .int .i64], offs := [(0, 9), (1, 3), (2, 3)], bytes := 32 }),
  (256, { agg := true, cts := [.int .i64, .slice 1, .str, .int .i64, .int .i64], offs := [(0, 3), (1, 50), (2, 9), (3, 3), (4, 3)], bytes := 64 }),
  (268, { agg := false, cts := [.ptr], bytes := 8 }),
  (269, { agg := false, cts := [.slice 1], elem := some 5, bytes := 24 }),
  (270, { agg := true, cts := [.slice 4, .slice 1, .slice 1], offs := [(0, 42), (1, 38), (2, 269)], bytes := 72 }),
  (271, { agg := true, cts := [.slice 4, .slice 1, .slice 1], offs := [(0, 42), (1, 38), (2, 269)], bytes := 72 }),
  (273, { agg := false, cts := [.oth], elem := some 3, key := some 3, bytes := 8 }),
  (275, { agg := false, cts := [.ptr], bytes := 8 }),
  (276, { agg := true, cts := [.ptr, .slice 1], offs := [(0, 275), (1, 269)], bytes := 32 }),
  (277, { agg := true, cts := [.ptr, .slice 1], offs := [(0, 275), (1, 269)], bytes := 32 }),
  (279, { agg := false, cts := [.oth], bytes := 16 }),
  (284, { agg := true, cts := [.int .i64, .str], offs := [(0, 3), (1, 9)], bytes := 24 }),
  (285, { agg := true, cts := [.int .i64, .str], offs := [(0, 3), (1, 9)], bytes := 24 }),
  (287, { agg := true, cts := [.int .i64, .int .i64, .int .i64], offs := [(0, 3), (1, 3), (2, 3)], bytes := 24 }),
  (288, { agg := true, cts := [.int .i64, .int .i64, .int .i64], offs := [(0, 3), (1, 3), (2, 3)], bytes := 24 }),
  (292, { agg := false, cts := [.slice 1], elem := some 66, bytes := 24 }),
  (296, { agg := true, cts := [.str, .str, .bool], offs := [(0, 9), (1, 9), (2, 4)], bytes := 40 }),
  (298, { agg := true, cts := [.int .i64, .slice 1], offs := [(0, 3), (1, 23)], bytes := 32 }),
  (300, { agg := false, cts := [.slice 2], elem := some 364, bytes := 24 }),
  (301, { agg := true, cts := [.str, .slice 2], offs := [(0, 9), (1, 300)], bytes := 40 }),
  (302, { agg := true, cts := [.str, .slice 2], offs := [(0, 9), (1, 300)], bytes := 40 }),
  (304, { agg := true, cts := [.int .i64, .str, .slice 1], offs := [(0, 3), (1, 9), (2, 69)], bytes := 48 }),
  (305, { agg := true, cts := [.int .i64, .str, .slice 1], offs := [(0, 3), (1, 9), (2, 69)], bytes := 48 }),
  (307, { agg := true, cts := [.int .i64, .str, .slice 1], offs := [(0, 3), (1, 9), (2, 69)], bytes := 48 }),
  (318, { agg := false, cts := [.ptr], bytes := 8 }),
  (319, { agg := false, cts := [.slice 1], elem := some 23, bytes := 24 }),
  (320, { agg := true, cts := [.slice 5, .slice 1, .slice 1], offs := [(0, 108), (1, 23), (2, 319)], bytes := 72 }),
  (321, { agg := true, cts := [.slice 5, .slice 1, .slice 1], offs := [(0, 108), (1, 23), (2, 319)], bytes := 72 }),
  (325, { agg := false, cts := [.slice 1], elem := some 247, bytes := 24 }),
  (328, { agg := false, cts := [.oth], elem := some 3, key := some 247, bytes := 8 }),
  (330, { agg := true, cts := [.ptr, .bool, .int .i64, .str, .str, .bool, .slice 1], offs := [(0, 247), (1, 4), (2, 3), (3, 9), (4, 9), (5, 4), (6, 325)], bytes := 88 }),
  (331, { agg := true, cts := [.ptr, .bool, .int .i64, .str, .str, .bool, .slice 1], offs := [(0, 247), (1, 4), (2, 3), (3, 9), (4, 9), (5, 4), (6, 325)], bytes := 88 }),
  (339, { agg := false, cts := [.int .u64], bytes := 8 }),
  (343, { agg := false, cts := [.ptr], bytes := 8 }),
  (352, { agg := false, cts := [.slice 2], elem := some 351, bytes := 24 }),
  (356, { agg := false, cts := [.int .u32], bytes := 4 }),
  (359, { agg := false, cts := [.int .u64], bytes := 8 }),
  (364, { agg := true, cts := [.slice 1, .str], offs := [(0, 50), (1, 9)], bytes := 40 }),
  (374, { agg := true, cts := [.ptr, .ptr, .ptr, .str], offs := [(0, 17), (1, 17), (2, 17), (3, 9)], bytes := 40 }),
  (375, { agg := true, cts := [.ptr, .ptr, .ptr, .str], offs := [(0, 17), (1, 17), (2, 17), (3, 9)], bytes := 40 }),
  (379, { agg := false, cts := [.int .u8], bytes := 1 }),
  (380, { agg := false, cts := [.int .u8], bytes := 1 }),
  (382, { agg := false, cts := [.int .i32], bytes := 4 }),
  (383, { agg := false, cts := [.int .i32], bytes := 4 }),
  (384, { agg := true, cts := [.int .u64, .int .u64, .int .u32, .int .u8, .int .u8, .int .u8, .int .u8, .oth, .ptr, .int .i32, .int .i32], offs := [(0, 12), (1, 12), (2, 356), (3, 379), (4, 5), (5, 5), (6, 380), (7, 381), (8, 343), (9, 382), (10, 383)], bytes := 48 }),
  (385, { agg := true, cts := [.int .u64, .int .u64, .int .u32, .int .u8, .int .u8, .int .u8, .int .u8, .oth, .ptr, .int .i32, .int .i32], offs := [(0, 12), (1, 12), (2, 356), (3, 379), (4, 5), (5, 5), (6, 380), (7, 381), (8, 343), (9, 382), (10, 383)], bytes := 48 })]

/-- loop.example/g00037/laws.FnExactScopesOf -/
noncomputable def fn6 : FnI := { nt := 170, res := [.tmp 2], body := (Try.f6.body.getD .skip), rts := [4] }
/-- loop.example/g00037/laws.eqIntS -/
noncomputable def fn27 : FnI := { nt := 26, res := [.tmp 4], body := (Try.f27.body.getD .skip), rts := [4], loops := [{ live := [0, 1, 5], liveX := [] }] }
/-- loop.example/g00037/laws.markIntS -/
noncomputable def fn31 : FnI := { nt := 19, res := [.tmp 4], body := (Try.f31.body.getD .skip), rts := [3], muts := [0], loops := [{ live := [0, 1, 5], liveX := [1] }] }
/-- loop.example/g00037/laws.heldIntS -/
noncomputable def fn32 : FnI := { nt := 21, res := [.tmp 4], body := (Try.f32.body.getD .skip), rts := [3], loops := [{ live := [0, 1, 5], liveX := [1] }] }
/-- loop.example/g00037/laws.szTree -/
noncomputable def fn33 : FnI := { nt := 26, res := [.tmp 4], body := (Try.f33.body.getD .skip), rts := [3] }
/-- loop.example/g00037/spec.ScopesOf -/
noncomputable def fn34 : FnI := { nt := 41, res := [.cell 2 68, .tmp 3, .tmp 4, .tmp 5], body := (Try.f34.body.getD .skip), rts := [68, 69, 69, 3] }
/-- loop.example/g00037/laws.toTree -/
noncomputable def fn35 : FnI := { nt := 18, res := [.cell 2 74], body := (Try.f35.body.getD .skip), rts := [74], frz := false }
/-- loop.example/g00037/impl.ScopesOf -/
noncomputable def fn36 : FnI := { nt := 36, res := [.cell 2 68, .tmp 3, .tmp 4, .tmp 5], body := (Try.f36.body.getD .skip), rts := [68, 69, 69, 3], frz := false }
/-- loop.example/g00037/laws.eqSg -/
noncomputable def fn37 : FnI := { nt := 28, res := [.tmp 4], body := (Try.f37.body.getD .skip), rts := [4] }
/-- loop.example/g00037/laws.eqIntSS -/
noncomputable def fn38 : FnI := { nt := 27, res := [.tmp 4], body := (Try.f38.body.getD .skip), rts := [4], loops := [{ live := [0, 1, 5], liveX := [] }] }
/-- loop.example/g00037/laws.eqTree -/
noncomputable def fn39 : FnI := { nt := 26, res := [.tmp 4], body := (Try.f39.body.getD .skip), rts := [4] }
/-- loop.example/g00037/laws.markTree -/
noncomputable def fn40 : FnI := { nt := 10, res := [.tmp 4], body := (Try.f40.body.getD .skip), rts := [3], muts := [0] }
/-- loop.example/g00037/laws.markSg -/
noncomputable def fn41 : FnI := { nt := 18, res := [.tmp 4], body := (Try.f41.body.getD .skip), rts := [3], muts := [0] }
/-- loop.example/g00037/laws.markIntSS -/
noncomputable def fn42 : FnI := { nt := 19, res := [.tmp 4], body := (Try.f42.body.getD .skip), rts := [3], muts := [0], loops := [{ live := [0, 1, 5], liveX := [1] }] }
/-- loop.example/g00037/laws.heldSg -/
noncomputable def fn43 : FnI := { nt := 24, res := [.tmp 4], body := (Try.f43.body.getD .skip), rts := [3] }
/-- loop.example/g00037/laws.heldIntSS -/
noncomputable def fn44 : FnI := { nt := 21, res := [.tmp 4], body := (Try.f44.body.getD .skip), rts := [3], loops := [{ live := [0, 1, 5], liveX := [1] }] }
/-- loop.example/g00037/laws.markText -/
noncomputable def fn93 : FnI := { nt := 20, res := [.tmp 2], body := (Try.f93.body.getD .skip), rts := [9], loops := [{ live := [0, 3], liveX := [3] }] }
/-- loop.example/g00037/laws.szTreeS -/
noncomputable def fn94 : FnI := { nt := 27, res := [.tmp 4], body := (Try.f94.body.getD .skip), rts := [3], loops := [{ live := [0, 1, 5], liveX := [1] }] }
/-- loop.example/g00037/spec.TermOK -/
noncomputable def fn95 : FnI := { nt := 9, res := [.tmp 2], body := (Try.f95.body.getD .skip), rts := [4] }
/-- (*loop.example/g00037/spec.l12Scoper).walk -/
noncomputable def fn96 : FnI := { nt := 152, res := [], body := (Try.f96.body.getD .skip), rts := [], sink := true, loops := [{ live := [0, 2, 3, 5, 8], liveX := [] }] }
/-- loop.example/g00037/spec.SgOK -/
noncomputable def fn97 : FnI := { nt := 65, res := [.tmp 2], body := (Try.f97.body.getD .skip), rts := [4], loops := [{ live := [1, 3], liveX := [] }] }
/-- loop.example/g00037/laws.toTreeS -/
noncomputable def fn98 : FnI := { nt := 23, res := [.tmp 2], body := (Try.f98.body.getD .skip), rts := [72], frz := false, loops := [{ live := [0, 3, 4], liveX := [3] }] }
/-- loop.example/g00037/impl.TermOK -/
noncomputable def fn99 : FnI := { nt := 9, res := [.tmp 2], body := (Try.f99.body.getD .skip), rts := [4], frz := false }
/-- (*loop.example/g00037/impl.scoper).walk -/
noncomputable def fn100 : FnI := { nt := 141, res := [], body := (Try.f100.body.getD .skip), rts := [], frz := false, loops := [{ live := [0, 2, 3, 5, 8, 76, 77, 78], liveX := [] }] }
/-- loop.example/g00037/impl.SgOK -/
noncomputable def fn101 : FnI := { nt := 96, res := [.tmp 2], body := (Try.f101.body.getD .skip), rts := [4], frz := false, loops := [{ live := [1, 3, 38, 39, 40], liveX := [1, 3] }, { live := [3, 71, 72, 73], liveX := [] }, { live := [3, 71, 72, 73, 77, 78, 79], liveX := [3, 71, 72, 73] }] }
/-- loop.example/g00037/laws.eqSEdgeS -/
noncomputable def fn102 : FnI := { nt := 27, res := [.tmp 4], body := (Try.f102.body.getD .skip), rts := [4], loops := [{ live := [0, 1, 5], liveX := [] }] }
/-- loop.example/g00037/laws.eqSpotS -/
noncomputable def fn103 : FnI := { nt := 27, res := [.tmp 4], body := (Try.f103.body.getD .skip), rts := [4], loops := [{ live := [0, 1, 5], liveX := [] }] }
/-- loop.example/g00037/laws.eqTreeS -/
noncomputable def fn104 : FnI := { nt := 27, res := [.tmp 4], body := (Try.f104.body.getD .skip), rts := [4], loops := [{ live := [0, 1, 5], liveX := [] }] }
/-- loop.example/g00037/laws.markTreeS -/
noncomputable def fn105 : FnI := { nt := 45, res := [.tmp 4], body := (Try.f105.body.getD .skip), rts := [3], muts := [0], loops := [{ live := [0, 1, 5], liveX := [1] }] }
/-- loop.example/g00037/laws.markSEdgeS -/
noncomputable def fn106 : FnI := { nt := 34, res := [.tmp 4], body := (Try.f106.body.getD .skip), rts := [3], muts := [0], loops := [{ live := [0, 1, 5], liveX := [1] }] }
/-- loop.example/g00037/laws.markSpotS -/
noncomputable def fn107 : FnI := { nt := 28, res := [.tmp 4], body := (Try.f107.body.getD .skip), rts := [3], muts := [0], loops := [{ live := [0, 1, 5], liveX := [1] }] }
/-- loop.example/g00037/laws.heldSEdgeS -/
noncomputable def fn108 : FnI := { nt := 40, res := [.tmp 4], body := (Try.f108.body.getD .skip), rts := [3], loops := [{ live := [0, 1, 5], liveX := [1] }] }
/-- loop.example/g00037/laws.heldSpotS -/
noncomputable def fn109 : FnI := { nt := 32, res := [.tmp 4], body := (Try.f109.body.getD .skip), rts := [3], loops := [{ live := [0, 1, 5], liveX := [1] }] }
/-- loop.example/g00037/spec.l01Between -/
noncomputable def fn110 : FnI := { nt := 15, res := [.tmp 6], body := (Try.f110.body.getD .skip), rts := [4] }
/-- loop.example/g00037/spec.l01Name -/
noncomputable def fn166 : FnI := { nt := 29, res := [.tmp 2], body := (Try.f166.body.getD .skip), rts := [4], loops := [{ live := [0, 3], liveX := [] }] }
/-- loop.example/g00037/impl.nameOK -/
noncomputable def fn171 : FnI := { nt := 29, res := [.tmp 2], body := (Try.f171.body.getD .skip), rts := [4], frz := false, loops := [{ live := [0, 3], liveX := [] }] }
/-- loop.example/g00037/spec.TreeOK -/
noncomputable def fn190 : FnI := { nt := 10, res := [.tmp 2], body := (Try.f190.body.getD .skip), rts := [4] }
/-- loop.example/g00037/spec.l12Term -/
noncomputable def fn191 : FnI := { nt := 85, res := [.tmp 2], body := (Try.f191.body.getD .skip), rts := [4], loops := [{ live := [1, 4, 5], liveX := [] }] }
/-- loop.example/g00037/spec.l12Down -/
noncomputable def fn192 : FnI := { nt := 11, res := [.tmp 4], body := (Try.f192.body.getD .skip), rts := [50] }
/-- loop.example/g00037/spec.l12Spots -/
noncomputable def fn193 : FnI := { nt := 33, res := [.tmp 4], body := (Try.f193.body.getD .skip), rts := [4], loops := [{ live := [0, 1, 5], liveX := [] }] }
/-- loop.example/g00037/impl.TreeOK -/
noncomputable def fn194 : FnI := { nt := 7, res := [.tmp 2], body := (Try.f194.body.getD .skip), rts := [4], frz := false }
/-- loop.example/g00037/impl.termForm -/
noncomputable def fn195 : FnI := { nt := 61, res := [.tmp 2], body := (Try.f195.body.getD .skip), rts := [4], frz := false, loops := [{ live := [1, 41, 42, 43], liveX := [] }] }
/-- loop.example/g00037/impl.binds -/
noncomputable def fn196 : FnI := { nt := 16, res := [.tmp 2], body := (Try.f196.body.getD .skip), rts := [4], frz := false }
/-- loop.example/g00037/impl.inScope -/
noncomputable def fn197 : FnI := { nt := 15, res := [.tmp 4], body := (Try.f197.body.getD .skip), rts := [4], frz := false }
/-- loop.example/g00037/impl.SgOK$1 -/
noncomputable def fn198 : FnI := { nt := 12, res := [.tmp 3], body := (Try.f198.body.getD .skip), rts := [4], frz := false }
/-- loop.example/g00037/laws.eqSEdge -/
noncomputable def fn199 : FnI := { nt := 20, res := [.tmp 4], body := (Try.f199.body.getD .skip), rts := [4] }
/-- loop.example/g00037/laws.eqSpot -/
noncomputable def fn200 : FnI := { nt := 15, res := [.tmp 4], body := (Try.f200.body.getD .skip), rts := [4] }
/-- loop.example/g00037/spec.l03Bytes -/
noncomputable def fn206 : FnI := { nt := 26, res := [.tmp 6], body := (Try.f206.body.getD .skip), rts := [4], loops := [{ live := [0, 1, 2, 7], liveX := [] }] }
/-- loop.example/g00037/spec.l01Letter -/
noncomputable def fn226 : FnI := { nt := 17, res := [.tmp 2], body := (Try.f226.body.getD .skip), rts := [4] }
/-- loop.example/g00037/spec.l01NameByte -/
noncomputable def fn227 : FnI := { nt := 13, res := [.tmp 2], body := (Try.f227.body.getD .skip), rts := [4] }
/-- loop.example/g00037/impl.isLetter -/
noncomputable def fn230 : FnI := { nt := 17, res := [.tmp 2], body := (Try.f230.body.getD .skip), rts := [4], frz := false }
/-- loop.example/g00037/impl.inName -/
noncomputable def fn231 : FnI := { nt := 13, res := [.tmp 2], body := (Try.f231.body.getD .skip), rts := [4], frz := false }
/-- loop.example/g00037/spec.l01Room -/
noncomputable def fn241 : FnI := { nt := 33, res := [.tmp 6], body := (Try.f241.body.getD .skip), rts := [3], loops := [{ live := [1, 2, 3, 7], liveX := [1] }] }
/-- loop.example/g00037/spec.l01Right -/
noncomputable def fn242 : FnI := { nt := 48, res := [.tmp 2], body := (Try.f242.body.getD .skip), rts := [4], loops := [{ live := [1, 3], liveX := [] }] }
/-- loop.example/g00037/spec.l12Num -/
noncomputable def fn243 : FnI := { nt := 19, res := [.tmp 2], body := (Try.f243.body.getD .skip), rts := [4] }
/-- loop.example/g00037/impl.measure -/
noncomputable def fn244 : FnI := { nt := 67, res := [.tmp 8], body := (Try.f244.body.getD .skip), rts := [4], frz := false, loops := [{ live := [1, 2, 3, 53, 54, 55], liveX := [] }] }
/-- loop.example/g00037/impl.numOK -/
noncomputable def fn245 : FnI := { nt := 33, res := [.tmp 2], body := (Try.f245.body.getD .skip), rts := [4], frz := false, loops := [{ live := [0, 23, 24], liveX := [] }] }
/-- loop.example/g00037/impl.isId -/
noncomputable def fn246 : FnI := { nt := 10, res := [.tmp 2], body := (Try.f246.body.getD .skip), rts := [4], frz := false }
/-- loop.example/g00037/spec.l01Digit -/
noncomputable def fn258 : FnI := { nt := 9, res := [.tmp 2], body := (Try.f258.body.getD .skip), rts := [4] }
/-- loop.example/g00037/impl.isDigit -/
noncomputable def fn259 : FnI := { nt := 9, res := [.tmp 2], body := (Try.f259.body.getD .skip), rts := [4], frz := false }
/-- loop.example/g00037/impl.leafOK -/
noncomputable def fn267 : FnI := { nt := 19, res := [.tmp 4], body := (Try.f267.body.getD .skip), rts := [4], frz := false }

noncomputable def ctx : Ctx := { tab := tab, fns := [(6, fn6), (27, fn27), (31, fn31), (32, fn32), (33, fn33), (34, fn34), (35, fn35), (36, fn36), (37, fn37), (38, fn38), (39, fn39), (40, fn40), (41, fn41), (42, fn42), (43, fn43), (44, fn44), (93, fn93), (94, fn94), (95, fn95), (96, fn96), (97, fn97), (98, fn98), (99, fn99), (100, fn100), (101, fn101), (102, fn102), (103, fn103), (104, fn104), (105, fn105), (106, fn106), (107, fn107), (108, fn108), (109, fn109), (110, fn110), (166, fn166), (171, fn171), (190, fn190), (191, fn191), (192, fn192), (193, fn193), (194, fn194), (195, fn195), (196, fn196), (197, fn197), (198, fn198), (199, fn199), (200, fn200), (206, fn206), (226, fn226), (227, fn227), (230, fn230), (231, fn231), (241, fn241), (242, fn242), (243, fn243), (244, fn244), (245, fn245), (246, fn246), (258, fn258), (259, fn259), (267, fn267)], idxB := some 280 }

end Go.Proofs.Ytmbnloccmnclnaa
