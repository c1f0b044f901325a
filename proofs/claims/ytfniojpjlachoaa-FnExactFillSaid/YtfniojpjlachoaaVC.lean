import Derived.Test.YtfniojpjlachoaaVmd
import Derived.Test.YtfniojpjlachoaaProg
namespace Go.Proofs.Ytfniojpjlachoaa
open Go.VK

def tab : List (Nat × TI) := [
  (2, { agg := false, cts := [.int .i64], bytes := 8 }),
  (3, { agg := false, cts := [.int .i64], bytes := 8 }),
  (4, { agg := false, cts := [.bool], bytes := 1 }),
  (5, { agg := false, cts := [.int .u8], bytes := 1 }),
  (6, { agg := false, cts := [.int .u8], bytes := 1 }),
  (7, { agg := true, cts := [.int .i64, .int .i64, .bool, .int .u8], offs := [(0, 2), (1, 3), (2, 4), (3, 6)], bytes := 24 }),
  (8, { agg := true, cts := [.int .i64, .int .i64, .bool, .int .u8], offs := [(0, 2), (1, 3), (2, 4), (3, 6)], bytes := 24 }),
  (9, { agg := false, cts := [.str], bytes := 16 }),
  (10, { agg := false, cts := [.str], bytes := 16 }),
  (11, { agg := false, cts := [.str], bytes := 16 }),
  (12, { agg := false, cts := [.int .u64], bytes := 8 }),
  (13, { agg := true, cts := [.str, .int .u64], offs := [(0, 9), (1, 12)], bytes := 24 }),
  (14, { agg := true, cts := [.str, .int .u64], offs := [(0, 9), (1, 12)], bytes := 24 }),
  (15, { agg := false, cts := [.ptr], bytes := 8 }),
  (16, { agg := false, cts := [.ptr], bytes := 8 }),
  (17, { agg := false, cts := [.ptr], bytes := 8 }),
  (18, { agg := true, cts := [.ptr], offs := [(0, 17)], bytes := 8 }),
  (19, { agg := true, cts := [.ptr], offs := [(0, 17)], bytes := 8 }),
  (21, { agg := false, cts := [.int .i32], bytes := 4 }),
  (25, { agg := false, cts := [.slice 3], elem := some 242, bytes := 24 }),
  (26, { agg := false, cts := [.slice 1], elem := some 9, bytes := 24 }),
  (27, { agg := false, cts := [.slice 5], elem := some 244, bytes := 24 }),
  (28, { agg := true, cts := [.slice 3, .slice 1, .int .i64, .slice 5], offs := [(0, 25), (1, 26), (2, 3), (3, 27)], bytes := 80 }),
  (29, { agg := true, cts := [.slice 3, .slice 1, .int .i64, .slice 5], offs := [(0, 25), (1, 26), (2, 3), (3, 27)], bytes := 80 }),
  (32, { agg := false, cts := [.slice 3], elem := some 133, bytes := 24 }),
  (33, { agg := false, cts := [.slice 5], elem := some 136, bytes := 24 }),
  (34, { agg := true, cts := [.slice 3, .slice 1, .int .i64, .slice 5], offs := [(0, 32), (1, 26), (2, 3), (3, 33)], bytes := 80 }),
  (35, { agg := true, cts := [.slice 3, .slice 1, .int .i64, .slice 5], offs := [(0, 32), (1, 26), (2, 3), (3, 33)], bytes := 80 }),
  (39, { agg := false, cts := [.slice 3], elem := some 259, bytes := 24 }),
  (40, { agg := false, cts := [.slice 2], elem := some 251, bytes := 24 }),
  (41, { agg := true, cts := [.int .i64, .slice 3, .slice 2, .slice 2], offs := [(0, 3), (1, 39), (2, 40), (3, 40)], bytes := 80 }),
  (42, { agg := true, cts := [.int .i64, .slice 3, .slice 2, .slice 2], offs := [(0, 3), (1, 39), (2, 40), (3, 40)], bytes := 80 }),
  (44, { agg := false, cts := [.slice 1], elem := some 3, bytes := 24 }),
  (47, { agg := false, cts := [.slice 3], elem := some 254, bytes := 24 }),
  (48, { agg := false, cts := [.slice 2], elem := some 149, bytes := 24 }),
  (49, { agg := true, cts := [.int .i64, .slice 3, .slice 2, .slice 2], offs := [(0, 3), (1, 47), (2, 48), (3, 48)], bytes := 80 }),
  (50, { agg := true, cts := [.int .i64, .slice 3, .slice 2, .slice 2], offs := [(0, 3), (1, 47), (2, 48), (3, 48)], bytes := 80 }),
  (59, { agg := false, cts := [.slice 4], elem := some 61, bytes := 24 }),
  (60, { agg := true, cts := [.str, .str, .bool, .slice 4], offs := [(0, 9), (1, 9), (2, 4), (3, 59)], bytes := 64 }),
  (61, { agg := true, cts := [.str, .str, .bool, .slice 4], offs := [(0, 9), (1, 9), (2, 4), (3, 59)], bytes := 64 }),
  (62, { agg := false, cts := [.slice 5], elem := some 162, bytes := 24 }),
  (65, { agg := false, cts := [.slice 4], elem := some 67, bytes := 24 }),
  (66, { agg := true, cts := [.str, .str, .bool, .slice 4], offs := [(0, 9), (1, 9), (2, 4), (3, 65)], bytes := 64 }),
  (67, { agg := true, cts := [.str, .str, .bool, .slice 4], offs := [(0, 9), (1, 9), (2, 4), (3, 65)], bytes := 64 }),
  (71, { agg := false, cts := [.slice 5], elem := some 165, bytes := 24 }),
  (78, { agg := false, cts := [.slice 6], elem := some 80, bytes := 24 }),
  (79, { agg := true, cts := [.int .i64, .str, .str, .bool, .slice 4, .slice 6], offs := [(0, 3), (1, 61), (5, 78)], bytes := 96 }),
  (80, { agg := true, cts := [.int .i64, .str, .str, .bool, .slice 4, .slice 6], offs := [(0, 3), (1, 61), (5, 78)], bytes := 96 }),
  (83, { agg := false, cts := [.slice 6], elem := some 85, bytes := 24 }),
  (84, { agg := true, cts := [.int .i64, .str, .str, .bool, .slice 4, .slice 6], offs := [(0, 3), (1, 67), (5, 83)], bytes := 96 }),
  (85, { agg := true, cts := [.int .i64, .str, .str, .bool, .slice 4, .slice 6], offs := [(0, 3), (1, 67), (5, 83)], bytes := 96 }),
  (93, { agg := false, cts := [.slice 9], elem := some 186, bytes := 24 }),
  (96, { agg := false, cts := [.slice 9], elem := some 189, bytes := 24 }),
  (100, { agg := false, cts := [.slice 1], elem := some 44, bytes := 24 }),
  (109, { agg := false, cts := [.slice 1], elem := some 295, bytes := 24 }),
  (110, { agg := true, cts := [.slice 1, .slice 1], offs := [(0, 109), (1, 100)], bytes := 48 }),
  (111, { agg := true, cts := [.slice 1, .slice 1], offs := [(0, 109), (1, 100)], bytes := 48 }),
  (114, { agg := false, cts := [.slice 1], elem := some 222, bytes := 24 }),
  (115, { agg := true, cts := [.slice 1, .slice 1], offs := [(0, 114), (1, 100)], bytes := 48 }),
  (116, { agg := true, cts := [.slice 1, .slice 1], offs := [(0, 114), (1, 100)], bytes := 48 }),
  (120, { agg := false, cts := [.slice 258], elem := some 302, bytes := 24 }),
  (123, { agg := false, cts := [.ptr], bytes := 8 }),
  (124, { agg := false, cts := [.slice 256], elem := some 323, bytes := 24 }),
  (132, { agg := true, cts := [.str, .int .i64, .int .i64], offs := [(0, 9), (1, 3), (2, 3)], bytes := 32 }),
  (133, { agg := true, cts := [.str, .int .i64, .int .i64], offs := [(0, 9), (1, 3), (2, 3)], bytes := 32 }),
  (135, { agg := true, cts := [.int .i64, .slice 1, .str, .int .i64, .int .i64], offs := [(0, 3), (1, 44), (2, 9), (3, 3), (4, 3)], bytes := 64 }),
  (136, { agg := true, cts := [.int .i64, .slice 1, .str, .int .i64, .int .i64], offs := [(0, 3), (1, 44), (2, 9), (3, 3), (4, 3)], bytes := 64 }),
  (140, { agg := false, cts := [.oth], elem := some 3, key := some 9, bytes := 8 }),
  (148, { agg := true, cts := [.int .i64, .str], offs := [(0, 3), (1, 9)], bytes := 24 }),
  (149, { agg := true, cts := [.int .i64, .str], offs := [(0, 3), (1, 9)], bytes := 24 }),
  (158, { agg := false, cts := [.oth], elem := some 3, key := some 3, bytes := 8 }),
  (161, { agg := true, cts := [.str, .str, .str, .bool, .slice 4], offs := [(0, 9), (1, 61)], bytes := 80 }),
  (162, { agg := true, cts := [.str, .str, .str, .bool, .slice 4], offs := [(0, 9), (1, 61)], bytes := 80 }),
  (164, { agg := true, cts := [.str, .str, .str, .bool, .slice 4], offs := [(0, 9), (1, 67)], bytes := 80 }),
  (165, { agg := true, cts := [.str, .str, .str, .bool, .slice 4], offs := [(0, 9), (1, 67)], bytes := 80 }),
  (185, { agg := true, cts := [.str, .str, .str, .bool, .slice 4, .str, .str, .bool, .slice 4], offs := [(0, 9), (1, 61), (5, 61)], bytes := 144 }),
  (186, { agg := true, cts := [.str, .str, .str, .bool, .slice 4, .str, .str, .bool, .slice 4], offs := [(0, 9), (1, 61), (5, 61)], bytes := 144 }),
  (188, { agg := true, cts := [.str, .str, .str, .bool, .slice 4, .str, .str, .bool, .slice 4], offs := [(0, 9), (1, 67), (5, 67)], bytes := 144 }),
  (189, { agg := true, cts := [.str, .str, .str, .bool, .slice 4, .str, .str, .bool, .slice 4], offs := [(0, 9), (1, 67), (5, 67)], bytes := 144 }),
  (191, { agg := false, cts := [.slice 3], elem := some 193, bytes := 24 }),
  (192, { agg := true, cts := [.str, .str, .slice 3], offs := [(0, 9), (1, 9), (2, 191)], bytes := 56 }),
  (193, { agg := true, cts := [.str, .str, .slice 3], offs := [(0, 9), (1, 9), (2, 191)], bytes := 56 }),
  (198, { agg := false, cts := [.ptr], bytes := 8 }),
  (202, { agg := false, cts := [.ptr], bytes := 8 }),
  (203, { agg := true, cts := [.slice 1], offs := [(0, 100)], bytes := 24 }),
  (204, { agg := true, cts := [.slice 1], offs := [(0, 100)], bytes := 24 }),
  (206, { agg := false, cts := [.ptr], bytes := 8 }),
  (207, { agg := true, cts := [.slice 1], offs := [(0, 100)], bytes := 24 }),
  (208, { agg := true, cts := [.slice 1], offs := [(0, 100)], bytes := 24 }),
  (212, { agg := false, cts := [.ptr], bytes := 8 }),
  (213, { agg := false, cts := [.oth], elem := some 3, key := some 292, bytes := 8 }),
  (214, { agg := false, cts := [.slice 6], elem := some 290, bytes := 24 }),
  (215, { agg := true, cts := [.slice 6, .slice 6, .oth, .oth], offs := [(0, 214), (1, 214), (2, 213), (3, 213)], bytes := 64 }),
  (216, { agg := true, cts := [.slice 6, .slice 6, .oth, .oth], offs := [(0, 214), (1, 214), (2, 213), (3, 213)], bytes := 64 }),
  (218, { agg := false, cts := [.ptr], bytes := 8 }),
  (222, { agg := false, cts := [.slice 2], elem := some 224, bytes := 24 }),
  (223, { agg := true, cts := [.int .i64, .int .i64], offs := [(0, 3), (1, 3)], bytes := 16 }),
  (224, { agg := true, cts := [.int .i64, .int .i64], offs := [(0, 3), (1, 3)], bytes := 16 }),
  (228, { agg := false, cts := [.ptr], bytes := 8 }),
  (229, { agg := true, cts := [.str, .int .i64, .int .i64, .slice 258], offs := [(0, 9), (1, 3), (2, 3), (3, 120)], bytes := 56 }),
  (230, { agg := true, cts := [.str, .int .i64, .int .i64, .slice 258], offs := [(0, 9), (1, 3), (2, 3), (3, 120)], bytes := 56 }),
  (234, { agg := true, cts := [.int .i64], offs := [(0, 3)], bytes := 8 }),
  (235, { agg := true, cts := [.int .i64], offs := [(0, 3)], bytes := 8 }),
  (237, { agg := false, cts := [.ptr], bytes := 8 }),
  (238, { agg := true, cts := [.str, .int .i64, .slice 256], offs := [(0, 9), (1, 3), (2, 124)], bytes := 48 }),
  (239, { agg := true, cts := [.str, .int .i64, .slice 256], offs := [(0, 9), (1, 3), (2, 124)], bytes := 48 }),
  (242, { agg := true, cts := [.str, .int .i64, .int .i64], offs := [(0, 9), (1, 3), (2, 3)], bytes := 32 }),
  (244, { agg := true, cts := [.int .i64, .slice 1, .str, .int .i64, .int .i64], offs := [(0, 3), (1, 44), (2, 9), (3, 3), (4, 3)], bytes := 64 }),
  (251, { agg := true, cts := [.int .i64, .str], offs := [(0, 3), (1, 9)], bytes := 24 }),
  (253, { agg := true, cts := [.int .i64, .int .i64, .int .i64], offs := [(0, 3), (1, 3), (2, 3)], bytes := 24 }),
  (254, { agg := true, cts := [.int .i64, .int .i64, .int .i64], offs := [(0, 3), (1, 3), (2, 3)], bytes := 24 }),
  (255, { agg := false, cts := [.slice 1], elem := some 4, bytes := 24 }),
  (259, { agg := true, cts := [.int .i64, .int .i64, .int .i64], offs := [(0, 3), (1, 3), (2, 3)], bytes := 24 }),
  (262, { agg := false, cts := [.slice 1], elem := some 48, bytes := 24 }),
  (267, { agg := false, cts := [.ptr], bytes := 8 }),
  (269, { agg := false, cts := [.slice 1], elem := some 5, bytes := 24 }),
  (270, { agg := false, cts := [.ptr], bytes := 8 }),
  (271, { agg := true, cts := [.slice 9, .str, .int .i64, .int .i64], offs := [(0, 96), (1, 9), (2, 3), (3, 3)], bytes := 56 }),
  (272, { agg := true, cts := [.slice 9, .str, .int .i64, .int .i64], offs := [(0, 96), (1, 9), (2, 3), (3, 3)], bytes := 56 }),
  (276, { agg := false, cts := [.ptr], bytes := 8 }),
  (277, { agg := true, cts := [.str, .int .i64, .oth, .str, .int .i64], offs := [(0, 9), (1, 3), (2, 140), (3, 9), (4, 3)], bytes := 56 }),
  (278, { agg := true, cts := [.str, .int .i64, .oth, .str, .int .i64], offs := [(0, 9), (1, 3), (2, 140), (3, 9), (4, 3)], bytes := 56 }),
  (285, { agg := false, cts := [.ptr], bytes := 8 }),
  (289, { agg := true, cts := [.str, .str, .bool, .slice 4, .slice 1, .int .i64], offs := [(0, 67), (4, 44), (5, 3)], bytes := 96 }),
  (290, { agg := true, cts := [.str, .str, .bool, .slice 4, .slice 1, .int .i64], offs := [(0, 67), (4, 44), (5, 3)], bytes := 96 }),
  (295, { agg := false, cts := [.slice 2], elem := some 315, bytes := 24 }),
  (303, { agg := false, cts := [.slice 1], elem := some 123, bytes := 24 }),
  (304, { agg := true, cts := [.int .i64, .int .i64, .int .u8, .slice 1], offs := [(0, 3), (1, 3), (2, 5), (3, 303)], bytes := 48 }),
  (305, { agg := true, cts := [.int .i64, .int .i64, .int .u8, .slice 1], offs := [(0, 3), (1, 3), (2, 5), (3, 303)], bytes := 48 }),
  (309, { agg := true, cts := [.str, .int .i64, .ptr, .ptr], offs := [(0, 9), (1, 3), (2, 198), (3, 198)], bytes := 40 }),
  (310, { agg := true, cts := [.str, .int .i64, .ptr, .ptr], offs := [(0, 9), (1, 3), (2, 198), (3, 198)], bytes := 40 }),
  (312, { agg := false, cts := [.slice 1], elem := some 255, bytes := 24 }),
  (313, { agg := false, cts := [.slice 1], elem := some 83, bytes := 24 }),
  (315, { agg := true, cts := [.int .i64, .int .i64], offs := [(0, 3), (1, 3)], bytes := 16 }),
  (321, { agg := false, cts := [.ptr], bytes := 8 }),
  (328, { agg := true, cts := [.ptr, .ptr, .ptr, .str], offs := [(0, 17), (1, 17), (2, 17), (3, 9)], bytes := 40 }),
  (329, { agg := true, cts := [.ptr, .ptr, .ptr, .str], offs := [(0, 17), (1, 17), (2, 17), (3, 9)], bytes := 40 }),
  (333, { agg := false, cts := [.int .u32], bytes := 4 }),
  (334, { agg := false, cts := [.int .u8], bytes := 1 }),
  (335, { agg := false, cts := [.int .u8], bytes := 1 }),
  (337, { agg := false, cts := [.ptr], bytes := 8 }),
  (338, { agg := false, cts := [.int .i32], bytes := 4 }),
  (339, { agg := false, cts := [.int .i32], bytes := 4 }),
  (340, { agg := true, cts := [.int .u64, .int .u64, .int .u32, .int .u8, .int .u8, .int .u8, .int .u8, .oth, .ptr, .int .i32, .int .i32], offs := [(0, 12), (1, 12), (2, 333), (3, 334), (4, 5), (5, 5), (6, 335), (7, 336), (8, 337), (9, 338), (10, 339)], bytes := 48 }),
  (341, { agg := true, cts := [.int .u64, .int .u64, .int .u32, .int .u8, .int .u8, .int .u8, .int .u8, .oth, .ptr, .int .i32, .int .i32], offs := [(0, 12), (1, 12), (2, 333), (3, 334), (4, 5), (5, 5), (6, 335), (7, 336), (8, 337), (9, 338), (10, 339)], bytes := 48 })]

/-- loop.example/g00037/laws.FnExactFill -/
noncomputable def fn7 : FnI := { nt := 119, res := [.tmp 4], body := (Try.f7.body.getD .skip), rts := [4] }
/-- loop.example/g00037/laws.szTree -/
noncomputable def fn32 : FnI := { nt := 26, res := [.tmp 4], body := (Try.f32.body.getD .skip), rts := [3] }
/-- loop.example/g00037/laws.szBindS -/
noncomputable def fn33 : FnI := { nt := 27, res := [.tmp 4], body := (Try.f33.body.getD .skip), rts := [3], loops := [{ live := [0, 1, 5], liveX := [1] }] }
/-- loop.example/g00037/spec.Fill -/
noncomputable def fn34 : FnI := { nt := 78, res := [.cell 4 67, .tmp 5], body := (Try.f34.body.getD .skip), rts := [67, 3], loops := [{ live := [1, 2, 4, 6], liveX := [1, 2, 4] }, { live := [1, 2, 4, 7, 9], liveX := [1, 2, 4] }] }
/-- loop.example/g00037/laws.toTree -/
noncomputable def fn35 : FnI := { nt := 18, res := [.cell 2 67], body := (Try.f35.body.getD .skip), rts := [67], frz := false }
/-- loop.example/g00037/laws.toBindS -/
noncomputable def fn36 : FnI := { nt := 23, res := [.tmp 2], body := (Try.f36.body.getD .skip), rts := [71], frz := false, loops := [{ live := [0, 3, 4], liveX := [3] }] }
/-- loop.example/g00037/impl.Fill -/
noncomputable def fn37 : FnI := { nt := 59, res := [.cell 4 67, .tmp 5], body := (Try.f37.body.getD .skip), rts := [67, 3], frz := false, loops := [{ live := [1, 2, 4, 6, 16, 17, 18], liveX := [1, 2, 4] }] }
/-- loop.example/g00037/laws.eqTree -/
noncomputable def fn38 : FnI := { nt := 26, res := [.tmp 4], body := (Try.f38.body.getD .skip), rts := [4] }
/-- loop.example/g00037/laws.eqBindS -/
noncomputable def fn39 : FnI := { nt := 27, res := [.tmp 4], body := (Try.f39.body.getD .skip), rts := [4], loops := [{ live := [0, 1, 5], liveX := [] }] }
/-- loop.example/g00037/laws.markTree -/
noncomputable def fn40 : FnI := { nt := 10, res := [.tmp 4], body := (Try.f40.body.getD .skip), rts := [3], muts := [0] }
/-- loop.example/g00037/laws.markBindS -/
noncomputable def fn41 : FnI := { nt := 57, res := [.tmp 4], body := (Try.f41.body.getD .skip), rts := [3], muts := [0], loops := [{ live := [0, 1, 5], liveX := [1] }] }
/-- loop.example/g00037/laws.heldTree -/
noncomputable def fn42 : FnI := { nt := 12, res := [.tmp 4], body := (Try.f42.body.getD .skip), rts := [3] }
/-- loop.example/g00037/spec.l03At -/
noncomputable def fn77 : FnI := { nt := 19, res := [.tmp 4], body := (Try.f77.body.getD .skip), rts := [3], loops := [{ live := [0, 1, 5], liveX := [] }] }
/-- loop.example/g00037/spec.l01Name -/
noncomputable def fn78 : FnI := { nt := 29, res := [.tmp 2], body := (Try.f78.body.getD .skip), rts := [4], loops := [{ live := [0, 3], liveX := [] }] }
/-- loop.example/g00037/impl.nameOK -/
noncomputable def fn83 : FnI := { nt := 29, res := [.tmp 2], body := (Try.f83.body.getD .skip), rts := [4], frz := false, loops := [{ live := [0, 3], liveX := [] }] }
/-- loop.example/g00037/laws.szTreeS -/
noncomputable def fn100 : FnI := { nt := 27, res := [.tmp 4], body := (Try.f100.body.getD .skip), rts := [3], loops := [{ live := [0, 1, 5], liveX := [1] }] }
/-- loop.example/g00037/laws.szBind -/
noncomputable def fn101 : FnI := { nt := 19, res := [.tmp 4], body := (Try.f101.body.getD .skip), rts := [3] }
/-- loop.example/g00037/spec.l11Pattern -/
noncomputable def fn102 : FnI := { nt := 15, res := [.tmp 2], body := (Try.f102.body.getD .skip), rts := [4] }
/-- loop.example/g00037/spec.TreeOK -/
noncomputable def fn103 : FnI := { nt := 10, res := [.tmp 2], body := (Try.f103.body.getD .skip), rts := [4] }
/-- loop.example/g00037/spec.l11Find -/
noncomputable def fn104 : FnI := { nt := 20, res := [.tmp 4], body := (Try.f104.body.getD .skip), rts := [3], loops := [{ live := [0, 1, 5], liveX := [] }] }
/-- loop.example/g00037/spec.l11Vars -/
noncomputable def fn105 : FnI := { nt := 46, res := [.tmp 4, .tmp 5], body := (Try.f105.body.getD .skip), rts := [26, 4], frz := false, muts := [1], loops := [{ live := [1, 2, 6, 7], liveX := [1, 6], own := [1] }] }
/-- loop.example/g00037/spec.l11Fill -/
noncomputable def fn106 : FnI := { nt := 38, res := [.cell 4 67], body := (Try.f106.body.getD .skip), rts := [67], loops := [{ live := [1, 2, 4, 5, 6], liveX := [2, 4, 5] }] }
/-- loop.example/g00037/spec.l01Copy -/
noncomputable def fn107 : FnI := { nt := 25, res := [.cell 2 67], body := (Try.f107.body.getD .skip), rts := [67], loops := [{ live := [1, 2, 3, 4], liveX := [1, 2, 3] }] }
/-- loop.example/g00037/laws.toTreeS -/
noncomputable def fn108 : FnI := { nt := 23, res := [.tmp 2], body := (Try.f108.body.getD .skip), rts := [65], frz := false, loops := [{ live := [0, 3, 4], liveX := [3] }] }
/-- loop.example/g00037/laws.toBind -/
noncomputable def fn109 : FnI := { nt := 12, res := [.cell 2 165], body := (Try.f109.body.getD .skip), rts := [165], frz := false }
/-- loop.example/g00037/impl.patternTree -/
noncomputable def fn110 : FnI := { nt := 9, res := [.tmp 2], body := (Try.f110.body.getD .skip), rts := [4], frz := false }
/-- loop.example/g00037/impl.TreeOK -/
noncomputable def fn111 : FnI := { nt := 7, res := [.tmp 2], body := (Try.f111.body.getD .skip), rts := [4], frz := false }
/-- loop.example/g00037/impl.fill -/
noncomputable def fn112 : FnI := { nt := 50, res := [.cell 4 67, .tmp 5], body := (Try.f112.body.getD .skip), rts := [67, 4], loops := [{ live := [1, 4, 6, 27, 28, 29], liveX := [4, 6] }] }
/-- loop.example/g00037/impl.copyTree -/
noncomputable def fn113 : FnI := { nt := 29, res := [.cell 2 67], body := (Try.f113.body.getD .skip), rts := [67], frz := false, loops := [{ live := [2, 3, 14, 15, 16], liveX := [2, 3] }] }
/-- loop.example/g00037/laws.eqTreeS -/
noncomputable def fn114 : FnI := { nt := 27, res := [.tmp 4], body := (Try.f114.body.getD .skip), rts := [4], loops := [{ live := [0, 1, 5], liveX := [] }] }
/-- loop.example/g00037/laws.eqBind -/
noncomputable def fn115 : FnI := { nt := 16, res := [.tmp 4], body := (Try.f115.body.getD .skip), rts := [4] }
/-- loop.example/g00037/laws.markTreeS -/
noncomputable def fn116 : FnI := { nt := 45, res := [.tmp 4], body := (Try.f116.body.getD .skip), rts := [3], muts := [0], loops := [{ live := [0, 1, 5], liveX := [1] }] }
/-- loop.example/g00037/laws.markText -/
noncomputable def fn117 : FnI := { nt := 20, res := [.tmp 2], body := (Try.f117.body.getD .skip), rts := [9], loops := [{ live := [0, 3], liveX := [3] }] }
/-- loop.example/g00037/laws.heldTreeS -/
noncomputable def fn118 : FnI := { nt := 53, res := [.tmp 4], body := (Try.f118.body.getD .skip), rts := [3], loops := [{ live := [0, 1, 5], liveX := [1] }] }
/-- loop.example/g00037/impl.isVar -/
noncomputable def fn136 : FnI := { nt := 10, res := [.tmp 2], body := (Try.f136.body.getD .skip), rts := [4], frz := false }
/-- loop.example/g00037/spec.l01Letter -/
noncomputable def fn160 : FnI := { nt := 17, res := [.tmp 2], body := (Try.f160.body.getD .skip), rts := [4] }
/-- loop.example/g00037/spec.l01NameByte -/
noncomputable def fn161 : FnI := { nt := 13, res := [.tmp 2], body := (Try.f161.body.getD .skip), rts := [4] }
/-- loop.example/g00037/impl.isLetter -/
noncomputable def fn164 : FnI := { nt := 17, res := [.tmp 2], body := (Try.f164.body.getD .skip), rts := [4], frz := false }
/-- loop.example/g00037/impl.inName -/
noncomputable def fn165 : FnI := { nt := 13, res := [.tmp 2], body := (Try.f165.body.getD .skip), rts := [4], frz := false }
/-- loop.example/g00037/spec.l01Room -/
noncomputable def fn178 : FnI := { nt := 33, res := [.tmp 6], body := (Try.f178.body.getD .skip), rts := [3], loops := [{ live := [1, 2, 3, 7], liveX := [1] }] }
/-- loop.example/g00037/spec.l01Right -/
noncomputable def fn179 : FnI := { nt := 48, res := [.tmp 2], body := (Try.f179.body.getD .skip), rts := [4], loops := [{ live := [1, 3], liveX := [] }] }
/-- loop.example/g00037/spec.l11Var -/
noncomputable def fn180 : FnI := { nt := 10, res := [.tmp 2], body := (Try.f180.body.getD .skip), rts := [4] }
/-- loop.example/g00037/impl.varsOK -/
noncomputable def fn181 : FnI := { nt := 21, res := [.tmp 2], body := (Try.f181.body.getD .skip), rts := [4], frz := false, loops := [{ live := [11, 12, 13], liveX := [] }] }
/-- loop.example/g00037/impl.measure -/
noncomputable def fn182 : FnI := { nt := 67, res := [.tmp 8], body := (Try.f182.body.getD .skip), rts := [4], frz := false, loops := [{ live := [1, 2, 3, 53, 54, 55], liveX := [] }] }
/-- loop.example/g00037/impl.bound -/
noncomputable def fn183 : FnI := { nt := 22, res := [.cell 4 67, .tmp 5], body := (Try.f183.body.getD .skip), rts := [67, 4], loops := [{ live := [1, 4, 8, 9, 10], liveX := [4] }] }
/-- loop.example/g00037/spec.l01Digit -/
noncomputable def fn219 : FnI := { nt := 9, res := [.tmp 2], body := (Try.f219.body.getD .skip), rts := [4] }
/-- loop.example/g00037/impl.isDigit -/
noncomputable def fn220 : FnI := { nt := 9, res := [.tmp 2], body := (Try.f220.body.getD .skip), rts := [4], frz := false }

noncomputable def ctx : Ctx := { tab := tab, fns := [(7, fn7), (32, fn32), (33, fn33), (34, fn34), (35, fn35), (36, fn36), (37, fn37), (38, fn38), (39, fn39), (40, fn40), (41, fn41), (42, fn42), (77, fn77), (78, fn78), (83, fn83), (100, fn100), (101, fn101), (102, fn102), (103, fn103), (104, fn104), (105, fn105), (106, fn106), (107, fn107), (108, fn108), (109, fn109), (110, fn110), (111, fn111), (112, fn112), (113, fn113), (114, fn114), (115, fn115), (116, fn116), (117, fn117), (118, fn118), (136, fn136), (160, fn160), (161, fn161), (164, fn164), (165, fn165), (178, fn178), (179, fn179), (180, fn180), (181, fn181), (182, fn182), (183, fn183), (219, fn219), (220, fn220)], idxB := some 252 }

end Go.Proofs.Ytfniojpjlachoaa
