import Derived.Test.YtfniojpjlachoaaVmd
import Derived.Test.YtfniojpjlachoaaProg
namespace Go.Proofs.Ytfniojpjlachoaa
open Go.VK

def tab : List (Nat × TI) := [
  (2, { agg := false, cts := [.int .i64], bytes := 8 }),
  (3, { agg := false, cts := [.int .i64], bytes := 8 }),
  (4, { agg := false, cts := [.bool], bytes := 1 }),
  (5, { agg := false, cts := [.int .u8], bytes := 1 }),
  (6, { agg := false, cts := [.int .u8], bytes := 1 }),
  (7, { agg := true, cts := [.int .i64, .int .i64, .bool, .int .u8], offs := [(0, 2), (1, 3), (2, 4), (3, 6)], bytes := 24 }),
  (8, { agg := true, cts := [.int .i64, .int .i64, .bool, .int .u8], offs := [(0, 2), (1, 3), (2, 4), (3, 6)], bytes := 24 }),
  (9, { agg := false, cts := [.str], bytes := 16 }),
  (10, { agg := false, cts := [.str], bytes := 16 }),
  (11, { agg := false, cts := [.str], bytes := 16 }),
  (12, { agg := false, cts := [.int .u64], bytes := 8 }),
  (13, { agg := true, cts := [.str, .int .u64], offs := [(0, 9), (1, 12)], bytes := 24 }),
  (14, { agg := true, cts := [.str, .int .u64], offs := [(0, 9), (1, 12)], bytes := 24 }),
  (15, { agg := false, cts := [.ptr], bytes := 8 }),
  (16, { agg := false, cts := [.ptr], bytes := 8 }),
  (17, { agg := false, cts := [.ptr], bytes := 8 }),
  (18, { agg := true, cts := [.ptr], offs := [(0, 17)], bytes := 8 }),
  (19, { agg := true, cts := [.ptr], offs := [(0, 17)], bytes := 8 }),
  (21, { agg := false, cts := [.int .i32], bytes := 4 }),
  (25, { agg := false, cts := [.slice 3], elem := some 242, bytes := 24 }),
  (26, { agg := false, cts := [.slice 1], elem := some 9, bytes := 24 }),
  (27, { agg := false, cts := [.slice 5], elem := some 244, bytes := 24 }),
  (28, { agg := true, cts := [.slice 3, .slice 1, .int .i64, .slice 5], offs := [(0, 25), (1, 26), (2, 3), (3, 27)], bytes := 80 }),
  (29, { agg := true, cts := [.slice 3, .slice 1, .int .i64, .slice 5], offs := [(0, 25), (1, 26), (2, 3), (3, 27)], bytes := 80 }),
  (32, { agg := false, cts := [.slice 3], elem := some 133, bytes := 24 }),
  (33, { agg := false, cts := [.slice 5], elem := some 136, bytes := 24 }),
  (34, { agg := true, cts := [.slice 3, .slice 1, .int .i64, .slice 5], offs := [(0, 32), (1, 26), (2, 3), (3, 33)], bytes := 80 }),
  (35, { agg := true, cts := [.slice 3, .slice 1, .int .i64, .slice 5], offs := [(0, 32), (1, 26), (2, 3), (3, 33)], bytes := 80 }),
  (39, { agg := false, cts := [.slice 3], elem := some 259, bytes := 24 }),
  (40, { agg := false, cts := [.slice 2], elem := some 251, bytes := 24 }),
  (41, { agg := true, cts := [.int .i64, .slice 3, .slice 2, .slice 2], offs := [(0, 3), (1, 39), (2, 40), (3, 40)], bytes := 80 }),
  (42, { agg := true, cts := [.int .i64, .slice 3, .slice 2, .slice 2], offs := [(0, 3), (1, 39), (2, 40), (3, 40)], bytes := 80 }),
  (44, { agg := false, cts := [.slice 1], elem := some 3, bytes := 24 }),
  (47, { agg := false, cts := [.slice 3], elem := some 254, bytes := 24 }),
  (48, { agg := false, cts := [.slice 2], elem := some 149, bytes := 24 }),
  (49, { agg := true, cts := [.int .i64, .slice 3, .slice 2, .slice 2], offs := [(0, 3), (1, 47), (2, 48), (3, 48)], bytes := 80 }),
  (50, { agg := true, cts := [.int .i64, .slice 3, .slice 2, .slice 2], offs := [(0, 3), (1, 47), (2, 48), (3, 48)], bytes := 80 }),
  (59, { agg := false, cts := [.slice 4], elem := some 61, bytes := 24 }),
  (60, { agg := true, cts := [.str, .str, .bool, .slice 4], offs := [(0, 9), (1, 9), (2, 4), (3, 59)], bytes := 64 }),
  (61, { agg := true, cts := [.str, .str, .bool, .slice 4], offs := [(0, 9), (1, 9), (2, 4), (3, 59)], bytes := 64 }),
  (62, { agg := false, cts := [.slice 5], elem := some 162, bytes := 24 }),
  (65, { agg := false, cts := [.slice 4], elem := some 67, bytes := 24 }),
  (66, { agg := true, cts := [.str, .str, .bool, .slice 4], offs := [(0, 9), (1, 9), (2, 4), (3, 65)], bytes := 64 }),
  (67, { agg := true, cts := [.str, .str, .bool, .slice 4], offs := [(0, 9), (1, 9), (2, 4), (3, 65)], bytes := 64 }),
  (71, { agg := false, cts := [.slice 5], elem := some 165, bytes := 24 }),
  (78, { agg := false, cts := [.slice 6], elem := some 80, bytes := 24 }),
  (79, { agg := true, cts := [.int .i64, .str, .str, .bool, .slice 4, .slice 6], offs := [(0, 3), (1, 61), (5, 78)], bytes := 96 }),
  (80, { agg := true, cts := [.int .i64, .str, .str, .bool, .slice 4, .slice 6], offs := [(0, 3), (1, 61), (5, 78)], bytes := 96 }),
  (83, { agg := false, cts := [.slice 6], elem := some 85, bytes := 24 }),
  (84, { agg := true, cts := [.int .i64, .str, .str, .bool, .slice 4, .slice 6], offs := [(0, 3), (1, 67), (5, 83)], bytes := 96 }),
  (85, { agg := true, cts := [.int .i64, .str, .str, .bool, .slice 4, .slice 6], offs := [(0, 3), (1, 67), (5, 83)], bytes := 96 }),
  (93, { agg := false, cts := [.slice 9], elem := some 186, bytes := 24 }),
  (96, { agg := false, cts := [.slice 9], elem := some 189, bytes := 24 }),
  (100, { agg := false, cts := [.slice 1], elem := some 44, bytes := 24 }),
  (109, { agg := false, cts := [.slice 1], elem := some 295, bytes := 24 }),
  (110, { agg := true, cts := [.slice 1, .slice 1], offs := [(0, 109), (1, 100)], bytes := 48 }),
  (111, { agg := true, cts := [.slice 1, .slice 1], offs := [(0, 109), (1, 100)], bytes := 48 }),
  (114, { agg := false, cts := [.slice 1], elem := some 222, bytes := 24 }),
  (115, { agg := true, cts := [.slice 1, .slice 1], offs := [(0, 114), (1, 100)], bytes := 48 }),
  (116, { agg := true, cts := [.slice 1, .slice 1], offs := [(0, 114), (1, 100)], bytes := 48 }),
  (120, { agg := false, cts := [.slice 258], elem := some 302, bytes := 24 }),
  (123, { agg := false, cts := [.ptr], bytes := 8 }),
  (124, { agg := false, cts := [.slice 256], elem := some 323, bytes := 24 }),
  (132, { agg := true, cts := [.str, .int .i64, .int .i64], offs := [(0, 9), (1, 3), (2, 3)], bytes := 32 }),
  (133, { agg := true, cts := [.str, .int .i64, .int .i64], offs := [(0, 9), (1, 3), (2, 3)], bytes := 32 }),
  (135, { agg := true, cts := [.int .i64, .slice 1, .str, .int .i64, .int .i64], offs := [(0, 3), (1, 44), (2, 9), (3, 3), (4, 3)], bytes := 64 }),
  (136, { agg := true, cts := [.int .i64, .slice 1, .str, .int .i64, .int .i64], offs := [(0, 3), (1, 44), (2, 9), (3, 3), (4, 3)], bytes := 64 }),
  (140, { agg := false, cts := [.oth], elem := some 3, key := some 9, bytes := 8 }),
  (148, { agg := true, cts := [.int .i64, .str], offs := [(0, 3), (1, 9)], bytes := 24 }),
  (149, { agg := true, cts := [.int .i64, .str], offs := [(0, 3), (1, 9)], bytes := 24 }),
  (158, { agg := false, cts := [.oth], elem := some 3, key := some 3, bytes := 8 }),
  (161, { agg := true, cts := [.str, .str, .str, .bool, .slice 4], offs := [(0, 9), (1, 61)], bytes := 80 }),
  (162, { agg := true, cts := [.str, .str, .str, .bool, .slice 4], offs := [(0, 9), (1, 61)], bytes := 80 }),
  (164, { agg := true, cts := [.str, .str, .str, .bool, .slice 4], offs := [(0, 9), (1, 67)], bytes := 80 }),
  (165, { agg := true, cts := [.str, .str, .str, .bool, .slice 4], offs := [(0, 9), (1, 67)], bytes := 80 }),
  (185, { agg := true, cts := [.str, .str, .str, .bool, .slice 4, .str, .str, .bool, .slice 4], offs := [(0, 9), (1, 61), (5, 61)], bytes := 144 }),
  (186, { agg := true, cts := [.str, .str, .str, .bool, .slice 4, .str, .str, .bool, .slice 4], offs := [(0, 9), (1, 61), (5, 61)], bytes := 144 }),
  (188, { agg := true, cts := [.str, .str, .str, .bool, .slice 4, .str, .str, .bool, .slice 4], offs := [(0, 9), (1, 67), (5, 67)], bytes := 144 }),
  (189, { agg := true, cts := [.str, .str, .str, .bool, .slice 4, .str, .str, .bool, .slice 4], offs := [(0, 9), (1, 67), (5, 67)], bytes := 144 }),
  (191, { agg := false, cts := [.slice 3], elem := some 193, bytes := 24 }),
  (192, { agg := true, cts := [.str, .str, .slice 3], offs := [(0, 9), (1, 9), (2, 191)], bytes := 56 }),
  (193, { agg := true, cts := [.str, .str, .slice 3], offs := [(0, 9), (1, 9), (2, 191)], bytes := 56 }),
  (198, { agg := false, cts := [.ptr], bytes := 8 }),
  (202, { agg := false, cts := [.ptr], bytes := 8 }),
  (203, { agg := true, cts := [.slice 1], offs := [(0, 100)], bytes := 24 }),
  (204, { agg := true, cts := [.slice 1], offs := [(0, 100)], bytes := 24 }),
  (206, { agg := false, cts := [.ptr], bytes := 8 }),
  (207, { agg := true, cts := [.slice 1], offs := [(0, 100)], bytes := 24 }),
  (208, { agg := true, cts := [.slice 1], offs := [(0, 100)], bytes := 24 }),
  (212, { agg := false, cts := [.ptr], bytes := 8 }),
  (213, { agg := false, cts := [.oth], elem := some 3, key := some 292, bytes := 8 }),
  (214, { agg := false, cts := [.slice 6], elem := some 290, bytes := 24 }),
  (215, { agg := true, cts := [.slice 6, .slice 6, .oth, .oth], offs := [(0, 214), (1, 214), (2, 213), (3, 213)], bytes := 64 }),
  (216, { agg := true, cts := [.slice 6, .slice 6, .oth, .oth], offs := [(0, 214), (1, 214), (2, 213), (3, 213)], bytes := 64 }),
  (218, { agg := false, cts := [.ptr], bytes := 8 }),
  (222, { agg := false, cts := [.slice 2], elem := some 224, bytes := 24 }),
  (223, { agg := true, cts := [.int .i64, .int .i64], offs := [(0, 3), (1, 3)], bytes := 16 }),
  (224, { agg := true, cts := [.int .i64, .int .i64], offs := [(0, 3), (1, 3)], bytes := 16 }),
  (228, { agg := false, cts := [.ptr], bytes := 8 }),
  (229, { agg := true, cts := [.str, .int .i64, .int .i64, .slice 258], offs := [(0, 9), (1, 3), (2, 3), (3, 120)], bytes := 56 }),
  (230, { agg := true, cts := [.str, .int .i64, .int .i64, .slice 258], offs := [(0, 9), (1, 3), (2, 3), (3, 120)], bytes := 56 }),
  (234, { agg := true, cts := [.int .i64], offs := [(0, 3)], bytes := 8 }),
  (235, { agg := true, cts := [.int .i64], offs := [(0, 3)], bytes := 8 }),
  (237, { agg := false, cts := [.ptr], bytes := 8 }),
  (238, { agg := true, cts := [.str, .int .i64, .slice 256], offs := [(0, 9), (1, 3), (2, 124)], bytes := 48 }),
  (239, { agg := true, cts := [.str, .int .i64, .slice 256], offs := [(0, 9), (1, 3), (2, 124)], bytes := 48 }),
  (242, { agg := true, cts := [.str, .int .i64, .int .i64], offs := [(0, 9), (1, 3), (2, 3)], bytes := 32 }),
  (244, { agg := true, cts := [.int .i64, .slice 1, .str, .int .i64, .int .i64], offs := [(0, 3), (1, 44), (2, 9), (3, 3), (4, 3)], bytes := 64 }),
  (251, { agg := true, cts := [.int .i64, .str], offs := [(0, 3), (1, 9)], bytes := 24 }),
  (253, { agg := true, cts := [.int .i64, .int .i64, .int .i64], offs := [(0, 3), (1, 3), (2, 3)], bytes := 24 }),
  (254, { agg := true, cts := [.int .i64, .int .i64, .int .i64], offs := [(0, 3), (1, 3), (2, 3)], bytes := 24 }),
  (255, { agg := false, cts := [.slice 1], elem := some 4, bytes := 24 }),
  (259, { agg := true, cts := [.int .i64, .int .i64, .int .i64], offs := [(0, 3), (1, 3), (2, 3)], bytes := 24 }),
  (262, { agg := false, cts := [.slice 1], elem := some 48, bytes := 24 }),
  (267, { agg := false, cts := [.ptr], bytes := 8 }),
  (269, { agg := false, cts := [.slice 1], elem := some 5, bytes := 24 }),
  (270, { agg := false, cts := [.ptr], bytes := 8 }),
  (271, { agg := true, cts := [.slice 9, .str, .int .i64, .int .i64], offs := [(0, 96), (1, 9), (2, 3), (3, 3)], bytes := 56 }),
  (272, { agg := true, cts := [.slice 9, .str, .int .i64, .int .i64], offs := [(0, 96), (1, 9), (2, 3), (3, 3)], bytes := 56 }),
  (276, { agg := false, cts := [.ptr], bytes := 8 }),
  (277, { agg := true, cts := [.str, .int .i64, .oth, .str, .int .i64], offs := [(0, 9), (1, 3), (2, 140), (3, 9), (4, 3)], bytes := 56 }),
  (278, { agg := true, cts := [.str, .int .i64, .oth, .str, .int .i64], offs := [(0, 9), (1, 3), (2, 140), (3, 9), (4, 3)], bytes := 56 }),
  (285, { agg := false, cts := [.ptr], bytes := 8 }),
  (289, { agg := true, cts := [.str, .str, .bool, .slice 4, .slice 1, .int .i64], offs := [(0, 67), (4, 44), (5, 3)], bytes := 96 }),
  (290, { agg := true, cts := [.str, .str, .bool, .slice 4, .slice 1, .int .i64], offs := [(0, 67), (4, 44), (5, 3)], bytes := 96 }),
  (295, { agg := false, cts := [.slice 2], elem := some 315, bytes := 24 }),
  (303, { agg := false, cts := [.slice 1], elem := some 123, bytes := 24 }),
  (304, { agg := true, cts := [.int .i64, .int .i64, .int .u8, .slice 1], offs := [(0, 3), (1, 3), (2, 5), (3, 303)], bytes := 48 }),
  (305, { agg := true, cts := [.int .i64, .int .i64, .int .u8, .slice 1], offs := [(0, 3), (1, 3), (2, 5), (3, 303)], bytes := 48 }),
  (309, { agg := true, cts := [.str, .int .i64, .ptr, .ptr], offs := [(0, 9), (1, 3), (2, 198), (3, 198)], bytes := 40 }),
  (310, { agg := true, cts := [.str, .int .i64, .ptr, .ptr], offs := [(0, 9), (1, 3), (2, 198), (3, 198)], bytes := 40 }),
  (312, { agg := false, cts := [.slice 1], elem := some 255, bytes := 24 }),
  (313, { agg := false, cts := [.slice 1], elem := some 83, bytes := 24 }),
  (315, { agg := true, cts := [.int .i64, .int .i64], offs := [(0, 3), (1, 3)], bytes := 16 }),
  (321, { agg := false, cts := [.ptr], bytes := 8 }),
  (328, { agg := true, cts := [.ptr, .ptr, .ptr, .str], offs := [(0, 17), (1, 17), (2, 17), (3, 9)], bytes := 40 }),
  (329, { agg := true, cts := [.ptr, .ptr, .ptr, .str], offs := [(0, 17), (1, 17), (2, 17), (3, 9)], bytes := 40 }),
  (333, { agg := false, cts := [.int .u32], bytes := 4 }),
  (334, { agg := false, cts := [.int .u8], bytes := 1 }),
  (335, { agg := false, cts := [.int .u8], bytes := 1 }),
  (337, { agg := false, cts := [.ptr], bytes := 8 }),
  (338, { agg := false, cts := [.int .i32], bytes := 4 }),
  (339, { agg := false, cts := [.int .i32], bytes := 4 }),
  (340, { agg := true, cts := [.int .u64, .int .u64, .int .u32, .int .u8, .int .u8, .int .u8, .int .u8, .oth, .ptr, .int .i32, .int .i32], offs := [(0, 12), (1, 12), (2, 333), (3, 334), (4, 5), (5, 5), (6, 335), (7, 336), (8, 337), (9, 338), (10, 339)], bytes := 48 }),
  (341, { agg := true, cts := [.int .u64, .int .u64, .int .u32, .int .u8, .int .u8, .int .u8, .int .u8, .oth, .ptr, .int .i32, .int .i32], offs := [(0, 12), (1, 12), (2, 333), (3, 334), (4, 5), (5, 5), (6, 335), (7, 336), (8, 337), (9, 338), (10, 339)], bytes := 48 })]

/-- loop.example/g00037/laws.FnExactBnfOK -/
noncomputable def fn4 : FnI := { nt := 27, res := [.tmp 2], body := (Try.f4.body.getD .skip), rts := [4] }
/-- loop.example/g00037/laws.FnExactUnused -/
noncomputable def fn6 : FnI := { nt := 96, res := [.tmp 2], body := (Try.f6.body.getD .skip), rts := [4] }
/-- loop.example/g00037/laws.FnExactTableOK -/
noncomputable def fn13 : FnI := { nt := 45, res := [.tmp 4], body := (Try.f13.body.getD .skip), rts := [4] }
/-- loop.example/g00037/laws.szBnf -/
noncomputable def fn16 : FnI := { nt := 24, res := [.tmp 4], body := (Try.f16.body.getD .skip), rts := [3] }
/-- loop.example/g00037/spec.BnfOK -/
noncomputable def fn17 : FnI := { nt := 161, res := [.tmp 2], body := (Try.f17.body.getD .skip), rts := [4], loops := [{ live := [1, 3], liveX := [1] }, { live := [1, 3, 4], liveX := [1, 3] }, { live := [1, 5], liveX := [1] }, { live := [1, 6, 7], liveX := [] }, { live := [1, 6, 7, 8, 9], liveX := [1, 6, 7] }] }
/-- loop.example/g00037/laws.toBnf -/
noncomputable def fn18 : FnI := { nt := 20, res := [.cell 2 35], body := (Try.f18.body.getD .skip), rts := [35], frz := false }
/-- loop.example/g00037/impl.BnfOK -/
noncomputable def fn19 : FnI := { nt := 156, res := [.tmp 2], body := (Try.f19.body.getD .skip), rts := [4], frz := false, loops := [{ live := [1, 3, 51, 52, 53], liveX := [1] }, { live := [1, 6, 76, 77, 78], liveX := [1] }, { live := [1, 9, 97, 98, 99], liveX := [] }, { live := [1, 9, 97, 98, 99, 141, 142, 143], liveX := [1, 9, 97, 98, 99] }] }
/-- loop.example/g00037/laws.eqBnf -/
noncomputable def fn20 : FnI := { nt := 28, res := [.tmp 4], body := (Try.f20.body.getD .skip), rts := [4] }
/-- loop.example/g00037/laws.szSg -/
noncomputable def fn21 : FnI := { nt := 24, res := [.tmp 4], body := (Try.f21.body.getD .skip), rts := [3] }
/-- loop.example/g00037/laws.toSg -/
noncomputable def fn23 : FnI := { nt := 20, res := [.cell 2 50], body := (Try.f23.body.getD .skip), rts := [50], frz := false }
/-- loop.example/g00037/laws.eqIntS -/
noncomputable def fn25 : FnI := { nt := 26, res := [.tmp 4], body := (Try.f25.body.getD .skip), rts := [4], loops := [{ live := [0, 1, 5], liveX := [] }] }
/-- loop.example/g00037/laws.eqSg -/
noncomputable def fn26 : FnI := { nt := 28, res := [.tmp 4], body := (Try.f26.body.getD .skip), rts := [4] }
/-- loop.example/g00037/laws.markSg -/
noncomputable def fn27 : FnI := { nt := 18, res := [.tmp 4], body := (Try.f27.body.getD .skip), rts := [3], muts := [0] }
/-- loop.example/g00037/laws.markIntS -/
noncomputable def fn28 : FnI := { nt := 19, res := [.tmp 4], body := (Try.f28.body.getD .skip), rts := [3], muts := [0], loops := [{ live := [0, 1, 5], liveX := [1] }] }
/-- loop.example/g00037/laws.heldIntS -/
noncomputable def fn29 : FnI := { nt := 21, res := [.tmp 4], body := (Try.f29.body.getD .skip), rts := [3], loops := [{ live := [0, 1, 5], liveX := [1] }] }
/-- loop.example/g00037/spec.Unused -/
noncomputable def fn30 : FnI := { nt := 46, res := [.tmp 2, .tmp 3], body := (Try.f30.body.getD .skip), rts := [44, 3], loops := [{ live := [1, 4, 5], liveX := [4] }, { live := [1, 4, 5, 6, 7], liveX := [1, 4, 5, 6] }] }
/-- loop.example/g00037/impl.Unused -/
noncomputable def fn31 : FnI := { nt := 48, res := [.tmp 2, .tmp 3], body := (Try.f31.body.getD .skip), rts := [44, 3], frz := false, loops := [{ live := [1, 4, 16, 17], liveX := [1, 4], own := [8] }, { live := [1, 4, 16, 17, 22, 23, 24], liveX := [1, 4, 16, 17], own := [8] }, { live := [4, 8, 34, 35], liveX := [8], own := [8] }] }
/-- loop.example/g00037/laws.eqIntSS -/
noncomputable def fn59 : FnI := { nt := 27, res := [.tmp 4], body := (Try.f59.body.getD .skip), rts := [4], loops := [{ live := [0, 1, 5], liveX := [] }] }
/-- loop.example/g00037/laws.szTable -/
noncomputable def fn65 : FnI := { nt := 18, res := [.tmp 4], body := (Try.f65.body.getD .skip), rts := [3] }
/-- loop.example/g00037/spec.TableOK -/
noncomputable def fn66 : FnI := { nt := 120, res := [.tmp 4], body := (Try.f66.body.getD .skip), rts := [4], loops := [{ live := [2, 3, 5, 6], liveX := [] }, { live := [2, 3, 5, 6, 7], liveX := [2, 3, 5, 6] }, { live := [2, 3, 5, 6, 10], liveX := [2, 3, 5, 6] }] }
/-- loop.example/g00037/laws.toTable -/
noncomputable def fn67 : FnI := { nt := 13, res := [.cell 2 116], body := (Try.f67.body.getD .skip), rts := [116], frz := false }
/-- loop.example/g00037/impl.TableOK -/
noncomputable def fn68 : FnI := { nt := 124, res := [.tmp 4], body := (Try.f68.body.getD .skip), rts := [4], frz := false, loops := [{ live := [2, 3, 5, 33, 34], liveX := [] }, { live := [2, 3, 5, 6, 33, 34, 64, 65, 66], liveX := [2, 3, 5, 6, 33, 34] }, { live := [2, 3, 5, 33, 34, 109, 110, 111], liveX := [2, 3, 5, 33, 34] }] }
/-- loop.example/g00037/laws.eqTable -/
noncomputable def fn69 : FnI := { nt := 17, res := [.tmp 4], body := (Try.f69.body.getD .skip), rts := [4] }
/-- loop.example/g00037/laws.szTermS -/
noncomputable def fn72 : FnI := { nt := 27, res := [.tmp 4], body := (Try.f72.body.getD .skip), rts := [3], loops := [{ live := [0, 1, 5], liveX := [1] }] }
/-- loop.example/g00037/laws.szStringS -/
noncomputable def fn73 : FnI := { nt := 28, res := [.tmp 4], body := (Try.f73.body.getD .skip), rts := [3], loops := [{ live := [0, 1, 5], liveX := [1] }] }
/-- loop.example/g00037/laws.szProdS -/
noncomputable def fn74 : FnI := { nt := 27, res := [.tmp 4], body := (Try.f74.body.getD .skip), rts := [3], loops := [{ live := [0, 1, 5], liveX := [1] }] }
/-- loop.example/g00037/spec.l01Between -/
noncomputable def fn75 : FnI := { nt := 15, res := [.tmp 6], body := (Try.f75.body.getD .skip), rts := [4] }
/-- loop.example/g00037/spec.l04Strength -/
noncomputable def fn76 : FnI := { nt := 23, res := [.tmp 4], body := (Try.f76.body.getD .skip), rts := [4] }
/-- loop.example/g00037/spec.l03At -/
noncomputable def fn77 : FnI := { nt := 19, res := [.tmp 4], body := (Try.f77.body.getD .skip), rts := [3], loops := [{ live := [0, 1, 5], liveX := [] }] }
/-- loop.example/g00037/spec.l01Name -/
noncomputable def fn78 : FnI := { nt := 29, res := [.tmp 2], body := (Try.f78.body.getD .skip), rts := [4], loops := [{ live := [0, 3], liveX := [] }] }
/-- loop.example/g00037/laws.toTermS -/
noncomputable def fn79 : FnI := { nt := 23, res := [.tmp 2], body := (Try.f79.body.getD .skip), rts := [32], frz := false, loops := [{ live := [0, 3, 4], liveX := [3] }] }
/-- loop.example/g00037/laws.toStringS -/
noncomputable def fn80 : FnI := { nt := 22, res := [.tmp 2], body := (Try.f80.body.getD .skip), rts := [26], frz := false, loops := [{ live := [0, 3, 4], liveX := [3] }] }
/-- loop.example/g00037/laws.toProdS -/
noncomputable def fn81 : FnI := { nt := 23, res := [.tmp 2], body := (Try.f81.body.getD .skip), rts := [33], frz := false, loops := [{ live := [0, 3, 4], liveX := [3] }] }
/-- loop.example/g00037/impl.levelOK -/
noncomputable def fn82 : FnI := { nt := 21, res := [.tmp 4], body := (Try.f82.body.getD .skip), rts := [4], frz := false }
/-- loop.example/g00037/impl.nameOK -/
noncomputable def fn83 : FnI := { nt := 29, res := [.tmp 2], body := (Try.f83.body.getD .skip), rts := [4], frz := false, loops := [{ live := [0, 3], liveX := [] }] }
/-- loop.example/g00037/laws.eqTermS -/
noncomputable def fn84 : FnI := { nt := 27, res := [.tmp 4], body := (Try.f84.body.getD .skip), rts := [4], loops := [{ live := [0, 1, 5], liveX := [] }] }
/-- loop.example/g00037/laws.eqStringS -/
noncomputable def fn85 : FnI := { nt := 26, res := [.tmp 4], body := (Try.f85.body.getD .skip), rts := [4], loops := [{ live := [0, 1, 5], liveX := [] }] }
/-- loop.example/g00037/laws.eqProdS -/
noncomputable def fn86 : FnI := { nt := 27, res := [.tmp 4], body := (Try.f86.body.getD .skip), rts := [4], loops := [{ live := [0, 1, 5], liveX := [] }] }
/-- loop.example/g00037/laws.szSEdgeS -/
noncomputable def fn87 : FnI := { nt := 12, res := [.tmp 4], body := (Try.f87.body.getD .skip), rts := [3] }
/-- loop.example/g00037/laws.szSpotS -/
noncomputable def fn88 : FnI := { nt := 27, res := [.tmp 4], body := (Try.f88.body.getD .skip), rts := [3], loops := [{ live := [0, 1, 5], liveX := [1] }] }
/-- loop.example/g00037/spec.SgOK -/
noncomputable def fn89 : FnI := { nt := 65, res := [.tmp 2], body := (Try.f89.body.getD .skip), rts := [4], loops := [{ live := [1, 3], liveX := [] }] }
/-- loop.example/g00037/spec.l12Resolve -/
noncomputable def fn90 : FnI := { nt := 44, res := [.tmp 4], body := (Try.f90.body.getD .skip), rts := [44], loops := [{ live := [2, 3, 5, 6], liveX := [] }] }
/-- loop.example/g00037/laws.toSEdgeS -/
noncomputable def fn91 : FnI := { nt := 23, res := [.tmp 2], body := (Try.f91.body.getD .skip), rts := [47], frz := false, loops := [{ live := [0, 3, 4], liveX := [3] }] }
/-- loop.example/g00037/laws.toSpotS -/
noncomputable def fn92 : FnI := { nt := 23, res := [.tmp 2], body := (Try.f92.body.getD .skip), rts := [48], frz := false, loops := [{ live := [0, 3, 4], liveX := [3] }] }
/-- loop.example/g00037/impl.SgOK -/
noncomputable def fn93 : FnI := { nt := 96, res := [.tmp 2], body := (Try.f93.body.getD .skip), rts := [4], frz := false, loops := [{ live := [1, 3, 38, 39, 40], liveX := [1, 3] }, { live := [3, 71, 72, 73], liveX := [] }, { live := [3, 71, 72, 73, 77, 78, 79], liveX := [3, 71, 72, 73] }] }
/-- (loop.example/g00037/impl.Sg).resolve -/
noncomputable def fn94 : FnI := { nt := 66, res := [.tmp 4], body := (Try.f94.body.getD .skip), rts := [44], frz := false, loops := [{ live := [5, 6, 7, 8, 22, 23, 24], liveX := [8], own := [8] }] }
/-- loop.example/g00037/laws.eqSEdgeS -/
noncomputable def fn95 : FnI := { nt := 27, res := [.tmp 4], body := (Try.f95.body.getD .skip), rts := [4], loops := [{ live := [0, 1, 5], liveX := [] }] }
/-- loop.example/g00037/laws.eqSpotS -/
noncomputable def fn96 : FnI := { nt := 27, res := [.tmp 4], body := (Try.f96.body.getD .skip), rts := [4], loops := [{ live := [0, 1, 5], liveX := [] }] }
/-- loop.example/g00037/laws.markSEdgeS -/
noncomputable def fn97 : FnI := { nt := 34, res := [.tmp 4], body := (Try.f97.body.getD .skip), rts := [3], muts := [0], loops := [{ live := [0, 1, 5], liveX := [1] }] }
/-- loop.example/g00037/laws.markSpotS -/
noncomputable def fn98 : FnI := { nt := 28, res := [.tmp 4], body := (Try.f98.body.getD .skip), rts := [3], muts := [0], loops := [{ live := [0, 1, 5], liveX := [1] }] }
/-- loop.example/g00037/spec.l12Has -/
noncomputable def fn99 : FnI := { nt := 18, res := [.tmp 4], body := (Try.f99.body.getD .skip), rts := [4], loops := [{ live := [0, 1, 5], liveX := [] }] }
/-- loop.example/g00037/laws.markText -/
noncomputable def fn117 : FnI := { nt := 20, res := [.tmp 2], body := (Try.f117.body.getD .skip), rts := [9], loops := [{ live := [0, 3], liveX := [3] }] }
/-- loop.example/g00037/laws.szActSS -/
noncomputable def fn147 : FnI := { nt := 27, res := [.tmp 4], body := (Try.f147.body.getD .skip), rts := [3], loops := [{ live := [0, 1, 5], liveX := [1] }] }
/-- loop.example/g00037/laws.szIntSS -/
noncomputable def fn148 : FnI := { nt := 27, res := [.tmp 4], body := (Try.f148.body.getD .skip), rts := [3], loops := [{ live := [0, 1, 5], liveX := [1] }] }
/-- loop.example/g00037/laws.toActSS -/
noncomputable def fn149 : FnI := { nt := 23, res := [.tmp 2], body := (Try.f149.body.getD .skip), rts := [114], frz := false, loops := [{ live := [0, 3, 4], liveX := [3] }] }
/-- loop.example/g00037/laws.toIntSS -/
noncomputable def fn150 : FnI := { nt := 23, res := [.tmp 2], body := (Try.f150.body.getD .skip), rts := [100], frz := false, loops := [{ live := [0, 3, 4], liveX := [3] }] }
/-- loop.example/g00037/laws.eqActSS -/
noncomputable def fn151 : FnI := { nt := 27, res := [.tmp 4], body := (Try.f151.body.getD .skip), rts := [4], loops := [{ live := [0, 1, 5], liveX := [] }] }
/-- loop.example/g00037/laws.szTerm -/
noncomputable def fn158 : FnI := { nt := 13, res := [.tmp 4], body := (Try.f158.body.getD .skip), rts := [3] }
/-- loop.example/g00037/laws.szProd -/
noncomputable def fn159 : FnI := { nt := 19, res := [.tmp 4], body := (Try.f159.body.getD .skip), rts := [3] }
/-- loop.example/g00037/spec.l01Letter -/
noncomputable def fn160 : FnI := { nt := 17, res := [.tmp 2], body := (Try.f160.body.getD .skip), rts := [4] }
/-- loop.example/g00037/spec.l01NameByte -/
noncomputable def fn161 : FnI := { nt := 13, res := [.tmp 2], body := (Try.f161.body.getD .skip), rts := [4] }
/-- loop.example/g00037/laws.toTerm -/
noncomputable def fn162 : FnI := { nt := 14, res := [.cell 2 133], body := (Try.f162.body.getD .skip), rts := [133], frz := false }
/-- loop.example/g00037/laws.toProd -/
noncomputable def fn163 : FnI := { nt := 21, res := [.cell 2 136], body := (Try.f163.body.getD .skip), rts := [136], frz := false }
/-- loop.example/g00037/impl.isLetter -/
noncomputable def fn164 : FnI := { nt := 17, res := [.tmp 2], body := (Try.f164.body.getD .skip), rts := [4], frz := false }
/-- loop.example/g00037/impl.inName -/
noncomputable def fn165 : FnI := { nt := 13, res := [.tmp 2], body := (Try.f165.body.getD .skip), rts := [4], frz := false }
/-- loop.example/g00037/laws.eqTerm -/
noncomputable def fn166 : FnI := { nt := 20, res := [.tmp 4], body := (Try.f166.body.getD .skip), rts := [4] }
/-- loop.example/g00037/laws.eqProd -/
noncomputable def fn167 : FnI := { nt := 31, res := [.tmp 4], body := (Try.f167.body.getD .skip), rts := [4] }
/-- loop.example/g00037/laws.szSpot -/
noncomputable def fn168 : FnI := { nt := 13, res := [.tmp 4], body := (Try.f168.body.getD .skip), rts := [3] }
/-- loop.example/g00037/spec.l12Spots -/
noncomputable def fn169 : FnI := { nt := 33, res := [.tmp 4], body := (Try.f169.body.getD .skip), rts := [4], loops := [{ live := [0, 1, 5], liveX := [] }] }
/-- loop.example/g00037/spec.l12In -/
noncomputable def fn170 : FnI := { nt := 41, res := [.tmp 6], body := (Try.f170.body.getD .skip), rts := [44], loops := [{ live := [1, 2, 3, 7, 8], liveX := [7] }] }
/-- loop.example/g00037/spec.l12Behind -/
noncomputable def fn171 : FnI := { nt := 47, res := [.tmp 6], body := (Try.f171.body.getD .skip), rts := [255], loops := [{ live := [1, 2, 3, 7, 8], liveX := [7] }] }
/-- loop.example/g00037/laws.toSEdge -/
noncomputable def fn172 : FnI := { nt := 14, res := [.cell 2 254], body := (Try.f172.body.getD .skip), rts := [254], frz := false }
/-- loop.example/g00037/laws.toSpot -/
noncomputable def fn173 : FnI := { nt := 11, res := [.cell 2 149], body := (Try.f173.body.getD .skip), rts := [149], frz := false }
/-- loop.example/g00037/impl.SgOK$1 -/
noncomputable def fn174 : FnI := { nt := 12, res := [.tmp 3], body := (Try.f174.body.getD .skip), rts := [4], frz := false }
/-- (loop.example/g00037/impl.Sg).steps -/
noncomputable def fn175 : FnI := { nt := 100, res := [.tmp 4], body := (Try.f175.body.getD .skip), rts := [44], loops := [{ live := [1, 2, 5, 6, 21, 22], liveX := [1, 2, 5, 6] }, { live := [2, 5, 6, 8, 9, 10], liveX := [5] }, { live := [2, 5, 6, 8, 9, 10, 11, 56, 57, 58], liveX := [2, 5, 6, 8, 9, 10] }] }
/-- loop.example/g00037/laws.eqSEdge -/
noncomputable def fn176 : FnI := { nt := 20, res := [.tmp 4], body := (Try.f176.body.getD .skip), rts := [4] }
/-- loop.example/g00037/laws.eqSpot -/
noncomputable def fn177 : FnI := { nt := 15, res := [.tmp 4], body := (Try.f177.body.getD .skip), rts := [4] }
/-- loop.example/g00037/laws.szActS -/
noncomputable def fn210 : FnI := { nt := 12, res := [.tmp 4], body := (Try.f210.body.getD .skip), rts := [3] }
/-- loop.example/g00037/laws.szIntS -/
noncomputable def fn211 : FnI := { nt := 12, res := [.tmp 4], body := (Try.f211.body.getD .skip), rts := [3] }
/-- loop.example/g00037/laws.toActS -/
noncomputable def fn212 : FnI := { nt := 23, res := [.tmp 2], body := (Try.f212.body.getD .skip), rts := [222], frz := false, loops := [{ live := [0, 3, 4], liveX := [3] }] }
/-- loop.example/g00037/laws.toIntS -/
noncomputable def fn213 : FnI := { nt := 22, res := [.tmp 2], body := (Try.f213.body.getD .skip), rts := [44], frz := false, loops := [{ live := [0, 3, 4], liveX := [3] }] }
/-- loop.example/g00037/laws.eqActS -/
noncomputable def fn214 : FnI := { nt := 27, res := [.tmp 4], body := (Try.f214.body.getD .skip), rts := [4], loops := [{ live := [0, 1, 5], liveX := [] }] }
/-- loop.example/g00037/spec.l01Digit -/
noncomputable def fn219 : FnI := { nt := 9, res := [.tmp 2], body := (Try.f219.body.getD .skip), rts := [4] }
/-- loop.example/g00037/impl.isDigit -/
noncomputable def fn220 : FnI := { nt := 9, res := [.tmp 2], body := (Try.f220.body.getD .skip), rts := [4], frz := false }
/-- (loop.example/g00037/impl.Sg).steps$1 -/
noncomputable def fn221 : FnI := { nt := 22, res := [], body := (Try.f221.body.getD .skip), rts := [], frz := false }
/-- loop.example/g00037/laws.toAct -/
noncomputable def fn232 : FnI := { nt := 11, res := [.cell 2 224], body := (Try.f232.body.getD .skip), rts := [224], frz := false }
/-- loop.example/g00037/laws.eqAct -/
noncomputable def fn233 : FnI := { nt := 15, res := [.tmp 4], body := (Try.f233.body.getD .skip), rts := [4] }

noncomputable def ctx : Ctx := { tab := tab, fns := [(4, fn4), (6, fn6), (13, fn13), (16, fn16), (17, fn17), (18, fn18), (19, fn19), (20, fn20), (21, fn21), (23, fn23), (25, fn25), (26, fn26), (27, fn27), (28, fn28), (29, fn29), (30, fn30), (31, fn31), (59, fn59), (65, fn65), (66, fn66), (67, fn67), (68, fn68), (69, fn69), (72, fn72), (73, fn73), (74, fn74), (75, fn75), (76, fn76), (77, fn77), (78, fn78), (79, fn79), (80, fn80), (81, fn81), (82, fn82), (83, fn83), (84, fn84), (85, fn85), (86, fn86), (87, fn87), (88, fn88), (89, fn89), (90, fn90), (91, fn91), (92, fn92), (93, fn93), (94, fn94), (95, fn95), (96, fn96), (97, fn97), (98, fn98), (99, fn99), (117, fn117), (147, fn147), (148, fn148), (149, fn149), (150, fn150), (151, fn151), (158, fn158), (159, fn159), (160, fn160), (161, fn161), (162, fn162), (163, fn163), (164, fn164), (165, fn165), (166, fn166), (167, fn167), (168, fn168), (169, fn169), (170, fn170), (171, fn171), (172, fn172), (173, fn173), (174, fn174), (175, fn175), (176, fn176), (177, fn177), (210, fn210), (211, fn211), (212, fn212), (213, fn213), (214, fn214), (219, fn219), (220, fn220), (221, fn221), (232, fn232), (233, fn233)], idxB := some 252 }

end Go.Proofs.Ytfniojpjlachoaa
