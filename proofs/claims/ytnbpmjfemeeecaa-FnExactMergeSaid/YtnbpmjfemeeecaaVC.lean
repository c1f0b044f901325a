import Derived.Test.YtnbpmjfemeeecaaVmd
import Derived.Test.YtnbpmjfemeeecaaProg
namespace Go.Proofs.Ytnbpmjfemeeecaa
open Go.VK

def tab : List (Nat × TI) := [
  (2, { agg := false, cts := [.int .i64], bytes := 8 }),
  (3, { agg := false, cts := [.int .i64], bytes := 8 }),
  (4, { agg := false, cts := [.bool], bytes := 1 }),
  (5, { agg := false, cts := [.int .u8], bytes := 1 }),
  (6, { agg := false, cts := [.int .u8], bytes := 1 }),
  (7, { agg := true, cts := [.int .i64, .int .i64, .bool, .int .u8], offs := [(0, 2), (1, 3), (2, 4), (3, 6)], bytes := 24 }),
  (8, { agg := true, cts := [.int .i64, .int .i64, .bool, .int .u8], offs := [(0, 2), (1, 3), (2, 4), (3, 6)], bytes := 24 }),
  (9, { agg := false, cts := [.str], bytes := 16 }),
  (10, { agg := false, cts := [.str], bytes := 16 }),
  (11, { agg := false, cts := [.str], bytes := 16 }),
  (12, { agg := false, cts := [.int .u64], bytes := 8 }),
  (13, { agg := true, cts := [.str, .int .u64], offs := [(0, 9), (1, 12)], bytes := 24 }),
  (14, { agg := true, cts := [.str, .int .u64], offs := [(0, 9), (1, 12)], bytes := 24 }),
  (15, { agg := false, cts := [.ptr], bytes := 8 }),
  (16, { agg := false, cts := [.ptr], bytes := 8 }),
  (17, { agg := false, cts := [.ptr], bytes := 8 }),
  (18, { agg := true, cts := [.ptr], offs := [(0, 17)], bytes := 8 }),
  (19, { agg := true, cts := [.ptr], offs := [(0, 17)], bytes := 8 }),
  (21, { agg := false, cts := [.int .i32], bytes := 4 }),
  (22, { agg := false, cts := [.slice 4], elem := some 24, bytes := 24 }),
  (23, { agg := true, cts := [.str, .str, .bool, .slice 4], offs := [(0, 9), (1, 9), (2, 4), (3, 22)], bytes := 64 }),
  (24, { agg := true, cts := [.str, .str, .bool, .slice 4], offs := [(0, 9), (1, 9), (2, 4), (3, 22)], bytes := 64 }),
  (26, { agg := false, cts := [.slice 4], elem := some 28, bytes := 24 }),
  (27, { agg := true, cts := [.str, .str, .bool, .slice 4], offs := [(0, 9), (1, 9), (2, 4), (3, 26)], bytes := 64 }),
  (28, { agg := true, cts := [.str, .str, .bool, .slice 4], offs := [(0, 9), (1, 9), (2, 4), (3, 26)], bytes := 64 }),
  (29, { agg := false, cts := [.slice 1], elem := some 70, bytes := 24 }),
  (38, { agg := false, cts := [.slice 4], elem := some 111, bytes := 24 }),
  (39, { agg := false, cts := [.slice 1], elem := some 4, bytes := 24 }),
  (43, { agg := false, cts := [.slice 4], elem := some 115, bytes := 24 }),
  (52, { agg := false, cts := [.slice 3], elem := some 215, bytes := 24 }),
  (53, { agg := false, cts := [.slice 1], elem := some 9, bytes := 24 }),
  (54, { agg := false, cts := [.slice 5], elem := some 218, bytes := 24 }),
  (55, { agg := true, cts := [.slice 3, .slice 1, .int .i64, .slice 5], offs := [(0, 52), (1, 53), (2, 3), (3, 54)], bytes := 80 }),
  (56, { agg := true, cts := [.slice 3, .slice 1, .int .i64, .slice 5], offs := [(0, 52), (1, 53), (2, 3), (3, 54)], bytes := 80 }),
  (60, { agg := false, cts := [.slice 3], elem := some 220, bytes := 24 }),
  (61, { agg := false, cts := [.slice 5], elem := some 222, bytes := 24 }),
  (62, { agg := true, cts := [.slice 3, .slice 1, .int .i64, .slice 5], offs := [(0, 60), (1, 53), (2, 3), (3, 61)], bytes := 80 }),
  (63, { agg := true, cts := [.slice 3, .slice 1, .int .i64, .slice 5], offs := [(0, 60), (1, 53), (2, 3), (3, 61)], bytes := 80 }),
  (67, { agg := false, cts := [.slice 1], elem := some 238, bytes := 24 }),
  (68, { agg := true, cts := [.slice 1, .slice 1], offs := [(0, 67), (1, 29)], bytes := 48 }),
  (69, { agg := true, cts := [.slice 1, .slice 1], offs := [(0, 67), (1, 29)], bytes := 48 }),
  (70, { agg := false, cts := [.slice 1], elem := some 3, bytes := 24 }),
  (74, { agg := false, cts := [.slice 1], elem := some 239, bytes := 24 }),
  (75, { agg := true, cts := [.slice 1, .slice 1], offs := [(0, 74), (1, 29)], bytes := 48 }),
  (76, { agg := true, cts := [.slice 1, .slice 1], offs := [(0, 74), (1, 29)], bytes := 48 }),
  (88, { agg := false, cts := [.slice 6], elem := some 90, bytes := 24 }),
  (89, { agg := true, cts := [.int .i64, .str, .str, .bool, .slice 4, .slice 6], offs := [(0, 3), (1, 28), (5, 88)], bytes := 96 }),
  (90, { agg := true, cts := [.int .i64, .str, .str, .bool, .slice 4, .slice 6], offs := [(0, 3), (1, 28), (5, 88)], bytes := 96 }),
  (98, { agg := false, cts := [.ptr], bytes := 8 }),
  (99, { agg := true, cts := [.slice 1], offs := [(0, 29)], bytes := 24 }),
  (100, { agg := true, cts := [.slice 1], offs := [(0, 29)], bytes := 24 }),
  (104, { agg := false, cts := [.ptr], bytes := 8 }),
  (105, { agg := true, cts := [.slice 1], offs := [(0, 29)], bytes := 24 }),
  (106, { agg := true, cts := [.slice 1], offs := [(0, 29)], bytes := 24 }),
  (110, { agg := true, cts := [.int .i64, .str, .int .i64, .slice 1], offs := [(0, 3), (1, 9), (2, 3), (3, 70)], bytes := 56 }),
  (111, { agg := true, cts := [.int .i64, .str, .int .i64, .slice 1], offs := [(0, 3), (1, 9), (2, 3), (3, 70)], bytes := 56 }),
  (115, { agg := true, cts := [.int .i64, .str, .int .i64, .slice 1], offs := [(0, 3), (1, 9), (2, 3), (3, 70)], bytes := 56 }),
  (120, { agg := false, cts := [.ptr], bytes := 8 }),
  (124, { agg := true, cts := [.slice 4, .slice 1, .slice 1, .oth, .oth], offs := [(0, 43), (1, 70), (2, 39), (3, 122), (4, 123)], bytes := 88 }),
  (125, { agg := true, cts := [.slice 4, .slice 1, .slice 1, .oth, .oth], offs := [(0, 43), (1, 70), (2, 39), (3, 122), (4, 123)], bytes := 88 }),
  (134, { agg := false, cts := [.ptr], bytes := 8 }),
  (143, { agg := true, cts := [.slice 1, .slice 1, .int .i64], offs := [(0, 70), (1, 29), (2, 3)], bytes := 56 }),
  (144, { agg := true, cts := [.slice 1, .slice 1, .int .i64], offs := [(0, 70), (1, 29), (2, 3)], bytes := 56 }),
  (146, { agg := true, cts := [.int .i64, .int .i64], offs := [(0, 3), (1, 3)], bytes := 16 }),
  (147, { agg := true, cts := [.int .i64, .int .i64], offs := [(0, 3), (1, 3)], bytes := 16 }),
  (153, { agg := false, cts := [.ptr], bytes := 8 }),
  (154, { agg := false, cts := [.slice 1], elem := some 159, bytes := 24 }),
  (155, { agg := true, cts := [.slice 3, .slice 1, .int .i64, .slice 5, .slice 1, .slice 1, .slice 1, .slice 1, .int .i64, .bool], offs := [(0, 63), (4, 76), (6, 70), (7, 154), (8, 3), (9, 4)], bytes := 192 }),
  (156, { agg := true, cts := [.slice 3, .slice 1, .int .i64, .slice 5, .slice 1, .slice 1, .slice 1, .slice 1, .int .i64, .bool], offs := [(0, 63), (4, 76), (6, 70), (7, 154), (8, 3), (9, 4)], bytes := 192 }),
  (159, { agg := false, cts := [.ptr], bytes := 8 }),
  (160, { agg := true, cts := [.int .i64, .slice 1], offs := [(0, 3), (1, 154)], bytes := 32 }),
  (161, { agg := true, cts := [.int .i64, .slice 1], offs := [(0, 3), (1, 154)], bytes := 32 }),
  (166, { agg := false, cts := [.slice 258], elem := some 280, bytes := 24 }),
  (169, { agg := false, cts := [.ptr], bytes := 8 }),
  (170, { agg := false, cts := [.slice 256], elem := some 301, bytes := 24 }),
  (176, { agg := false, cts := [.ptr], bytes := 8 }),
  (177, { agg := false, cts := [.oth], elem := some 3, key := some 262, bytes := 8 }),
  (178, { agg := false, cts := [.slice 6], elem := some 260, bytes := 24 }),
  (179, { agg := true, cts := [.slice 6, .slice 6, .oth, .oth], offs := [(0, 178), (1, 178), (2, 177), (3, 177)], bytes := 64 }),
  (180, { agg := true, cts := [.slice 6, .slice 6, .oth, .oth], offs := [(0, 178), (1, 178), (2, 177), (3, 177)], bytes := 64 }),
  (182, { agg := false, cts := [.ptr], bytes := 8 }),
  (192, { agg := false, cts := [.ptr], bytes := 8 }),
  (195, { agg := false, cts := [.ptr], bytes := 8 }),
  (198, { agg := false, cts := [.ptr], bytes := 8 }),
  (199, { agg := false, cts := [.slice 1], elem := some 5, bytes := 24 }),
  (200, { agg := true, cts := [.slice 4, .slice 1, .slice 1], offs := [(0, 43), (1, 39), (2, 199)], bytes := 72 }),
  (201, { agg := true, cts := [.slice 4, .slice 1, .slice 1], offs := [(0, 43), (1, 39), (2, 199)], bytes := 72 }),
  (202, { agg := false, cts := [.oth], elem := some 3, key := some 3, bytes := 8 }),
  (204, { agg := false, cts := [.ptr], bytes := 8 }),
  (205, { agg := true, cts := [.ptr, .slice 1], offs := [(0, 204), (1, 199)], bytes := 32 }),
  (206, { agg := true, cts := [.ptr, .slice 1], offs := [(0, 204), (1, 199)], bytes := 32 }),
  (208, { agg := false, cts := [.oth], bytes := 16 }),
  (214, { agg := true, cts := [.str, .int .i64, .int .i64], offs := [(0, 9), (1, 3), (2, 3)], bytes := 32 }),
  (215, { agg := true, cts := [.str, .int .i64, .int .i64], offs := [(0, 9), (1, 3), (2, 3)], bytes := 32 }),
  (217, { agg := true, cts := [.int .i64, .slice 1, .str, .int .i64, .int .i64], offs := [(0, 3), (1, 70), (2, 9), (3, 3), (4, 3)], bytes := 64 }),
  (218, { agg := true, cts := [.int .i64, .slice 1, .str, .int .i64, .int .i64], offs := [(0, 3), (1, 70), (2, 9), (3, 3), (4, 3)], bytes := 64 }),
  (220, { agg := true, cts := [.str, .int .i64, .int .i64], offs := [(0, 9), (1, 3), (2, 3)], bytes := 32 }),
  (222, { agg := true, cts := [.int .i64, .slice 1, .str, .int .i64, .int .i64], offs := [(0, 3), (1, 70), (2, 9), (3, 3), (4, 3)], bytes := 64 }),
  (223, { agg := false, cts := [.slice 1], elem := some 39, bytes := 24 }),
  (227, { agg := false, cts := [.oth], elem := some 3, key := some 9, bytes := 8 }),
  (228, { agg := true, cts := [.slice 3, .slice 1, .int .i64, .slice 5, .int .i64, .int .i64, .slice 1, .slice 1, .slice 1, .slice 1, .slice 1], offs := [(0, 63), (4, 3), (5, 3), (6, 39), (7, 39), (8, 70), (9, 223), (10, 29)], bytes := 216 }),
  (229, { agg := true, cts := [.slice 3, .slice 1, .int .i64, .slice 5, .int .i64, .int .i64, .slice 1, .slice 1, .slice 1, .slice 1, .slice 1], offs := [(0, 63), (4, 3), (5, 3), (6, 39), (7, 39), (8, 70), (9, 223), (10, 29)], bytes := 216 }),
  (238, { agg := false, cts := [.slice 2], elem := some 275, bytes := 24 }),
  (239, { agg := false, cts := [.slice 2], elem := some 147, bytes := 24 }),
  (245, { agg := false, cts := [.ptr], bytes := 8 }),
  (246, { agg := true, cts := [.str, .int .i64, .int .i64, .slice 258], offs := [(0, 9), (1, 3), (2, 3), (3, 166)], bytes := 56 }),
  (247, { agg := true, cts := [.str, .int .i64, .int .i64, .slice 258], offs := [(0, 9), (1, 3), (2, 3), (3, 166)], bytes := 56 }),
  (249, { agg := true, cts := [.int .i64], offs := [(0, 3)], bytes := 8 }),
  (250, { agg := true, cts := [.int .i64], offs := [(0, 3)], bytes := 8 }),
  (252, { agg := false, cts := [.ptr], bytes := 8 }),
  (253, { agg := true, cts := [.str, .int .i64, .slice 256], offs := [(0, 9), (1, 3), (2, 170)], bytes := 48 }),
  (254, { agg := true, cts := [.str, .int .i64, .slice 256], offs := [(0, 9), (1, 3), (2, 170)], bytes := 48 }),
  (259, { agg := true, cts := [.str, .str, .bool, .slice 4, .slice 1, .int .i64], offs := [(0, 28), (4, 70), (5, 3)], bytes := 96 }),
  (260, { agg := true, cts := [.str, .str, .bool, .slice 4, .slice 1, .int .i64], offs := [(0, 28), (4, 70), (5, 3)], bytes := 96 }),
  (266, { agg := false, cts := [.int .u64], bytes := 8 }),
  (269, { agg := false, cts := [.ptr], bytes := 8 }),
  (275, { agg := true, cts := [.int .i64, .int .i64], offs := [(0, 3), (1, 3)], bytes := 16 }),
  (281, { agg := false, cts := [.slice 1], elem := some 169, bytes := 24 }),
  (282, { agg := true, cts := [.int .i64, .int .i64, .int .u8, .slice 1], offs := [(0, 3), (1, 3), (2, 5), (3, 281)], bytes := 48 }),
  (283, { agg := true, cts := [.int .i64, .int .i64, .int .u8, .slice 1], offs := [(0, 3), (1, 3), (2, 5), (3, 281)], bytes := 48 }),
  (284, { agg := false, cts := [.slice 1], elem := some 88, bytes := 24 }),
  (289, { agg := false, cts := [.int .u32], bytes := 4 }),
  (292, { agg := false, cts := [.int .u64], bytes := 8 }),
  (299, { agg := false, cts := [.ptr], bytes := 8 }),
  (305, { agg := true, cts := [.ptr, .ptr, .ptr, .str], offs := [(0, 17), (1, 17), (2, 17), (3, 9)], bytes := 40 }),
  (306, { agg := true, cts := [.ptr, .ptr, .ptr, .str], offs := [(0, 17), (1, 17), (2, 17), (3, 9)], bytes := 40 }),
  (310, { agg := false, cts := [.int .u8], bytes := 1 }),
  (311, { agg := false, cts := [.int .u8], bytes := 1 }),
  (313, { agg := false, cts := [.int .i32], bytes := 4 }),
  (314, { agg := false, cts := [.int .i32], bytes := 4 }),
  (315, { agg := true, cts := [.int .u64, .int .u64, .int .u32, .int .u8, .int .u8, .int .u8, .int .u8, .oth, .ptr, .int .i32, .int .i32], offs := [(0, 12), (1, 12), (2, 289), (3, 310), (4, 5), (5, 5), (6, 311), (7, 312), (8, 269), (9, 313), (10, 314)], bytes := 48 }),
  (316, { agg := true, cts := [.int .u64, .int .u64, .int .u32, .int .u8, .int .u8, .int .u8, .int .u8, .oth, .ptr, .int .i32, .int .i32], offs := [(0, 12), (1, 12), (2, 289), (3, 310), (4, 5), (5, 5), (6, 311), (7, 312), (8, 269), (9, 313), (10, 314)], bytes := 48 })]

/-- loop.example/g00037/laws.FnExactMerge -/
noncomputable def fn3 : FnI := { nt := 179, res := [.tmp 6], body := (Try.f3.body.getD .skip), rts := [4] }
/-- loop.example/g00037/laws.szTree -/
noncomputable def fn11 : FnI := { nt := 26, res := [.tmp 4], body := (Try.f11.body.getD .skip), rts := [3] }
/-- loop.example/g00037/spec.Merge -/
noncomputable def fn12 : FnI := { nt := 45, res := [.cell 6 28, .tmp 7, .tmp 8], body := (Try.f12.body.getD .skip), rts := [28, 29, 3] }
/-- loop.example/g00037/laws.toTree -/
noncomputable def fn13 : FnI := { nt := 18, res := [.cell 2 28], body := (Try.f13.body.getD .skip), rts := [28], frz := false }
/-- loop.example/g00037/impl.Merge -/
noncomputable def fn14 : FnI := { nt := 42, res := [.cell 6 28, .tmp 7, .tmp 8], body := (Try.f14.body.getD .skip), rts := [28, 29, 3], frz := false }
/-- loop.example/g00037/laws.eqTree -/
noncomputable def fn15 : FnI := { nt := 26, res := [.tmp 4], body := (Try.f15.body.getD .skip), rts := [4] }
/-- loop.example/g00037/laws.eqIntSS -/
noncomputable def fn16 : FnI := { nt := 27, res := [.tmp 4], body := (Try.f16.body.getD .skip), rts := [4], loops := [{ live := [0, 1, 5], liveX := [] }] }
/-- loop.example/g00037/laws.markTree -/
noncomputable def fn17 : FnI := { nt := 10, res := [.tmp 4], body := (Try.f17.body.getD .skip), rts := [3], muts := [0] }
/-- loop.example/g00037/laws.markIntSS -/
noncomputable def fn18 : FnI := { nt := 19, res := [.tmp 4], body := (Try.f18.body.getD .skip), rts := [3], muts := [0], loops := [{ live := [0, 1, 5], liveX := [1] }] }
/-- loop.example/g00037/laws.heldTree -/
noncomputable def fn19 : FnI := { nt := 12, res := [.tmp 4], body := (Try.f19.body.getD .skip), rts := [3] }
/-- loop.example/g00037/laws.heldIntSS -/
noncomputable def fn20 : FnI := { nt := 21, res := [.tmp 4], body := (Try.f20.body.getD .skip), rts := [3], loops := [{ live := [0, 1, 5], liveX := [1] }] }
/-- loop.example/g00037/laws.eqIntS -/
noncomputable def fn40 : FnI := { nt := 26, res := [.tmp 4], body := (Try.f40.body.getD .skip), rts := [4], loops := [{ live := [0, 1, 5], liveX := [] }] }
/-- loop.example/g00037/laws.markIntS -/
noncomputable def fn44 : FnI := { nt := 19, res := [.tmp 4], body := (Try.f44.body.getD .skip), rts := [3], muts := [0], loops := [{ live := [0, 1, 5], liveX := [1] }] }
/-- loop.example/g00037/laws.heldIntS -/
noncomputable def fn45 : FnI := { nt := 21, res := [.tmp 4], body := (Try.f45.body.getD .skip), rts := [3], loops := [{ live := [0, 1, 5], liveX := [1] }] }
/-- loop.example/g00037/laws.szTreeS -/
noncomputable def fn55 : FnI := { nt := 27, res := [.tmp 4], body := (Try.f55.body.getD .skip), rts := [3], loops := [{ live := [0, 1, 5], liveX := [1] }] }
/-- loop.example/g00037/spec.TreeOK -/
noncomputable def fn56 : FnI := { nt := 10, res := [.tmp 2], body := (Try.f56.body.getD .skip), rts := [4] }
/-- (*loop.example/g00037/spec.l15Merger).trees -/
noncomputable def fn57 : FnI := { nt := 70, res := [.cell 10 28], body := (Try.f57.body.getD .skip), rts := [28] }
/-- loop.example/g00037/spec.l01Copy -/
noncomputable def fn58 : FnI := { nt := 25, res := [.cell 2 28], body := (Try.f58.body.getD .skip), rts := [28], loops := [{ live := [1, 2, 3, 4], liveX := [1, 2, 3] }] }
/-- loop.example/g00037/laws.toTreeS -/
noncomputable def fn59 : FnI := { nt := 23, res := [.tmp 2], body := (Try.f59.body.getD .skip), rts := [26], frz := false, loops := [{ live := [0, 3, 4], liveX := [3] }] }
/-- loop.example/g00037/impl.TreeOK -/
noncomputable def fn60 : FnI := { nt := 7, res := [.tmp 2], body := (Try.f60.body.getD .skip), rts := [4], frz := false }
/-- (*loop.example/g00037/impl.merger).merge -/
noncomputable def fn61 : FnI := { nt := 164, res := [.cell 10 28], body := (Try.f61.body.getD .skip), rts := [28], loops := [{ live := [0, 4, 6, 7, 8, 10, 11, 12, 13, 14, 15, 16, 17], liveX := [10, 11] }] }
/-- loop.example/g00037/impl.copyTree -/
noncomputable def fn62 : FnI := { nt := 29, res := [.cell 2 28], body := (Try.f62.body.getD .skip), rts := [28], frz := false, loops := [{ live := [2, 3, 14, 15, 16], liveX := [2, 3] }] }
/-- loop.example/g00037/laws.eqTreeS -/
noncomputable def fn63 : FnI := { nt := 27, res := [.tmp 4], body := (Try.f63.body.getD .skip), rts := [4], loops := [{ live := [0, 1, 5], liveX := [] }] }
/-- loop.example/g00037/laws.markTreeS -/
noncomputable def fn64 : FnI := { nt := 45, res := [.tmp 4], body := (Try.f64.body.getD .skip), rts := [3], muts := [0], loops := [{ live := [0, 1, 5], liveX := [1] }] }
/-- loop.example/g00037/laws.heldTreeS -/
noncomputable def fn65 : FnI := { nt := 53, res := [.tmp 4], body := (Try.f65.body.getD .skip), rts := [3], loops := [{ live := [0, 1, 5], liveX := [1] }] }
/-- loop.example/g00037/spec.l01Room -/
noncomputable def fn123 : FnI := { nt := 33, res := [.tmp 6], body := (Try.f123.body.getD .skip), rts := [3], loops := [{ live := [1, 2, 3, 7], liveX := [1] }] }
/-- loop.example/g00037/spec.l01Right -/
noncomputable def fn124 : FnI := { nt := 48, res := [.tmp 2], body := (Try.f124.body.getD .skip), rts := [4], loops := [{ live := [1, 3], liveX := [] }] }
/-- loop.example/g00037/spec.l01Same -/
noncomputable def fn125 : FnI := { nt := 53, res := [.tmp 4], body := (Try.f125.body.getD .skip), rts := [4], loops := [{ live := [2, 3, 5], liveX := [] }] }
/-- loop.example/g00037/spec.l01Node -/
noncomputable def fn126 : FnI := { nt := 8, res := [.cell 4 28], body := (Try.f126.body.getD .skip), rts := [28] }
/-- (*loop.example/g00037/spec.l15Merger).lists -/
noncomputable def fn127 : FnI := { nt := 103, res := [.tmp 10], body := (Try.f127.body.getD .skip), rts := [26], loops := [{ live := [0, 1, 2, 3, 4, 11, 12, 13, 14, 15, 16, 17], liveX := [13] }] }
/-- (*loop.example/g00037/spec.l15Merger).clash -/
noncomputable def fn128 : FnI := { nt := 16, res := [], body := (Try.f128.body.getD .skip), rts := [] }
/-- loop.example/g00037/impl.measure -/
noncomputable def fn129 : FnI := { nt := 67, res := [.tmp 8], body := (Try.f129.body.getD .skip), rts := [4], frz := false, loops := [{ live := [1, 2, 3, 53, 54, 55], liveX := [] }] }
/-- loop.example/g00037/impl.same -/
noncomputable def fn130 : FnI := { nt := 53, res := [.tmp 4], body := (Try.f130.body.getD .skip), rts := [4], frz := false, loops := [{ live := [2, 3, 36, 37], liveX := [] }] }
/-- (*loop.example/g00037/impl.merger).clash -/
noncomputable def fn131 : FnI := { nt := 16, res := [], body := (Try.f131.body.getD .skip), rts := [], frz := false }
/-- loop.example/g00037/impl.matched -/
noncomputable def fn132 : FnI := { nt := 172, res := [.tmp 4], body := (Try.f132.body.getD .skip), rts := [70], frz := false, loops := [{ live := [0, 1, 5, 6, 7], liveX := [0, 1, 5, 6] }, { live := [0, 1, 5, 6, 7, 8], liveX := [0, 1, 5, 6, 7] }, { live := [1, 5, 6, 9, 10, 123, 124], liveX := [9] }, { live := [1, 5, 6, 9, 10, 11, 12, 123, 124], liveX := [1, 5, 6, 9, 10, 123, 124] }] }
/-- (*loop.example/g00037/impl.merger).stretch -/
noncomputable def fn133 : FnI := { nt := 128, res := [], body := (Try.f133.body.getD .skip), rts := [], frz := false, loops := [{ live := [0, 1, 12, 28, 29, 30], liveX := [] }] }
/-- loop.example/g00037/laws.markText -/
noncomputable def fn134 : FnI := { nt := 20, res := [.tmp 2], body := (Try.f134.body.getD .skip), rts := [9], loops := [{ live := [0, 3], liveX := [3] }] }
/-- loop.example/g00037/spec.l01Name -/
noncomputable def fn148 : FnI := { nt := 29, res := [.tmp 2], body := (Try.f148.body.getD .skip), rts := [4], loops := [{ live := [0, 3], liveX := [] }] }
/-- loop.example/g00037/impl.nameOK -/
noncomputable def fn153 : FnI := { nt := 29, res := [.tmp 2], body := (Try.f153.body.getD .skip), rts := [4], frz := false, loops := [{ live := [0, 3], liveX := [] }] }
/-- loop.example/g00037/spec.l15Match -/
noncomputable def fn181 : FnI := { nt := 167, res := [.tmp 4], body := (Try.f181.body.getD .skip), rts := [70], loops := [{ live := [0, 1, 5, 6], liveX := [0, 1, 5] }, { live := [0, 1, 5, 6, 7], liveX := [0, 1, 5, 6] }, { live := [0, 1, 5, 9, 10, 11], liveX := [9] }, { live := [0, 1, 5, 9, 10, 11, 12, 13], liveX := [0, 1, 5, 9, 10, 11, 12] }] }
/-- (*loop.example/g00037/spec.l15Merger).stretch -/
noncomputable def fn182 : FnI := { nt := 80, res := [.tmp 12], body := (Try.f182.body.getD .skip), rts := [26], loops := [{ live := [0, 2, 4, 5, 13], liveX := [0, 2, 4, 5] }] }
/-- (*loop.example/g00037/impl.merger).stretch$1 -/
noncomputable def fn183 : FnI := { nt := 13, res := [.tmp 3], body := (Try.f183.body.getD .skip), rts := [70] }
/-- loop.example/g00037/impl.sameList -/
noncomputable def fn184 : FnI := { nt := 27, res := [.tmp 4], body := (Try.f184.body.getD .skip), rts := [4], frz := false, loops := [{ live := [0, 1, 12, 13], liveX := [] }] }
/-- loop.example/g00037/spec.l01Letter -/
noncomputable def fn193 : FnI := { nt := 17, res := [.tmp 2], body := (Try.f193.body.getD .skip), rts := [4] }
/-- loop.example/g00037/spec.l01NameByte -/
noncomputable def fn194 : FnI := { nt := 13, res := [.tmp 2], body := (Try.f194.body.getD .skip), rts := [4] }
/-- loop.example/g00037/impl.isLetter -/
noncomputable def fn198 : FnI := { nt := 17, res := [.tmp 2], body := (Try.f198.body.getD .skip), rts := [4], frz := false }
/-- loop.example/g00037/impl.inName -/
noncomputable def fn199 : FnI := { nt := 13, res := [.tmp 2], body := (Try.f199.body.getD .skip), rts := [4], frz := false }
/-- loop.example/g00037/spec.l15SameList -/
noncomputable def fn208 : FnI := { nt := 27, res := [.tmp 4], body := (Try.f208.body.getD .skip), rts := [4], loops := [{ live := [0, 1, 5], liveX := [] }] }
/-- loop.example/g00037/spec.l12Down -/
noncomputable def fn209 : FnI := { nt := 11, res := [.tmp 4], body := (Try.f209.body.getD .skip), rts := [70] }
/-- loop.example/g00037/spec.l01Digit -/
noncomputable def fn216 : FnI := { nt := 9, res := [.tmp 2], body := (Try.f216.body.getD .skip), rts := [4] }
/-- loop.example/g00037/impl.isDigit -/
noncomputable def fn217 : FnI := { nt := 9, res := [.tmp 2], body := (Try.f217.body.getD .skip), rts := [4], frz := false }

noncomputable def ctx : Ctx := { tab := tab, fns := [(3, fn3), (11, fn11), (12, fn12), (13, fn13), (14, fn14), (15, fn15), (16, fn16), (17, fn17), (18, fn18), (19, fn19), (20, fn20), (40, fn40), (44, fn44), (45, fn45), (55, fn55), (56, fn56), (57, fn57), (58, fn58), (59, fn59), (60, fn60), (61, fn61), (62, fn62), (63, fn63), (64, fn64), (65, fn65), (123, fn123), (124, fn124), (125, fn125), (126, fn126), (127, fn127), (128, fn128), (129, fn129), (130, fn130), (131, fn131), (132, fn132), (133, fn133), (134, fn134), (148, fn148), (153, fn153), (181, fn181), (182, fn182), (183, fn183), (184, fn184), (193, fn193), (194, fn194), (198, fn198), (199, fn199), (208, fn208), (209, fn209), (216, fn216), (217, fn217)], idxB := some 234 }

end Go.Proofs.Ytnbpmjfemeeecaa
