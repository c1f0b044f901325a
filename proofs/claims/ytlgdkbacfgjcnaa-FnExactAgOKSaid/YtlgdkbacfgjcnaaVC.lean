import Derived.Test.YtlgdkbacfgjcnaaVmd
import Derived.Test.YtlgdkbacfgjcnaaProg
namespace Go.Proofs.Ytlgdkbacfgjcnaa
open Go.VK

def tab : List (Nat × TI) := [
  (2, { agg := false, cts := [.int .i64], bytes := 8 }),
  (3, { agg := false, cts := [.int .i64], bytes := 8 }),
  (4, { agg := false, cts := [.bool], bytes := 1 }),
  (5, { agg := false, cts := [.int .u8], bytes := 1 }),
  (6, { agg := false, cts := [.int .u8], bytes := 1 }),
  (7, { agg := true, cts := [.int .i64, .int .i64, .bool, .int .u8], offs := [(0, 2), (1, 3), (2, 4), (3, 6)], bytes := 24 }),
  (8, { agg := true, cts := [.int .i64, .int .i64, .bool, .int .u8], offs := [(0, 2), (1, 3), (2, 4), (3, 6)], bytes := 24 }),
  (9, { agg := false, cts := [.str], bytes := 16 }),
  (10, { agg := false, cts := [.str], bytes := 16 }),
  (11, { agg := false, cts := [.str], bytes := 16 }),
  (12, { agg := false, cts := [.int .u64], bytes := 8 }),
  (13, { agg := true, cts := [.str, .int .u64], offs := [(0, 9), (1, 12)], bytes := 24 }),
  (14, { agg := true, cts := [.str, .int .u64], offs := [(0, 9), (1, 12)], bytes := 24 }),
  (15, { agg := false, cts := [.ptr], bytes := 8 }),
  (16, { agg := false, cts := [.ptr], bytes := 8 }),
  (17, { agg := false, cts := [.ptr], bytes := 8 }),
  (18, { agg := true, cts := [.ptr], offs := [(0, 17)], bytes := 8 }),
  (19, { agg := true, cts := [.ptr], offs := [(0, 17)], bytes := 8 }),
  (21, { agg := false, cts := [.int .i32], bytes := 4 }),
  (22, { agg := false, cts := [.slice 4], elem := some 24, bytes := 24 }),
  (23, { agg := true, cts := [.str, .str, .bool, .slice 4], offs := [(0, 9), (1, 9), (2, 4), (3, 22)], bytes := 64 }),
  (24, { agg := true, cts := [.str, .str, .bool, .slice 4], offs := [(0, 9), (1, 9), (2, 4), (3, 22)], bytes := 64 }),
  (26, { agg := false, cts := [.slice 4], elem := some 28, bytes := 24 }),
  (27, { agg := true, cts := [.str, .str, .bool, .slice 4], offs := [(0, 9), (1, 9), (2, 4), (3, 26)], bytes := 64 }),
  (28, { agg := true, cts := [.str, .str, .bool, .slice 4], offs := [(0, 9), (1, 9), (2, 4), (3, 26)], bytes := 64 }),
  (29, { agg := false, cts := [.slice 1], elem := some 87, bytes := 24 }),
  (38, { agg := false, cts := [.slice 6], elem := some 40, bytes := 24 }),
  (39, { agg := true, cts := [.int .i64, .str, .str, .bool, .slice 4, .slice 6], offs := [(0, 3), (1, 28), (5, 38)], bytes := 96 }),
  (40, { agg := true, cts := [.int .i64, .str, .str, .bool, .slice 4, .slice 6], offs := [(0, 3), (1, 28), (5, 38)], bytes := 96 }),
  (46, { agg := false, cts := [.slice 3], elem := some 195, bytes := 24 }),
  (47, { agg := false, cts := [.slice 1], elem := some 9, bytes := 24 }),
  (48, { agg := false, cts := [.slice 5], elem := some 197, bytes := 24 }),
  (49, { agg := true, cts := [.slice 3, .slice 1, .int .i64, .slice 5], offs := [(0, 46), (1, 47), (2, 3), (3, 48)], bytes := 80 }),
  (50, { agg := true, cts := [.slice 3, .slice 1, .int .i64, .slice 5], offs := [(0, 46), (1, 47), (2, 3), (3, 48)], bytes := 80 }),
  (51, { agg := false, cts := [.slice 3], elem := some 199, bytes := 24 }),
  (52, { agg := false, cts := [.slice 5], elem := some 203, bytes := 24 }),
  (53, { agg := true, cts := [.slice 3, .slice 5], offs := [(0, 51), (1, 52)], bytes := 48 }),
  (54, { agg := true, cts := [.slice 3, .slice 5], offs := [(0, 51), (1, 52)], bytes := 48 }),
  (58, { agg := false, cts := [.slice 3], elem := some 204, bytes := 24 }),
  (59, { agg := false, cts := [.slice 5], elem := some 129, bytes := 24 }),
  (60, { agg := true, cts := [.slice 3, .slice 1, .int .i64, .slice 5], offs := [(0, 58), (1, 47), (2, 3), (3, 59)], bytes := 80 }),
  (61, { agg := true, cts := [.slice 3, .slice 1, .int .i64, .slice 5], offs := [(0, 58), (1, 47), (2, 3), (3, 59)], bytes := 80 }),
  (63, { agg := false, cts := [.slice 3], elem := some 118, bytes := 24 }),
  (64, { agg := false, cts := [.slice 5], elem := some 122, bytes := 24 }),
  (65, { agg := true, cts := [.slice 3, .slice 5], offs := [(0, 63), (1, 64)], bytes := 48 }),
  (66, { agg := true, cts := [.slice 3, .slice 5], offs := [(0, 63), (1, 64)], bytes := 48 }),
  (74, { agg := false, cts := [.slice 9], elem := some 158, bytes := 24 }),
  (77, { agg := false, cts := [.slice 9], elem := some 161, bytes := 24 }),
  (83, { agg := false, cts := [.ptr], bytes := 8 }),
  (84, { agg := true, cts := [.slice 1], offs := [(0, 29)], bytes := 24 }),
  (85, { agg := true, cts := [.slice 1], offs := [(0, 29)], bytes := 24 }),
  (87, { agg := false, cts := [.slice 1], elem := some 3, bytes := 24 }),
  (90, { agg := false, cts := [.ptr], bytes := 8 }),
  (91, { agg := true, cts := [.slice 1], offs := [(0, 29)], bytes := 24 }),
  (92, { agg := true, cts := [.slice 1], offs := [(0, 29)], bytes := 24 }),
  (100, { agg := false, cts := [.ptr], bytes := 8 }),
  (101, { agg := false, cts := [.oth], elem := some 3, key := some 191, bytes := 8 }),
  (102, { agg := false, cts := [.slice 6], elem := some 188, bytes := 24 }),
  (103, { agg := true, cts := [.slice 6, .slice 6, .oth, .oth], offs := [(0, 102), (1, 102), (2, 101), (3, 101)], bytes := 64 }),
  (104, { agg := true, cts := [.slice 6, .slice 6, .oth, .oth], offs := [(0, 102), (1, 102), (2, 101), (3, 101)], bytes := 64 }),
  (106, { agg := false, cts := [.ptr], bytes := 8 }),
  (117, { agg := true, cts := [.int .i64, .str, .bool], offs := [(0, 3), (1, 9), (2, 4)], bytes := 32 }),
  (118, { agg := true, cts := [.int .i64, .str, .bool], offs := [(0, 3), (1, 9), (2, 4)], bytes := 32 }),
  (120, { agg := false, cts := [.slice 3], elem := some 127, bytes := 24 }),
  (121, { agg := true, cts := [.int .i64, .int .i64, .int .i64, .int .i64, .slice 3], offs := [(0, 3), (1, 3), (2, 3), (3, 3), (4, 120)], bytes := 56 }),
  (122, { agg := true, cts := [.int .i64, .int .i64, .int .i64, .int .i64, .slice 3], offs := [(0, 3), (1, 3), (2, 3), (3, 3), (4, 120)], bytes := 56 }),
  (126, { agg := true, cts := [.int .i64, .int .i64, .int .i64], offs := [(0, 3), (1, 3), (2, 3)], bytes := 24 }),
  (127, { agg := true, cts := [.int .i64, .int .i64, .int .i64], offs := [(0, 3), (1, 3), (2, 3)], bytes := 24 }),
  (128, { agg := true, cts := [.int .i64, .slice 1, .str, .int .i64, .int .i64], offs := [(0, 3), (1, 87), (2, 9), (3, 3), (4, 3)], bytes := 64 }),
  (129, { agg := true, cts := [.int .i64, .slice 1, .str, .int .i64, .int .i64], offs := [(0, 3), (1, 87), (2, 9), (3, 3), (4, 3)], bytes := 64 }),
  (136, { agg := false, cts := [.oth], elem := some 3, key := some 138, bytes := 8 }),
  (137, { agg := true, cts := [.int .i64, .str], offs := [(0, 3), (1, 9)], bytes := 24 }),
  (138, { agg := true, cts := [.int .i64, .str], offs := [(0, 3), (1, 9)], bytes := 24 }),
  (139, { agg := false, cts := [.oth], elem := some 3, key := some 143, bytes := 8 }),
  (142, { agg := true, cts := [.int .i64, .int .i64, .int .i64], offs := [(0, 3), (1, 3), (2, 3)], bytes := 24 }),
  (143, { agg := true, cts := [.int .i64, .int .i64, .int .i64], offs := [(0, 3), (1, 3), (2, 3)], bytes := 24 }),
  (149, { agg := false, cts := [.slice 258], elem := some 255, bytes := 24 }),
  (152, { agg := false, cts := [.ptr], bytes := 8 }),
  (153, { agg := false, cts := [.slice 256], elem := some 272, bytes := 24 }),
  (157, { agg := true, cts := [.str, .str, .str, .bool, .slice 4, .str, .str, .bool, .slice 4], offs := [(0, 9), (1, 24), (5, 24)], bytes := 144 }),
  (158, { agg := true, cts := [.str, .str, .str, .bool, .slice 4, .str, .str, .bool, .slice 4], offs := [(0, 9), (1, 24), (5, 24)], bytes := 144 }),
  (160, { agg := true, cts := [.str, .str, .str, .bool, .slice 4, .str, .str, .bool, .slice 4], offs := [(0, 9), (1, 28), (5, 28)], bytes := 144 }),
  (161, { agg := true, cts := [.str, .str, .str, .bool, .slice 4, .str, .str, .bool, .slice 4], offs := [(0, 9), (1, 28), (5, 28)], bytes := 144 }),
  (163, { agg := false, cts := [.slice 3], elem := some 165, bytes := 24 }),
  (164, { agg := true, cts := [.str, .str, .slice 3], offs := [(0, 9), (1, 9), (2, 163)], bytes := 56 }),
  (165, { agg := true, cts := [.str, .str, .slice 3], offs := [(0, 9), (1, 9), (2, 163)], bytes := 56 }),
  (170, { agg := false, cts := [.ptr], bytes := 8 }),
  (179, { agg := false, cts := [.ptr], bytes := 8 }),
  (182, { agg := false, cts := [.ptr], bytes := 8 }),
  (187, { agg := true, cts := [.str, .str, .bool, .slice 4, .slice 1, .int .i64], offs := [(0, 28), (4, 87), (5, 3)], bytes := 96 }),
  (188, { agg := true, cts := [.str, .str, .bool, .slice 4, .slice 1, .int .i64], offs := [(0, 28), (4, 87), (5, 3)], bytes := 96 }),
  (194, { agg := true, cts := [.str, .int .i64, .int .i64], offs := [(0, 9), (1, 3), (2, 3)], bytes := 32 }),
  (195, { agg := true, cts := [.str, .int .i64, .int .i64], offs := [(0, 9), (1, 3), (2, 3)], bytes := 32 }),
  (197, { agg := true, cts := [.int .i64, .slice 1, .str, .int .i64, .int .i64], offs := [(0, 3), (1, 87), (2, 9), (3, 3), (4, 3)], bytes := 64 }),
  (199, { agg := true, cts := [.int .i64, .str, .bool], offs := [(0, 3), (1, 9), (2, 4)], bytes := 32 }),
  (201, { agg := false, cts := [.slice 3], elem := some 265, bytes := 24 }),
  (202, { agg := true, cts := [.int .i64, .int .i64, .int .i64, .int .i64, .slice 3], offs := [(0, 3), (1, 3), (2, 3), (3, 3), (4, 201)], bytes := 56 }),
  (203, { agg := true, cts := [.int .i64, .int .i64, .int .i64, .int .i64, .slice 3], offs := [(0, 3), (1, 3), (2, 3), (3, 3), (4, 201)], bytes := 56 }),
  (204, { agg := true, cts := [.str, .int .i64, .int .i64], offs := [(0, 9), (1, 3), (2, 3)], bytes := 32 }),
  (212, { agg := false, cts := [.oth], elem := some 3, key := some 9, bytes := 8 }),
  (217, { agg := false, cts := [.ptr], bytes := 8 }),
  (218, { agg := true, cts := [.str, .int .i64, .int .i64, .slice 258], offs := [(0, 9), (1, 3), (2, 3), (3, 149)], bytes := 56 }),
  (219, { agg := true, cts := [.str, .int .i64, .int .i64, .slice 258], offs := [(0, 9), (1, 3), (2, 3), (3, 149)], bytes := 56 }),
  (223, { agg := true, cts := [.int .i64], offs := [(0, 3)], bytes := 8 }),
  (224, { agg := true, cts := [.int .i64], offs := [(0, 3)], bytes := 8 }),
  (226, { agg := false, cts := [.ptr], bytes := 8 }),
  (227, { agg := true, cts := [.str, .int .i64, .slice 256], offs := [(0, 9), (1, 3), (2, 153)], bytes := 48 }),
  (228, { agg := true, cts := [.str, .int .i64, .slice 256], offs := [(0, 9), (1, 3), (2, 153)], bytes := 48 }),
  (232, { agg := false, cts := [.ptr], bytes := 8 }),
  (233, { agg := true, cts := [.slice 9, .str, .int .i64, .int .i64], offs := [(0, 77), (1, 9), (2, 3), (3, 3)], bytes := 56 }),
  (234, { agg := true, cts := [.slice 9, .str, .int .i64, .int .i64], offs := [(0, 77), (1, 9), (2, 3), (3, 3)], bytes := 56 }),
  (238, { agg := false, cts := [.ptr], bytes := 8 }),
  (239, { agg := true, cts := [.str, .int .i64, .oth, .str, .int .i64], offs := [(0, 9), (1, 3), (2, 212), (3, 9), (4, 3)], bytes := 56 }),
  (240, { agg := true, cts := [.str, .int .i64, .oth, .str, .int .i64], offs := [(0, 9), (1, 3), (2, 212), (3, 9), (4, 3)], bytes := 56 }),
  (243, { agg := false, cts := [.slice 1], elem := some 244, bytes := 24 }),
  (244, { agg := false, cts := [.slice 1], elem := some 4, bytes := 24 }),
  (246, { agg := false, cts := [.slice 1], elem := some 5, bytes := 24 }),
  (247, { agg := false, cts := [.slice 1], elem := some 38, bytes := 24 }),
  (256, { agg := false, cts := [.slice 1], elem := some 152, bytes := 24 }),
  (257, { agg := true, cts := [.int .i64, .int .i64, .int .u8, .slice 1], offs := [(0, 3), (1, 3), (2, 5), (3, 256)], bytes := 48 }),
  (258, { agg := true, cts := [.int .i64, .int .i64, .int .u8, .slice 1], offs := [(0, 3), (1, 3), (2, 5), (3, 256)], bytes := 48 }),
  (261, { agg := true, cts := [.str, .int .i64, .ptr, .ptr], offs := [(0, 9), (1, 3), (2, 170), (3, 170)], bytes := 40 }),
  (262, { agg := true, cts := [.str, .int .i64, .ptr, .ptr], offs := [(0, 9), (1, 3), (2, 170), (3, 170)], bytes := 40 }),
  (265, { agg := true, cts := [.int .i64, .int .i64, .int .i64], offs := [(0, 3), (1, 3), (2, 3)], bytes := 24 }),
  (270, { agg := false, cts := [.ptr], bytes := 8 }),
  (277, { agg := true, cts := [.ptr, .ptr, .ptr, .str], offs := [(0, 17), (1, 17), (2, 17), (3, 9)], bytes := 40 }),
  (278, { agg := true, cts := [.ptr, .ptr, .ptr, .str], offs := [(0, 17), (1, 17), (2, 17), (3, 9)], bytes := 40 }),
  (282, { agg := false, cts := [.int .u32], bytes := 4 }),
  (283, { agg := false, cts := [.int .u8], bytes := 1 }),
  (284, { agg := false, cts := [.int .u8], bytes := 1 }),
  (286, { agg := false, cts := [.ptr], bytes := 8 }),
  (287, { agg := false, cts := [.int .i32], bytes := 4 }),
  (288, { agg := false, cts := [.int .i32], bytes := 4 }),
  (289, { agg := true, cts := [.int .u64, .int .u64, .int .u32, .int .u8, .int .u8, .int .u8, .int .u8, .oth, .ptr, .int .i32, .int .i32], offs := [(0, 12), (1, 12), (2, 282), (3, 283), (4, 5), (5, 5), (6, 284), (7, 285), (8, 286), (9, 287), (10, 288)], bytes := 48 }),
  (290, { agg := true, cts := [.int .u64, .int .u64, .int .u32, .int .u8, .int .u8, .int .u8, .int .u8, .oth, .ptr, .int .i32, .int .i32], offs := [(0, 12), (1, 12), (2, 282), (3, 283), (4, 5), (5, 5), (6, 284), (7, 285), (8, 286), (9, 287), (10, 288)], bytes := 48 })]

/-- loop.example/g00037/laws.FnExactAgOK -/
noncomputable def fn5 : FnI := { nt := 45, res := [.tmp 4], body := (Try.f5.body.getD .skip), rts := [4] }
/-- loop.example/g00037/laws.szBnf -/
noncomputable def fn23 : FnI := { nt := 24, res := [.tmp 4], body := (Try.f23.body.getD .skip), rts := [3] }
/-- loop.example/g00037/laws.szAg -/
noncomputable def fn24 : FnI := { nt := 18, res := [.tmp 4], body := (Try.f24.body.getD .skip), rts := [3] }
/-- loop.example/g00037/spec.AgOK -/
noncomputable def fn25 : FnI := { nt := 198, res := [.tmp 4], body := (Try.f25.body.getD .skip), rts := [4], loops := [{ live := [2, 3, 5], liveX := [2, 3] }, { live := [2, 3, 5, 6, 7], liveX := [2, 3, 5] }, { live := [2, 3, 8], liveX := [2, 3] }, { live := [2, 3, 8, 9, 10], liveX := [2, 3, 8] }, { live := [2, 3, 11], liveX := [] }, { live := [2, 3, 11, 12], liveX := [2, 3, 11] }, { live := [2, 3, 11, 12, 13], liveX := [2, 3, 11, 12] }] }
/-- loop.example/g00037/laws.toBnf -/
noncomputable def fn26 : FnI := { nt := 20, res := [.cell 2 61], body := (Try.f26.body.getD .skip), rts := [61], frz := false }
/-- loop.example/g00037/laws.toAg -/
noncomputable def fn27 : FnI := { nt := 13, res := [.cell 2 66], body := (Try.f27.body.getD .skip), rts := [66], frz := false }
/-- loop.example/g00037/impl.AgOK -/
noncomputable def fn28 : FnI := { nt := 242, res := [.tmp 4], body := (Try.f28.body.getD .skip), rts := [4], frz := false, loops := [{ live := [2, 3, 5, 43, 44, 45], liveX := [2, 3] }, { live := [2, 3, 8, 85, 86, 87], liveX := [2, 3] }, { live := [2, 3, 8, 10, 85, 86, 87, 172, 173, 174], liveX := [2, 3, 8, 85, 86, 87] }, { live := [2, 3, 18, 189, 190], liveX := [3, 18] }, { live := [2, 3, 18, 19, 20, 189, 190], liveX := [2, 3, 18, 189, 190] }, { live := [2, 3, 18, 19, 20, 21, 22, 189, 190, 213, 214, 215], liveX := [2, 3, 18, 19, 20, 189, 190] }] }
/-- loop.example/g00037/laws.eqBnf -/
noncomputable def fn29 : FnI := { nt := 28, res := [.tmp 4], body := (Try.f29.body.getD .skip), rts := [4] }
/-- loop.example/g00037/laws.eqAg -/
noncomputable def fn30 : FnI := { nt := 17, res := [.tmp 4], body := (Try.f30.body.getD .skip), rts := [4] }
/-- loop.example/g00037/laws.eqIntS -/
noncomputable def fn47 : FnI := { nt := 26, res := [.tmp 4], body := (Try.f47.body.getD .skip), rts := [4], loops := [{ live := [0, 1, 5], liveX := [] }] }
/-- loop.example/g00037/laws.szTermS -/
noncomputable def fn60 : FnI := { nt := 27, res := [.tmp 4], body := (Try.f60.body.getD .skip), rts := [3], loops := [{ live := [0, 1, 5], liveX := [1] }] }
/-- loop.example/g00037/laws.szStringS -/
noncomputable def fn61 : FnI := { nt := 28, res := [.tmp 4], body := (Try.f61.body.getD .skip), rts := [3], loops := [{ live := [0, 1, 5], liveX := [1] }] }
/-- loop.example/g00037/laws.szProdS -/
noncomputable def fn62 : FnI := { nt := 27, res := [.tmp 4], body := (Try.f62.body.getD .skip), rts := [3], loops := [{ live := [0, 1, 5], liveX := [1] }] }
/-- loop.example/g00037/laws.szAttrS -/
noncomputable def fn63 : FnI := { nt := 27, res := [.tmp 4], body := (Try.f63.body.getD .skip), rts := [3], loops := [{ live := [0, 1, 5], liveX := [1] }] }
/-- loop.example/g00037/laws.szEqS -/
noncomputable def fn64 : FnI := { nt := 27, res := [.tmp 4], body := (Try.f64.body.getD .skip), rts := [3], loops := [{ live := [0, 1, 5], liveX := [1] }] }
/-- loop.example/g00037/spec.BnfOK -/
noncomputable def fn65 : FnI := { nt := 161, res := [.tmp 2], body := (Try.f65.body.getD .skip), rts := [4], loops := [{ live := [1, 3], liveX := [1] }, { live := [1, 3, 4], liveX := [1, 3] }, { live := [1, 5], liveX := [1] }, { live := [1, 6, 7], liveX := [] }, { live := [1, 6, 7, 8, 9], liveX := [1, 6, 7] }] }
/-- loop.example/g00037/spec.l01Between -/
noncomputable def fn66 : FnI := { nt := 15, res := [.tmp 6], body := (Try.f66.body.getD .skip), rts := [4] }
/-- loop.example/g00037/spec.l01Name -/
noncomputable def fn67 : FnI := { nt := 29, res := [.tmp 2], body := (Try.f67.body.getD .skip), rts := [4], loops := [{ live := [0, 3], liveX := [] }] }
/-- loop.example/g00037/spec.l10Has -/
noncomputable def fn68 : FnI := { nt := 34, res := [.tmp 10], body := (Try.f68.body.getD .skip), rts := [4] }
/-- loop.example/g00037/spec.l10Args -/
noncomputable def fn69 : FnI := { nt := 13, res := [.tmp 2], body := (Try.f69.body.getD .skip), rts := [3] }
/-- loop.example/g00037/spec.l10ArgOK -/
noncomputable def fn70 : FnI := { nt := 62, res := [.tmp 8], body := (Try.f70.body.getD .skip), rts := [4] }
/-- loop.example/g00037/spec.l10Eq -/
noncomputable def fn71 : FnI := { nt := 47, res := [.tmp 8, .tmp 9], body := (Try.f71.body.getD .skip), rts := [3, 3], loops := [{ live := [1, 2, 3, 4, 10, 11, 12], liveX := [10, 11] }] }
/-- loop.example/g00037/laws.toTermS -/
noncomputable def fn72 : FnI := { nt := 23, res := [.tmp 2], body := (Try.f72.body.getD .skip), rts := [58], frz := false, loops := [{ live := [0, 3, 4], liveX := [3] }] }
/-- loop.example/g00037/laws.toStringS -/
noncomputable def fn73 : FnI := { nt := 22, res := [.tmp 2], body := (Try.f73.body.getD .skip), rts := [47], frz := false, loops := [{ live := [0, 3, 4], liveX := [3] }] }
/-- loop.example/g00037/laws.toProdS -/
noncomputable def fn74 : FnI := { nt := 23, res := [.tmp 2], body := (Try.f74.body.getD .skip), rts := [59], frz := false, loops := [{ live := [0, 3, 4], liveX := [3] }] }
/-- loop.example/g00037/laws.toAttrS -/
noncomputable def fn75 : FnI := { nt := 23, res := [.tmp 2], body := (Try.f75.body.getD .skip), rts := [63], frz := false, loops := [{ live := [0, 3, 4], liveX := [3] }] }
/-- loop.example/g00037/laws.toEqS -/
noncomputable def fn76 : FnI := { nt := 23, res := [.tmp 2], body := (Try.f76.body.getD .skip), rts := [64], frz := false, loops := [{ live := [0, 3, 4], liveX := [3] }] }
/-- loop.example/g00037/impl.BnfOK -/
noncomputable def fn77 : FnI := { nt := 156, res := [.tmp 2], body := (Try.f77.body.getD .skip), rts := [4], frz := false, loops := [{ live := [1, 3, 51, 52, 53], liveX := [1] }, { live := [1, 6, 76, 77, 78], liveX := [1] }, { live := [1, 9, 97, 98, 99], liveX := [] }, { live := [1, 9, 97, 98, 99, 141, 142, 143], liveX := [1, 9, 97, 98, 99] }] }
/-- loop.example/g00037/impl.nameOK -/
noncomputable def fn78 : FnI := { nt := 29, res := [.tmp 2], body := (Try.f78.body.getD .skip), rts := [4], frz := false, loops := [{ live := [0, 3], liveX := [] }] }
/-- loop.example/g00037/impl.argsOf -/
noncomputable def fn79 : FnI := { nt := 13, res := [.tmp 2], body := (Try.f79.body.getD .skip), rts := [3], frz := false }
/-- loop.example/g00037/impl.nonAt -/
noncomputable def fn80 : FnI := { nt := 49, res := [.tmp 6, .tmp 7, .tmp 8], body := (Try.f80.body.getD .skip), rts := [3, 4, 4], frz := false }
/-- loop.example/g00037/impl.refOK -/
noncomputable def fn81 : FnI := { nt := 80, res := [.tmp 8], body := (Try.f81.body.getD .skip), rts := [4], frz := false }
/-- loop.example/g00037/laws.eqTermS -/
noncomputable def fn82 : FnI := { nt := 27, res := [.tmp 4], body := (Try.f82.body.getD .skip), rts := [4], loops := [{ live := [0, 1, 5], liveX := [] }] }
/-- loop.example/g00037/laws.eqStringS -/
noncomputable def fn83 : FnI := { nt := 26, res := [.tmp 4], body := (Try.f83.body.getD .skip), rts := [4], loops := [{ live := [0, 1, 5], liveX := [] }] }
/-- loop.example/g00037/laws.eqProdS -/
noncomputable def fn84 : FnI := { nt := 27, res := [.tmp 4], body := (Try.f84.body.getD .skip), rts := [4], loops := [{ live := [0, 1, 5], liveX := [] }] }
/-- loop.example/g00037/laws.eqAttrS -/
noncomputable def fn85 : FnI := { nt := 27, res := [.tmp 4], body := (Try.f85.body.getD .skip), rts := [4], loops := [{ live := [0, 1, 5], liveX := [] }] }
/-- loop.example/g00037/laws.eqEqS -/
noncomputable def fn86 : FnI := { nt := 27, res := [.tmp 4], body := (Try.f86.body.getD .skip), rts := [4], loops := [{ live := [0, 1, 5], liveX := [] }] }
/-- loop.example/g00037/laws.szTerm -/
noncomputable def fn116 : FnI := { nt := 13, res := [.tmp 4], body := (Try.f116.body.getD .skip), rts := [3] }
/-- loop.example/g00037/laws.szProd -/
noncomputable def fn117 : FnI := { nt := 19, res := [.tmp 4], body := (Try.f117.body.getD .skip), rts := [3] }
/-- loop.example/g00037/laws.szAttr -/
noncomputable def fn118 : FnI := { nt := 13, res := [.tmp 4], body := (Try.f118.body.getD .skip), rts := [3] }
/-- loop.example/g00037/laws.szEq -/
noncomputable def fn119 : FnI := { nt := 12, res := [.tmp 4], body := (Try.f119.body.getD .skip), rts := [3] }
/-- loop.example/g00037/spec.l04Strength -/
noncomputable def fn120 : FnI := { nt := 23, res := [.tmp 4], body := (Try.f120.body.getD .skip), rts := [4] }
/-- loop.example/g00037/spec.l03At -/
noncomputable def fn121 : FnI := { nt := 19, res := [.tmp 4], body := (Try.f121.body.getD .skip), rts := [3], loops := [{ live := [0, 1, 5], liveX := [] }] }
/-- loop.example/g00037/spec.l01Letter -/
noncomputable def fn122 : FnI := { nt := 17, res := [.tmp 2], body := (Try.f122.body.getD .skip), rts := [4] }
/-- loop.example/g00037/spec.l01NameByte -/
noncomputable def fn123 : FnI := { nt := 13, res := [.tmp 2], body := (Try.f123.body.getD .skip), rts := [4] }
/-- loop.example/g00037/spec.l10Sym -/
noncomputable def fn124 : FnI := { nt := 44, res := [.tmp 6], body := (Try.f124.body.getD .skip), rts := [3] }
/-- loop.example/g00037/laws.toTerm -/
noncomputable def fn125 : FnI := { nt := 14, res := [.cell 2 204], body := (Try.f125.body.getD .skip), rts := [204], frz := false }
/-- loop.example/g00037/laws.toProd -/
noncomputable def fn126 : FnI := { nt := 21, res := [.cell 2 129], body := (Try.f126.body.getD .skip), rts := [129], frz := false }
/-- loop.example/g00037/laws.toAttr -/
noncomputable def fn127 : FnI := { nt := 14, res := [.cell 2 118], body := (Try.f127.body.getD .skip), rts := [118], frz := false }
/-- loop.example/g00037/laws.toEq -/
noncomputable def fn128 : FnI := { nt := 21, res := [.cell 2 122], body := (Try.f128.body.getD .skip), rts := [122], frz := false }
/-- loop.example/g00037/impl.levelOK -/
noncomputable def fn129 : FnI := { nt := 21, res := [.tmp 4], body := (Try.f129.body.getD .skip), rts := [4], frz := false }
/-- loop.example/g00037/impl.isLetter -/
noncomputable def fn130 : FnI := { nt := 17, res := [.tmp 2], body := (Try.f130.body.getD .skip), rts := [4], frz := false }
/-- loop.example/g00037/impl.inName -/
noncomputable def fn131 : FnI := { nt := 13, res := [.tmp 2], body := (Try.f131.body.getD .skip), rts := [4], frz := false }
/-- loop.example/g00037/impl.within -/
noncomputable def fn132 : FnI := { nt := 14, res := [.tmp 4], body := (Try.f132.body.getD .skip), rts := [4], frz := false }
/-- loop.example/g00037/laws.eqTerm -/
noncomputable def fn133 : FnI := { nt := 20, res := [.tmp 4], body := (Try.f133.body.getD .skip), rts := [4] }
/-- loop.example/g00037/laws.eqProd -/
noncomputable def fn134 : FnI := { nt := 31, res := [.tmp 4], body := (Try.f134.body.getD .skip), rts := [4] }
/-- loop.example/g00037/laws.eqAttr -/
noncomputable def fn135 : FnI := { nt := 20, res := [.tmp 4], body := (Try.f135.body.getD .skip), rts := [4] }
/-- loop.example/g00037/laws.eqEq -/
noncomputable def fn136 : FnI := { nt := 31, res := [.tmp 4], body := (Try.f136.body.getD .skip), rts := [4] }
/-- loop.example/g00037/laws.szIntS -/
noncomputable def fn162 : FnI := { nt := 12, res := [.tmp 4], body := (Try.f162.body.getD .skip), rts := [3] }
/-- loop.example/g00037/laws.szRefS -/
noncomputable def fn163 : FnI := { nt := 12, res := [.tmp 4], body := (Try.f163.body.getD .skip), rts := [3] }
/-- loop.example/g00037/spec.l01Digit -/
noncomputable def fn164 : FnI := { nt := 9, res := [.tmp 2], body := (Try.f164.body.getD .skip), rts := [4] }
/-- loop.example/g00037/laws.toIntS -/
noncomputable def fn165 : FnI := { nt := 22, res := [.tmp 2], body := (Try.f165.body.getD .skip), rts := [87], frz := false, loops := [{ live := [0, 3, 4], liveX := [3] }] }
/-- loop.example/g00037/laws.toRefS -/
noncomputable def fn166 : FnI := { nt := 23, res := [.tmp 2], body := (Try.f166.body.getD .skip), rts := [120], frz := false, loops := [{ live := [0, 3, 4], liveX := [3] }] }
/-- loop.example/g00037/impl.isDigit -/
noncomputable def fn167 : FnI := { nt := 9, res := [.tmp 2], body := (Try.f167.body.getD .skip), rts := [4], frz := false }
/-- loop.example/g00037/laws.eqRefS -/
noncomputable def fn168 : FnI := { nt := 27, res := [.tmp 4], body := (Try.f168.body.getD .skip), rts := [4], loops := [{ live := [0, 1, 5], liveX := [] }] }
/-- loop.example/g00037/laws.toRef -/
noncomputable def fn180 : FnI := { nt := 14, res := [.cell 2 127], body := (Try.f180.body.getD .skip), rts := [127], frz := false }
/-- loop.example/g00037/laws.eqRef -/
noncomputable def fn181 : FnI := { nt := 20, res := [.tmp 4], body := (Try.f181.body.getD .skip), rts := [4] }

noncomputable def ctx : Ctx := { tab := tab, fns := [(5, fn5), (23, fn23), (24, fn24), (25, fn25), (26, fn26), (27, fn27), (28, fn28), (29, fn29), (30, fn30), (47, fn47), (60, fn60), (61, fn61), (62, fn62), (63, fn63), (64, fn64), (65, fn65), (66, fn66), (67, fn67), (68, fn68), (69, fn69), (70, fn70), (71, fn71), (72, fn72), (73, fn73), (74, fn74), (75, fn75), (76, fn76), (77, fn77), (78, fn78), (79, fn79), (80, fn80), (81, fn81), (82, fn82), (83, fn83), (84, fn84), (85, fn85), (86, fn86), (116, fn116), (117, fn117), (118, fn118), (119, fn119), (120, fn120), (121, fn121), (122, fn122), (123, fn123), (124, fn124), (125, fn125), (126, fn126), (127, fn127), (128, fn128), (129, fn129), (130, fn130), (131, fn131), (132, fn132), (133, fn133), (134, fn134), (135, fn135), (136, fn136), (162, fn162), (163, fn163), (164, fn164), (165, fn165), (166, fn166), (167, fn167), (168, fn168), (180, fn180), (181, fn181)], idxB := some 198, keys := [(138, 9), (143, 21)] }

end Go.Proofs.Ytlgdkbacfgjcnaa
