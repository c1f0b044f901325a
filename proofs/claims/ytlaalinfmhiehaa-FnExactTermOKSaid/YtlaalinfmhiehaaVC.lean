import Derived.Test.YtlaalinfmhiehaaVmd
import Derived.Test.YtlaalinfmhiehaaProg
namespace Go.Proofs.Ytlaalinfmhiehaa
open Go.VK

def tab : List (Nat × TI) := [
  (2, { agg := false, cts := [.int .i64], bytes := 8 }),
  (3, { agg := false, cts := [.int .i64], bytes := 8 }),
  (4, { agg := false, cts := [.bool], bytes := 1 }),
  (5, { agg := false, cts := [.int .u8], bytes := 1 }),
  (6, { agg := false, cts := [.int .u8], bytes := 1 }),
  (7, { agg := true, cts := [.int .i64, .int .i64, .bool, .int .u8], offs := [(0, 2), (1, 3), (2, 4), (3, 6)], bytes := 24 }),
  (8, { agg := true, cts := [.int .i64, .int .i64, .bool, .int .u8], offs := [(0, 2), (1, 3), (2, 4), (3, 6)], bytes := 24 }),
  (9, { agg := false, cts := [.str], bytes := 16 }),
  (10, { agg := false, cts := [.str], bytes := 16 }),
  (11, { agg := false, cts := [.str], bytes := 16 }),
  (12, { agg := false, cts := [.int .u64], bytes := 8 }),
  (13, { agg := true, cts := [.str, .int .u64], offs := [(0, 9), (1, 12)], bytes := 24 }),
  (14, { agg := true, cts := [.str, .int .u64], offs := [(0, 9), (1, 12)], bytes := 24 }),
  (15, { agg := false, cts := [.ptr], bytes := 8 }),
  (16, { agg := false, cts := [.ptr], bytes := 8 }),
  (17, { agg := false, cts := [.ptr], bytes := 8 }),
  (18, { agg := true, cts := [.ptr], offs := [(0, 17)], bytes := 8 }),
  (19, { agg := true, cts := [.ptr], offs := [(0, 17)], bytes := 8 }),
  (21, { agg := false, cts := [.int .i32], bytes := 4 }),
  (23, { agg := true, cts := [.int .i64, .int .i64, .str], offs := [(0, 3), (1, 3), (2, 9)], bytes := 32 }),
  (24, { agg := true, cts := [.int .i64, .int .i64, .str], offs := [(0, 3), (1, 3), (2, 9)], bytes := 32 }),
  (28, { agg := true, cts := [.int .i64, .int .i64, .str], offs := [(0, 3), (1, 3), (2, 9)], bytes := 32 }),
  (31, { agg := false, cts := [.slice 1], elem := some 3, bytes := 24 }),
  (32, { agg := false, cts := [.slice 2], elem := some 98, bytes := 24 }),
  (37, { agg := false, cts := [.slice 2], elem := some 96, bytes := 24 }),
  (44, { agg := false, cts := [.slice 4], elem := some 46, bytes := 24 }),
  (45, { agg := true, cts := [.str, .str, .bool, .slice 4], offs := [(0, 9), (1, 9), (2, 4), (3, 44)], bytes := 64 }),
  (46, { agg := true, cts := [.str, .str, .bool, .slice 4], offs := [(0, 9), (1, 9), (2, 4), (3, 44)], bytes := 64 }),
  (49, { agg := false, cts := [.slice 4], elem := some 51, bytes := 24 }),
  (50, { agg := true, cts := [.str, .str, .bool, .slice 4], offs := [(0, 9), (1, 9), (2, 4), (3, 49)], bytes := 64 }),
  (51, { agg := true, cts := [.str, .str, .bool, .slice 4], offs := [(0, 9), (1, 9), (2, 4), (3, 49)], bytes := 64 }),
  (57, { agg := false, cts := [.slice 1], elem := some 31, bytes := 24 }),
  (58, { agg := true, cts := [.slice 1, .slice 1, .slice 1], offs := [(0, 31), (1, 57), (2, 31)], bytes := 72 }),
  (59, { agg := true, cts := [.slice 1, .slice 1, .slice 1], offs := [(0, 31), (1, 57), (2, 31)], bytes := 72 }),
  (63, { agg := true, cts := [.slice 1, .slice 1, .slice 1], offs := [(0, 31), (1, 57), (2, 31)], bytes := 72 }),
  (68, { agg := false, cts := [.slice 3], elem := some 156, bytes := 24 }),
  (69, { agg := false, cts := [.slice 2], elem := some 154, bytes := 24 }),
  (70, { agg := true, cts := [.int .i64, .slice 3, .slice 2, .slice 2], offs := [(0, 3), (1, 68), (2, 69), (3, 69)], bytes := 80 }),
  (71, { agg := true, cts := [.int .i64, .slice 3, .slice 2, .slice 2], offs := [(0, 3), (1, 68), (2, 69), (3, 69)], bytes := 80 }),
  (74, { agg := false, cts := [.slice 3], elem := some 117, bytes := 24 }),
  (75, { agg := false, cts := [.slice 2], elem := some 123, bytes := 24 }),
  (76, { agg := true, cts := [.int .i64, .slice 3, .slice 2, .slice 2], offs := [(0, 3), (1, 74), (2, 75), (3, 75)], bytes := 80 }),
  (77, { agg := true, cts := [.int .i64, .slice 3, .slice 2, .slice 2], offs := [(0, 3), (1, 74), (2, 75), (3, 75)], bytes := 80 }),
  (85, { agg := false, cts := [.slice 4], elem := some 135, bytes := 24 }),
  (88, { agg := false, cts := [.slice 4], elem := some 137, bytes := 24 }),
  (95, { agg := true, cts := [.int .i64, .int .i64], offs := [(0, 3), (1, 3)], bytes := 16 }),
  (96, { agg := true, cts := [.int .i64, .int .i64], offs := [(0, 3), (1, 3)], bytes := 16 }),
  (98, { agg := true, cts := [.int .i64, .int .i64], offs := [(0, 3), (1, 3)], bytes := 16 }),
  (104, { agg := false, cts := [.ptr], bytes := 8 }),
  (116, { agg := true, cts := [.int .i64, .int .i64, .int .i64], offs := [(0, 3), (1, 3), (2, 3)], bytes := 24 }),
  (117, { agg := true, cts := [.int .i64, .int .i64, .int .i64], offs := [(0, 3), (1, 3), (2, 3)], bytes := 24 }),
  (121, { agg := false, cts := [.slice 1], elem := some 75, bytes := 24 }),
  (122, { agg := true, cts := [.int .i64, .str], offs := [(0, 3), (1, 9)], bytes := 24 }),
  (123, { agg := true, cts := [.int .i64, .str], offs := [(0, 3), (1, 9)], bytes := 24 }),
  (134, { agg := true, cts := [.int .i64, .str, .int .i64, .slice 1], offs := [(0, 3), (1, 9), (2, 3), (3, 31)], bytes := 56 }),
  (135, { agg := true, cts := [.int .i64, .str, .int .i64, .slice 1], offs := [(0, 3), (1, 9), (2, 3), (3, 31)], bytes := 56 }),
  (137, { agg := true, cts := [.int .i64, .str, .int .i64, .slice 1], offs := [(0, 3), (1, 9), (2, 3), (3, 31)], bytes := 56 }),
  (140, { agg := false, cts := [.oth], elem := some 3, key := some 3, bytes := 8 }),
  (144, { agg := false, cts := [.ptr], bytes := 8 }),
  (145, { agg := false, cts := [.slice 1], elem := some 5, bytes := 24 }),
  (146, { agg := true, cts := [.ptr, .slice 1], offs := [(0, 144), (1, 145)], bytes := 32 }),
  (147, { agg := true, cts := [.ptr, .slice 1], offs := [(0, 144), (1, 145)], bytes := 32 }),
  (149, { agg := false, cts := [.oth], bytes := 16 }),
  (154, { agg := true, cts := [.int .i64, .str], offs := [(0, 3), (1, 9)], bytes := 24 }),
  (156, { agg := true, cts := [.int .i64, .int .i64, .int .i64], offs := [(0, 3), (1, 3), (2, 3)], bytes := 24 }),
  (161, { agg := false, cts := [.oth], elem := some 3, key := some 9, bytes := 8 }),
  (164, { agg := false, cts := [.ptr], bytes := 8 }),
  (172, { agg := false, cts := [.int .u64], bytes := 8 }),
  (173, { agg := false, cts := [.int .u32], bytes := 4 }),
  (176, { agg := true, cts := [.ptr, .ptr, .ptr, .str], offs := [(0, 17), (1, 17), (2, 17), (3, 9)], bytes := 40 }),
  (177, { agg := true, cts := [.ptr, .ptr, .ptr, .str], offs := [(0, 17), (1, 17), (2, 17), (3, 9)], bytes := 40 }),
  (182, { agg := false, cts := [.int .u8], bytes := 1 }),
  (183, { agg := false, cts := [.int .u8], bytes := 1 }),
  (185, { agg := false, cts := [.int .i32], bytes := 4 }),
  (186, { agg := false, cts := [.int .i32], bytes := 4 }),
  (187, { agg := true, cts := [.int .u64, .int .u64, .int .u32, .int .u8, .int .u8, .int .u8, .int .u8, .oth, .ptr, .int .i32, .int .i32], offs := [(0, 12), (1, 12), (2, 173), (3, 182), (4, 5), (5, 5), (6, 183), (7, 184), (8, 164), (9, 185), (10, 186)], bytes := 48 }),
  (188, { agg := true, cts := [.int .u64, .int .u64, .int .u32, .int .u8, .int .u8, .int .u8, .int .u8, .oth, .ptr, .int .i32, .int .i32], offs := [(0, 12), (1, 12), (2, 173), (3, 182), (4, 5), (5, 5), (6, 183), (7, 184), (8, 164), (9, 185), (10, 186)], bytes := 48 })]

/-- loop.example/g00037/laws.FnExactTermOK -/
noncomputable def fn11 : FnI := { nt := 27, res := [.tmp 2], body := (Try.f11.body.getD .skip), rts := [4] }
/-- loop.example/g00037/laws.szTree -/
noncomputable def fn29 : FnI := { nt := 26, res := [.tmp 4], body := (Try.f29.body.getD .skip), rts := [3] }
/-- loop.example/g00037/spec.TreeOK -/
noncomputable def fn30 : FnI := { nt := 10, res := [.tmp 2], body := (Try.f30.body.getD .skip), rts := [4] }
/-- loop.example/g00037/laws.toTree -/
noncomputable def fn31 : FnI := { nt := 18, res := [.cell 2 51], body := (Try.f31.body.getD .skip), rts := [51], frz := false }
/-- loop.example/g00037/impl.TreeOK -/
noncomputable def fn32 : FnI := { nt := 7, res := [.tmp 2], body := (Try.f32.body.getD .skip), rts := [4], frz := false }
/-- loop.example/g00037/laws.eqTree -/
noncomputable def fn33 : FnI := { nt := 26, res := [.tmp 4], body := (Try.f33.body.getD .skip), rts := [4] }
/-- loop.example/g00037/spec.TermOK -/
noncomputable def fn48 : FnI := { nt := 9, res := [.tmp 2], body := (Try.f48.body.getD .skip), rts := [4] }
/-- loop.example/g00037/impl.TermOK -/
noncomputable def fn49 : FnI := { nt := 9, res := [.tmp 2], body := (Try.f49.body.getD .skip), rts := [4], frz := false }
/-- loop.example/g00037/spec.l01Between -/
noncomputable def fn61 : FnI := { nt := 15, res := [.tmp 6], body := (Try.f61.body.getD .skip), rts := [4] }
/-- loop.example/g00037/laws.szTreeS -/
noncomputable def fn64 : FnI := { nt := 27, res := [.tmp 4], body := (Try.f64.body.getD .skip), rts := [3], loops := [{ live := [0, 1, 5], liveX := [1] }] }
/-- loop.example/g00037/spec.l01Room -/
noncomputable def fn65 : FnI := { nt := 33, res := [.tmp 6], body := (Try.f65.body.getD .skip), rts := [3], loops := [{ live := [1, 2, 3, 7], liveX := [1] }] }
/-- loop.example/g00037/spec.l01Right -/
noncomputable def fn66 : FnI := { nt := 48, res := [.tmp 2], body := (Try.f66.body.getD .skip), rts := [4], loops := [{ live := [1, 3], liveX := [] }] }
/-- loop.example/g00037/laws.toTreeS -/
noncomputable def fn67 : FnI := { nt := 23, res := [.tmp 2], body := (Try.f67.body.getD .skip), rts := [49], frz := false, loops := [{ live := [0, 3, 4], liveX := [3] }] }
/-- loop.example/g00037/impl.measure -/
noncomputable def fn68 : FnI := { nt := 67, res := [.tmp 8], body := (Try.f68.body.getD .skip), rts := [4], frz := false, loops := [{ live := [1, 2, 3, 53, 54, 55], liveX := [] }] }
/-- loop.example/g00037/laws.eqTreeS -/
noncomputable def fn69 : FnI := { nt := 27, res := [.tmp 4], body := (Try.f69.body.getD .skip), rts := [4], loops := [{ live := [0, 1, 5], liveX := [] }] }
/-- loop.example/g00037/impl.nameOK -/
noncomputable def fn87 : FnI := { nt := 29, res := [.tmp 2], body := (Try.f87.body.getD .skip), rts := [4], frz := false, loops := [{ live := [0, 3], liveX := [] }] }
/-- loop.example/g00037/spec.l12Term -/
noncomputable def fn90 : FnI := { nt := 85, res := [.tmp 2], body := (Try.f90.body.getD .skip), rts := [4], loops := [{ live := [1, 4, 5], liveX := [] }] }
/-- loop.example/g00037/impl.termForm -/
noncomputable def fn91 : FnI := { nt := 61, res := [.tmp 2], body := (Try.f91.body.getD .skip), rts := [4], frz := false, loops := [{ live := [1, 41, 42, 43], liveX := [] }] }
/-- loop.example/g00037/spec.l01Name -/
noncomputable def fn108 : FnI := { nt := 29, res := [.tmp 2], body := (Try.f108.body.getD .skip), rts := [4], loops := [{ live := [0, 3], liveX := [] }] }
/-- loop.example/g00037/impl.isLetter -/
noncomputable def fn114 : FnI := { nt := 17, res := [.tmp 2], body := (Try.f114.body.getD .skip), rts := [4], frz := false }
/-- loop.example/g00037/impl.inName -/
noncomputable def fn115 : FnI := { nt := 13, res := [.tmp 2], body := (Try.f115.body.getD .skip), rts := [4], frz := false }
/-- loop.example/g00037/spec.l12Num -/
noncomputable def fn118 : FnI := { nt := 19, res := [.tmp 2], body := (Try.f118.body.getD .skip), rts := [4] }
/-- loop.example/g00037/impl.numOK -/
noncomputable def fn119 : FnI := { nt := 33, res := [.tmp 2], body := (Try.f119.body.getD .skip), rts := [4], frz := false, loops := [{ live := [0, 23, 24], liveX := [] }] }
/-- loop.example/g00037/impl.binds -/
noncomputable def fn120 : FnI := { nt := 16, res := [.tmp 2], body := (Try.f120.body.getD .skip), rts := [4], frz := false }
/-- loop.example/g00037/impl.isId -/
noncomputable def fn121 : FnI := { nt := 10, res := [.tmp 2], body := (Try.f121.body.getD .skip), rts := [4], frz := false }
/-- loop.example/g00037/spec.l01Letter -/
noncomputable def fn124 : FnI := { nt := 17, res := [.tmp 2], body := (Try.f124.body.getD .skip), rts := [4] }
/-- loop.example/g00037/spec.l01NameByte -/
noncomputable def fn125 : FnI := { nt := 13, res := [.tmp 2], body := (Try.f125.body.getD .skip), rts := [4] }
/-- loop.example/g00037/impl.isDigit -/
noncomputable def fn127 : FnI := { nt := 9, res := [.tmp 2], body := (Try.f127.body.getD .skip), rts := [4], frz := false }
/-- loop.example/g00037/spec.l03Bytes -/
noncomputable def fn128 : FnI := { nt := 26, res := [.tmp 6], body := (Try.f128.body.getD .skip), rts := [4], loops := [{ live := [0, 1, 2, 7], liveX := [] }] }
/-- loop.example/g00037/impl.leafOK -/
noncomputable def fn129 : FnI := { nt := 19, res := [.tmp 4], body := (Try.f129.body.getD .skip), rts := [4], frz := false }
/-- loop.example/g00037/spec.l01Digit -/
noncomputable def fn131 : FnI := { nt := 9, res := [.tmp 2], body := (Try.f131.body.getD .skip), rts := [4] }

noncomputable def ctx : Ctx := { tab := tab, fns := [(11, fn11), (29, fn29), (30, fn30), (31, fn31), (32, fn32), (33, fn33), (48, fn48), (49, fn49), (61, fn61), (64, fn64), (65, fn65), (66, fn66), (67, fn67), (68, fn68), (69, fn69), (87, fn87), (90, fn90), (91, fn91), (108, fn108), (114, fn114), (115, fn115), (118, fn118), (119, fn119), (120, fn120), (121, fn121), (124, fn124), (125, fn125), (127, fn127), (128, fn128), (129, fn129), (131, fn131)] }

end Go.Proofs.Ytlaalinfmhiehaa
