import Derived.Test.YtmbnloccmnclnaaDoorVmd
import Derived.Test.YtmbnloccmnclnaaDoorProg
namespace Go.Proofs.YtmbnloccmnclnaaDoor
open Go.VK

def tab : List (Nat × TI) := [
  (2, { agg := false, cts := [.int .i64], bytes := 8 }),
  (3, { agg := false, cts := [.int .i64], bytes := 8 }),
  (4, { agg := false, cts := [.bool], bytes := 1 }),
  (5, { agg := false, cts := [.int .u8], bytes := 1 }),
  (6, { agg := false, cts := [.int .u8], bytes := 1 }),
  (7, { agg := true, cts := [.int .i64, .int .i64, .bool, .int .u8], offs := [(0, 2), (1, 3), (2, 4), (3, 6)], bytes := 24 }),
  (8, { agg := true, cts := [.int .i64, .int .i64, .bool, .int .u8], offs := [(0, 2), (1, 3), (2, 4), (3, 6)], bytes := 24 }),
  (9, { agg := false, cts := [.str], bytes := 16 }),
  (10, { agg := false, cts := [.str], bytes := 16 }),
  (11, { agg := false, cts := [.str], bytes := 16 }),
  (12, { agg := false, cts := [.int .u64], bytes := 8 }),
  (13, { agg := true, cts := [.str, .int .u64], offs := [(0, 9), (1, 12)], bytes := 24 }),
  (14, { agg := true, cts := [.str, .int .u64], offs := [(0, 9), (1, 12)], bytes := 24 }),
  (15, { agg := false, cts := [.ptr], bytes := 8 }),
  (16, { agg := false, cts := [.ptr], bytes := 8 }),
  (17, { agg := false, cts := [.ptr], bytes := 8 }),
  (18, { agg := true, cts := [.ptr], offs := [(0, 17)], bytes := 8 }),
  (19, { agg := true, cts := [.ptr], offs := [(0, 17)], bytes := 8 }),
  (21, { agg := false, cts := [.int .i32], bytes := 4 }),
  (22, { agg := false, cts := [.slice 1], elem := some 114, bytes := 24 }),
  (23, { agg := false, cts := [.slice 1], elem := some 28, bytes := 24 }),
  (24, { agg := true, cts := [.slice 1, .slice 1], offs := [(0, 22), (1, 23)], bytes := 48 }),
  (25, { agg := true, cts := [.slice 1, .slice 1], offs := [(0, 22), (1, 23)], bytes := 48 }),
  (27, { agg := false, cts := [.slice 1], elem := some 76, bytes := 24 }),
  (28, { agg := false, cts := [.slice 1], elem := some 3, bytes := 24 }),
  (29, { agg := true, cts := [.slice 1, .slice 1, .slice 1, .slice 1], offs := [(0, 27), (1, 23), (2, 28), (3, 28)], bytes := 96 }),
  (30, { agg := true, cts := [.slice 1, .slice 1, .slice 1, .slice 1], offs := [(0, 27), (1, 23), (2, 28), (3, 28)], bytes := 96 }),
  (33, { agg := true, cts := [.slice 1, .slice 1], offs := [(0, 27), (1, 23)], bytes := 48 }),
  (34, { agg := true, cts := [.slice 1, .slice 1], offs := [(0, 27), (1, 23)], bytes := 48 }),
  (41, { agg := false, cts := [.slice 4], elem := some 88, bytes := 24 }),
  (43, { agg := false, cts := [.slice 4], elem := some 107, bytes := 24 }),
  (44, { agg := true, cts := [.slice 4, .slice 1], offs := [(0, 43), (1, 28)], bytes := 48 }),
  (45, { agg := true, cts := [.slice 4, .slice 1], offs := [(0, 43), (1, 28)], bytes := 48 }),
  (48, { agg := false, cts := [.slice 4], elem := some 92, bytes := 24 }),
  (55, { agg := true, cts := [.slice 1, .slice 1, .slice 1, .slice 1], offs := [(0, 22), (1, 23), (2, 28), (3, 28)], bytes := 96 }),
  (56, { agg := true, cts := [.slice 1, .slice 1, .slice 1, .slice 1], offs := [(0, 22), (1, 23), (2, 28), (3, 28)], bytes := 96 }),
  (62, { agg := false, cts := [.slice 4], elem := some 136, bytes := 24 }),
  (63, { agg := true, cts := [.slice 4, .slice 1], offs := [(0, 62), (1, 28)], bytes := 48 }),
  (64, { agg := true, cts := [.slice 4, .slice 1], offs := [(0, 62), (1, 28)], bytes := 48 }),
  (76, { agg := false, cts := [.slice 2], elem := some 118, bytes := 24 }),
  (77, { agg := false, cts := [.oth], elem := some 3, key := some 9, bytes := 8 }),
  (87, { agg := true, cts := [.str, .str, .bool, .slice 4], offs := [(0, 9), (1, 9), (2, 4), (3, 41)], bytes := 64 }),
  (88, { agg := true, cts := [.str, .str, .bool, .slice 4], offs := [(0, 9), (1, 9), (2, 4), (3, 41)], bytes := 64 }),
  (91, { agg := true, cts := [.str, .str, .bool, .slice 4], offs := [(0, 9), (1, 9), (2, 4), (3, 48)], bytes := 64 }),
  (92, { agg := true, cts := [.str, .str, .bool, .slice 4], offs := [(0, 9), (1, 9), (2, 4), (3, 48)], bytes := 64 }),
  (94, { agg := false, cts := [.ptr], bytes := 8 }),
  (95, { agg := true, cts := [.slice 4, .slice 1, .oth], offs := [(0, 45), (2, 77)], bytes := 56 }),
  (96, { agg := true, cts := [.slice 4, .slice 1, .oth], offs := [(0, 45), (2, 77)], bytes := 56 }),
  (106, { agg := true, cts := [.str, .str, .bool, .slice 1], offs := [(0, 9), (1, 9), (2, 4), (3, 28)], bytes := 64 }),
  (107, { agg := true, cts := [.str, .str, .bool, .slice 1], offs := [(0, 9), (1, 9), (2, 4), (3, 28)], bytes := 64 }),
  (114, { agg := false, cts := [.slice 2], elem := some 139, bytes := 24 }),
  (117, { agg := true, cts := [.int .i64, .int .i64], offs := [(0, 3), (1, 3)], bytes := 16 }),
  (118, { agg := true, cts := [.int .i64, .int .i64], offs := [(0, 3), (1, 3)], bytes := 16 }),
  (119, { agg := false, cts := [.ptr], bytes := 8 }),
  (120, { agg := false, cts := [.slice 1], elem := some 5, bytes := 24 }),
  (121, { agg := true, cts := [.ptr, .slice 1], offs := [(0, 119), (1, 120)], bytes := 32 }),
  (122, { agg := true, cts := [.ptr, .slice 1], offs := [(0, 119), (1, 120)], bytes := 32 }),
  (124, { agg := false, cts := [.oth], bytes := 16 }),
  (133, { agg := false, cts := [.ptr], bytes := 8 }),
  (136, { agg := true, cts := [.str, .str, .bool, .slice 1], offs := [(0, 9), (1, 9), (2, 4), (3, 28)], bytes := 64 }),
  (139, { agg := true, cts := [.int .i64, .int .i64], offs := [(0, 3), (1, 3)], bytes := 16 }),
  (140, { agg := false, cts := [.ptr], bytes := 8 }),
  (149, { agg := false, cts := [.int .u64], bytes := 8 }),
  (157, { agg := false, cts := [.int .u32], bytes := 4 }),
  (160, { agg := false, cts := [.int .u64], bytes := 8 }),
  (165, { agg := true, cts := [.ptr, .ptr, .ptr, .str], offs := [(0, 17), (1, 17), (2, 17), (3, 9)], bytes := 40 }),
  (166, { agg := true, cts := [.ptr, .ptr, .ptr, .str], offs := [(0, 17), (1, 17), (2, 17), (3, 9)], bytes := 40 }),
  (171, { agg := false, cts := [.int .u8], bytes := 1 }),
  (172, { agg := false, cts := [.int .u8], bytes := 1 }),
  (174, { agg := false, cts := [.int .i32], bytes := 4 }),
  (175, { agg := false, cts := [.int .i32], bytes := 4 }),
  (176, { agg := true, cts := [.int .u64, .int .u64, .int .u32, .int .u8, .int .u8, .int .u8, .int .u8, .oth, .ptr, .int .i32, .int .i32], offs := [(0, 12), (1, 12), (2, 157), (3, 171), (4, 5), (5, 5), (6, 172), (7, 173), (8, 140), (9, 174), (10, 175)], bytes := 48 }),
  (177, { agg := true, cts := [.int .u64, .int .u64, .int .u32, .int .u8, .int .u8, .int .u8, .int .u8, .oth, .ptr, .int .i32, .int .i32], offs := [(0, 12), (1, 12), (2, 157), (3, 171), (4, 5), (5, 5), (6, 172), (7, 173), (8, 140), (9, 174), (10, 175)], bytes := 48 })]

/-- loop.example/g00037/laws.FnExactShrink -/
noncomputable def fn3 : FnI := { nt := 96, res := [.tmp 2], body := (Tryd.f3.body.getD .skip), rts := [4] }
/-- loop.example/g00037/laws.FnExactWiden -/
noncomputable def fn5 : FnI := { nt := 96, res := [.tmp 2], body := (Tryd.f5.body.getD .skip), rts := [4] }
/-- loop.example/g00037/laws.szTable -/
noncomputable def fn7 : FnI := { nt := 18, res := [.tmp 4], body := (Tryd.f7.body.getD .skip), rts := [3] }
/-- loop.example/g00037/spec.Shrink -/
noncomputable def fn8 : FnI := { nt := 10, res := [.cell 2 30, .tmp 3], body := (Tryd.f8.body.getD .skip), rts := [30, 3] }
/-- loop.example/g00037/laws.toTable -/
noncomputable def fn9 : FnI := { nt := 13, res := [.cell 2 34], body := (Tryd.f9.body.getD .skip), rts := [34], frz := false }
/-- loop.example/g00037/impl.Shrink -/
noncomputable def fn10 : FnI := { nt := 144, res := [.cell 2 30, .tmp 3], body := (Tryd.f10.body.getD .skip), rts := [30, 3], frz := false, loops := [{ live := [1, 2, 28, 29], liveX := [1, 2] }, { live := [1, 2, 5, 6, 7, 64, 65], liveX := [2, 5] }] }
/-- loop.example/g00037/laws.eqPacked -/
noncomputable def fn11 : FnI := { nt := 29, res := [.tmp 4], body := (Tryd.f11.body.getD .skip), rts := [4] }
/-- loop.example/g00037/laws.eqTable -/
noncomputable def fn12 : FnI := { nt := 17, res := [.tmp 4], body := (Tryd.f12.body.getD .skip), rts := [4] }
/-- loop.example/g00037/laws.markTable -/
noncomputable def fn13 : FnI := { nt := 14, res := [.tmp 4], body := (Tryd.f13.body.getD .skip), rts := [3], muts := [0] }
/-- loop.example/g00037/laws.markPacked -/
noncomputable def fn14 : FnI := { nt := 22, res := [.tmp 4], body := (Tryd.f14.body.getD .skip), rts := [3], muts := [0] }
/-- loop.example/g00037/laws.heldPacked -/
noncomputable def fn15 : FnI := { nt := 30, res := [.tmp 4], body := (Tryd.f15.body.getD .skip), rts := [3] }
/-- loop.example/g00037/laws.szPacked -/
noncomputable def fn25 : FnI := { nt := 30, res := [.tmp 4], body := (Tryd.f25.body.getD .skip), rts := [3] }
/-- loop.example/g00037/spec.Widen -/
noncomputable def fn26 : FnI := { nt := 127, res := [.cell 2 34, .tmp 3], body := (Tryd.f26.body.getD .skip), rts := [34, 3], loops := [{ live := [1, 2, 4, 5], liveX := [1, 2, 4] }] }
/-- loop.example/g00037/laws.toPacked -/
noncomputable def fn27 : FnI := { nt := 21, res := [.cell 2 30], body := (Tryd.f27.body.getD .skip), rts := [30], frz := false }
/-- loop.example/g00037/impl.Widen -/
noncomputable def fn28 : FnI := { nt := 99, res := [.cell 2 34, .tmp 3], body := (Tryd.f28.body.getD .skip), rts := [34, 3], frz := false, loops := [{ live := [1, 2, 4, 26, 27], liveX := [1, 2, 4] }] }
/-- loop.example/g00037/laws.heldTable -/
noncomputable def fn29 : FnI := { nt := 18, res := [.tmp 4], body := (Tryd.f29.body.getD .skip), rts := [3] }
/-- loop.example/g00037/laws.szActSS -/
noncomputable def fn35 : FnI := { nt := 27, res := [.tmp 4], body := (Tryd.f35.body.getD .skip), rts := [3], loops := [{ live := [0, 1, 5], liveX := [1] }] }
/-- loop.example/g00037/laws.szIntSS -/
noncomputable def fn36 : FnI := { nt := 27, res := [.tmp 4], body := (Tryd.f36.body.getD .skip), rts := [3], loops := [{ live := [0, 1, 5], liveX := [1] }] }
/-- loop.example/g00037/spec.l05Even -/
noncomputable def fn37 : FnI := { nt := 50, res := [.tmp 2], body := (Tryd.f37.body.getD .skip), rts := [4], loops := [{ live := [1, 3], liveX := [] }] }
/-- loop.example/g00037/spec.l05Pack -/
noncomputable def fn38 : FnI := { nt := 103, res := [.cell 2 30], body := (Tryd.f38.body.getD .skip), rts := [30], loops := [{ live := [1, 2, 3, 4], liveX := [2, 3] }, { live := [1, 2, 3, 4, 5], liveX := [1, 2, 3, 4, 5] }, { live := [1, 2, 3, 4, 5], liveX := [1, 2, 3, 4, 5] }] }
/-- loop.example/g00037/laws.toActSS -/
noncomputable def fn39 : FnI := { nt := 23, res := [.tmp 2], body := (Tryd.f39.body.getD .skip), rts := [27], frz := false, loops := [{ live := [0, 3, 4], liveX := [3] }] }
/-- loop.example/g00037/laws.toIntSS -/
noncomputable def fn40 : FnI := { nt := 23, res := [.tmp 2], body := (Tryd.f40.body.getD .skip), rts := [23], frz := false, loops := [{ live := [0, 3, 4], liveX := [3] }] }
/-- loop.example/g00037/impl.actsKey -/
noncomputable def fn41 : FnI := { nt := 22, res := [.tmp 2], body := (Tryd.f41.body.getD .skip), rts := [9], frz := false, loops := [{ live := [3, 6, 7, 8], liveX := [3], own := [3] }] }
/-- loop.example/g00037/impl.key -/
noncomputable def fn42 : FnI := { nt := 18, res := [.tmp 2], body := (Tryd.f42.body.getD .skip), rts := [9], frz := false, loops := [{ live := [3, 6, 7, 8], liveX := [3] }] }
/-- loop.example/g00037/laws.eqActSS -/
noncomputable def fn43 : FnI := { nt := 27, res := [.tmp 4], body := (Tryd.f43.body.getD .skip), rts := [4], loops := [{ live := [0, 1, 5], liveX := [] }] }
/-- loop.example/g00037/laws.eqIntSS -/
noncomputable def fn44 : FnI := { nt := 27, res := [.tmp 4], body := (Tryd.f44.body.getD .skip), rts := [4], loops := [{ live := [0, 1, 5], liveX := [] }] }
/-- loop.example/g00037/laws.eqIntS -/
noncomputable def fn45 : FnI := { nt := 26, res := [.tmp 4], body := (Tryd.f45.body.getD .skip), rts := [4], loops := [{ live := [0, 1, 5], liveX := [] }] }
/-- loop.example/g00037/laws.markActSS -/
noncomputable def fn46 : FnI := { nt := 19, res := [.tmp 4], body := (Tryd.f46.body.getD .skip), rts := [3], muts := [0], loops := [{ live := [0, 1, 5], liveX := [1] }] }
/-- loop.example/g00037/laws.markIntSS -/
noncomputable def fn47 : FnI := { nt := 19, res := [.tmp 4], body := (Tryd.f47.body.getD .skip), rts := [3], muts := [0], loops := [{ live := [0, 1, 5], liveX := [1] }] }
/-- loop.example/g00037/laws.markIntS -/
noncomputable def fn48 : FnI := { nt := 19, res := [.tmp 4], body := (Tryd.f48.body.getD .skip), rts := [3], muts := [0], loops := [{ live := [0, 1, 5], liveX := [1] }] }
/-- loop.example/g00037/laws.heldActSS -/
noncomputable def fn49 : FnI := { nt := 21, res := [.tmp 4], body := (Tryd.f49.body.getD .skip), rts := [3], loops := [{ live := [0, 1, 5], liveX := [1] }] }
/-- loop.example/g00037/laws.heldIntSS -/
noncomputable def fn50 : FnI := { nt := 21, res := [.tmp 4], body := (Tryd.f50.body.getD .skip), rts := [3], loops := [{ live := [0, 1, 5], liveX := [1] }] }
/-- loop.example/g00037/laws.heldIntS -/
noncomputable def fn51 : FnI := { nt := 21, res := [.tmp 4], body := (Tryd.f51.body.getD .skip), rts := [3], loops := [{ live := [0, 1, 5], liveX := [1] }] }
/-- loop.example/g00037/laws.szIntS -/
noncomputable def fn63 : FnI := { nt := 12, res := [.tmp 4], body := (Tryd.f63.body.getD .skip), rts := [3] }
/-- loop.example/g00037/spec.l01Between -/
noncomputable def fn64 : FnI := { nt := 15, res := [.tmp 6], body := (Tryd.f64.body.getD .skip), rts := [4] }
/-- loop.example/g00037/spec.l05SameInts -/
noncomputable def fn65 : FnI := { nt := 26, res := [.tmp 4], body := (Tryd.f65.body.getD .skip), rts := [4], loops := [{ live := [0, 1, 5], liveX := [] }] }
/-- loop.example/g00037/laws.toIntS -/
noncomputable def fn66 : FnI := { nt := 22, res := [.tmp 2], body := (Tryd.f66.body.getD .skip), rts := [28], frz := false, loops := [{ live := [0, 3, 4], liveX := [3] }] }
/-- loop.example/g00037/impl.samePacked -/
noncomputable def fn67 : FnI := { nt := 81, res := [.tmp 4], body := (Tryd.f67.body.getD .skip), rts := [4], frz := false, loops := [{ live := [2, 3, 43, 44], liveX := [2, 3] }, { live := [2, 3, 63, 64], liveX := [] }] }
/-- loop.example/g00037/laws.szActS -/
noncomputable def fn74 : FnI := { nt := 12, res := [.tmp 4], body := (Tryd.f74.body.getD .skip), rts := [3] }
/-- loop.example/g00037/spec.l05SameActs -/
noncomputable def fn75 : FnI := { nt := 26, res := [.tmp 4], body := (Tryd.f75.body.getD .skip), rts := [4], loops := [{ live := [0, 1, 5], liveX := [] }] }
/-- loop.example/g00037/laws.toActS -/
noncomputable def fn76 : FnI := { nt := 23, res := [.tmp 2], body := (Tryd.f76.body.getD .skip), rts := [76], frz := false, loops := [{ live := [0, 3, 4], liveX := [3] }] }
/-- (*strings.Builder).WriteString -/
noncomputable def fn77 : FnI := { nt := 19, res := [.tmp 4, .tmp 5], body := (Tryd.f77.body.getD .skip), rts := [3, 124], frz := false, muts := [0] }
/-- loop.example/g00037/impl.itoa -/
noncomputable def fn78 : FnI := { nt := 5, res := [.tmp 2], body := (Tryd.f78.body.getD .skip), rts := [9], frz := false }
/-- (*strings.Builder).WriteByte -/
noncomputable def fn79 : FnI := { nt := 17, res := [.tmp 4], body := (Tryd.f79.body.getD .skip), rts := [124], frz := false, muts := [0] }
/-- (*strings.Builder).String -/
noncomputable def fn80 : FnI := { nt := 14, res := [.tmp 2], body := (Tryd.f80.body.getD .skip), rts := [9], frz := false, muts := [0] }
/-- loop.example/g00037/laws.eqActS -/
noncomputable def fn81 : FnI := { nt := 27, res := [.tmp 4], body := (Tryd.f81.body.getD .skip), rts := [4], loops := [{ live := [0, 1, 5], liveX := [] }] }
/-- loop.example/g00037/laws.markActS -/
noncomputable def fn82 : FnI := { nt := 27, res := [.tmp 4], body := (Tryd.f82.body.getD .skip), rts := [3], muts := [0], loops := [{ live := [0, 1, 5], liveX := [1] }] }
/-- loop.example/g00037/laws.heldActS -/
noncomputable def fn83 : FnI := { nt := 31, res := [.tmp 4], body := (Tryd.f83.body.getD .skip), rts := [3], loops := [{ live := [0, 1, 5], liveX := [1] }] }
/-- loop.example/g00037/laws.toAct -/
noncomputable def fn91 : FnI := { nt := 11, res := [.cell 2 118], body := (Tryd.f91.body.getD .skip), rts := [118], frz := false }
/-- strconv.Itoa -/
noncomputable def fn93 : FnI := { nt := 5, res := [.tmp 2], body := (Tryd.f93.body.getD .skip), rts := [9], frz := false }
/-- loop.example/g00037/laws.eqAct -/
noncomputable def fn94 : FnI := { nt := 15, res := [.tmp 4], body := (Tryd.f94.body.getD .skip), rts := [4] }
abbrev bT : Nat := 122
abbrev bE : Nat := 5

noncomputable def ctx : Ctx := { tab := tab, fns := [(3, fn3), (5, fn5), (7, fn7), (8, fn8), (9, fn9), (10, fn10), (11, fn11), (12, fn12), (13, fn13), (14, fn14), (15, fn15), (25, fn25), (26, fn26), (27, fn27), (28, fn28), (29, fn29), (35, fn35), (36, fn36), (37, fn37), (38, fn38), (39, fn39), (40, fn40), (41, fn41), (42, fn42), (43, fn43), (44, fn44), (45, fn45), (46, fn46), (47, fn47), (48, fn48), (49, fn49), (50, fn50), (51, fn51), (63, fn63), (64, fn64), (65, fn65), (66, fn66), (67, fn67), (74, fn74), (75, fn75), (76, fn76), (77, fn77), (78, fn78), (79, fn79), (80, fn80), (81, fn81), (82, fn82), (83, fn83), (91, fn91), (93, fn93), (94, fn94)], bld := some (122, 5), nats := [(77, 1), (79, 2), (80, 3), (93, 4)], eqs := [(118, [.int .i64, .int .i64])] }

end Go.Proofs.YtmbnloccmnclnaaDoor
