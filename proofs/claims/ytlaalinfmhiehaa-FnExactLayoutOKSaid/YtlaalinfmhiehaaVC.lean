import Derived.Test.YtlaalinfmhiehaaVmd
import Derived.Test.YtlaalinfmhiehaaProg
namespace Go.Proofs.Ytlaalinfmhiehaa
open Go.VK

def tab : List (Nat × TI) := [
  (2, { agg := false, cts := [.int .i64], bytes := 8 }),
  (3, { agg := false, cts := [.int .i64], bytes := 8 }),
  (4, { agg := false, cts := [.bool], bytes := 1 }),
  (5, { agg := false, cts := [.int .u8], bytes := 1 }),
  (6, { agg := false, cts := [.int .u8], bytes := 1 }),
  (7, { agg := true, cts := [.int .i64, .int .i64, .bool, .int .u8], offs := [(0, 2), (1, 3), (2, 4), (3, 6)], bytes := 24 }),
  (8, { agg := true, cts := [.int .i64, .int .i64, .bool, .int .u8], offs := [(0, 2), (1, 3), (2, 4), (3, 6)], bytes := 24 }),
  (9, { agg := false, cts := [.str], bytes := 16 }),
  (10, { agg := false, cts := [.str], bytes := 16 }),
  (11, { agg := false, cts := [.str], bytes := 16 }),
  (12, { agg := false, cts := [.int .u64], bytes := 8 }),
  (13, { agg := true, cts := [.str, .int .u64], offs := [(0, 9), (1, 12)], bytes := 24 }),
  (14, { agg := true, cts := [.str, .int .u64], offs := [(0, 9), (1, 12)], bytes := 24 }),
  (15, { agg := false, cts := [.ptr], bytes := 8 }),
  (16, { agg := false, cts := [.ptr], bytes := 8 }),
  (17, { agg := false, cts := [.ptr], bytes := 8 }),
  (18, { agg := true, cts := [.ptr], offs := [(0, 17)], bytes := 8 }),
  (19, { agg := true, cts := [.ptr], offs := [(0, 17)], bytes := 8 }),
  (21, { agg := false, cts := [.int .i32], bytes := 4 }),
  (23, { agg := true, cts := [.int .i64, .int .i64, .str], offs := [(0, 3), (1, 3), (2, 9)], bytes := 32 }),
  (24, { agg := true, cts := [.int .i64, .int .i64, .str], offs := [(0, 3), (1, 3), (2, 9)], bytes := 32 }),
  (28, { agg := true, cts := [.int .i64, .int .i64, .str], offs := [(0, 3), (1, 3), (2, 9)], bytes := 32 }),
  (31, { agg := false, cts := [.slice 1], elem := some 3, bytes := 24 }),
  (32, { agg := false, cts := [.slice 2], elem := some 98, bytes := 24 }),
  (37, { agg := false, cts := [.slice 2], elem := some 96, bytes := 24 }),
  (44, { agg := false, cts := [.slice 4], elem := some 46, bytes := 24 }),
  (45, { agg := true, cts := [.str, .str, .bool, .slice 4], offs := [(0, 9), (1, 9), (2, 4), (3, 44)], bytes := 64 }),
  (46, { agg := true, cts := [.str, .str, .bool, .slice 4], offs := [(0, 9), (1, 9), (2, 4), (3, 44)], bytes := 64 }),
  (49, { agg := false, cts := [.slice 4], elem := some 51, bytes := 24 }),
  (50, { agg := true, cts := [.str, .str, .bool, .slice 4], offs := [(0, 9), (1, 9), (2, 4), (3, 49)], bytes := 64 }),
  (51, { agg := true, cts := [.str, .str, .bool, .slice 4], offs := [(0, 9), (1, 9), (2, 4), (3, 49)], bytes := 64 }),
  (57, { agg := false, cts := [.slice 1], elem := some 31, bytes := 24 }),
  (58, { agg := true, cts := [.slice 1, .slice 1, .slice 1], offs := [(0, 31), (1, 57), (2, 31)], bytes := 72 }),
  (59, { agg := true, cts := [.slice 1, .slice 1, .slice 1], offs := [(0, 31), (1, 57), (2, 31)], bytes := 72 }),
  (63, { agg := true, cts := [.slice 1, .slice 1, .slice 1], offs := [(0, 31), (1, 57), (2, 31)], bytes := 72 }),
  (68, { agg := false, cts := [.slice 3], elem := some 156, bytes := 24 }),
  (69, { agg := false, cts := [.slice 2], elem := some 154, bytes := 24 }),
  (70, { agg := true, cts := [.int .i64, .slice 3, .slice 2, .slice 2], offs := [(0, 3), (1, 68), (2, 69), (3, 69)], bytes := 80 }),
  (71, { agg := true, cts := [.int .i64, .slice 3, .slice 2, .slice 2], offs := [(0, 3), (1, 68), (2, 69), (3, 69)], bytes := 80 }),
  (74, { agg := false, cts := [.slice 3], elem := some 117, bytes := 24 }),
  (75, { agg := false, cts := [.slice 2], elem := some 123, bytes := 24 }),
  (76, { agg := true, cts := [.int .i64, .slice 3, .slice 2, .slice 2], offs := [(0, 3), (1, 74), (2, 75), (3, 75)], bytes := 80 }),
  (77, { agg := true, cts := [.int .i64, .slice 3, .slice 2, .slice 2], offs := [(0, 3), (1, 74), (2, 75), (3, 75)], bytes := 80 }),
  (85, { agg := false, cts := [.slice 4], elem := some 135, bytes := 24 }),
  (88, { agg := false, cts := [.slice 4], elem := some 137, bytes := 24 }),
  (95, { agg := true, cts := [.int .i64, .int .i64], offs := [(0, 3), (1, 3)], bytes := 16 }),
  (96, { agg := true, cts := [.int .i64, .int .i64], offs := [(0, 3), (1, 3)], bytes := 16 }),
  (98, { agg := true, cts := [.int .i64, .int .i64], offs := [(0, 3), (1, 3)], bytes := 16 }),
  (104, { agg := false, cts := [.ptr], bytes := 8 }),
  (116, { agg := true, cts := [.int .i64, .int .i64, .int .i64], offs := [(0, 3), (1, 3), (2, 3)], bytes := 24 }),
  (117, { agg := true, cts := [.int .i64, .int .i64, .int .i64], offs := [(0, 3), (1, 3), (2, 3)], bytes := 24 }),
  (121, { agg := false, cts := [.slice 1], elem := some 75, bytes := 24 }),
  (122, { agg := true, cts := [.int .i64, .str], offs := [(0, 3), (1, 9)], bytes := 24 }),
  (123, { agg := true, cts := [.int .i64, .str], offs := [(0, 3), (1, 9)], bytes := 24 }),
  (134, { agg := true, cts := [.int .i64, .str, .int .i64, .slice 1], offs := [(0, 3), (1, 9), (2, 3), (3, 31)], bytes := 56 }),
  (135, { agg := true, cts := [.int .i64, .str, .int .i64, .slice 1], offs := [(0, 3), (1, 9), (2, 3), (3, 31)], bytes := 56 }),
  (137, { agg := true, cts := [.int .i64, .str, .int .i64, .slice 1], offs := [(0, 3), (1, 9), (2, 3), (3, 31)], bytes := 56 }),
  (140, { agg := false, cts := [.oth], elem := some 3, key := some 3, bytes := 8 }),
  (144, { agg := false, cts := [.ptr], bytes := 8 }),
  (145, { agg := false, cts := [.slice 1], elem := some 5, bytes := 24 }),
  (146, { agg := true, cts := [.ptr, .slice 1], offs := [(0, 144), (1, 145)], bytes := 32 }),
  (147, { agg := true, cts := [.ptr, .slice 1], offs := [(0, 144), (1, 145)], bytes := 32 }),
  (149, { agg := false, cts := [.oth], bytes := 16 }),
  (154, { agg := true, cts := [.int .i64, .str], offs := [(0, 3), (1, 9)], bytes := 24 }),
  (156, { agg := true, cts := [.int .i64, .int .i64, .int .i64], offs := [(0, 3), (1, 3), (2, 3)], bytes := 24 }),
  (161, { agg := false, cts := [.oth], elem := some 3, key := some 9, bytes := 8 }),
  (164, { agg := false, cts := [.ptr], bytes := 8 }),
  (172, { agg := false, cts := [.int .u64], bytes := 8 }),
  (173, { agg := false, cts := [.int .u32], bytes := 4 }),
  (176, { agg := true, cts := [.ptr, .ptr, .ptr, .str], offs := [(0, 17), (1, 17), (2, 17), (3, 9)], bytes := 40 }),
  (177, { agg := true, cts := [.ptr, .ptr, .ptr, .str], offs := [(0, 17), (1, 17), (2, 17), (3, 9)], bytes := 40 }),
  (182, { agg := false, cts := [.int .u8], bytes := 1 }),
  (183, { agg := false, cts := [.int .u8], bytes := 1 }),
  (185, { agg := false, cts := [.int .i32], bytes := 4 }),
  (186, { agg := false, cts := [.int .i32], bytes := 4 }),
  (187, { agg := true, cts := [.int .u64, .int .u64, .int .u32, .int .u8, .int .u8, .int .u8, .int .u8, .oth, .ptr, .int .i32, .int .i32], offs := [(0, 12), (1, 12), (2, 173), (3, 182), (4, 5), (5, 5), (6, 183), (7, 184), (8, 164), (9, 185), (10, 186)], bytes := 48 }),
  (188, { agg := true, cts := [.int .u64, .int .u64, .int .u32, .int .u8, .int .u8, .int .u8, .int .u8, .oth, .ptr, .int .i32, .int .i32], offs := [(0, 12), (1, 12), (2, 173), (3, 182), (4, 5), (5, 5), (6, 183), (7, 184), (8, 164), (9, 185), (10, 186)], bytes := 48 })]

/-- loop.example/g00037/laws.FnExactLayoutOK -/
noncomputable def fn13 : FnI := { nt := 27, res := [.tmp 2], body := (Try.f13.body.getD .skip), rts := [4] }
/-- loop.example/g00037/laws.toIntS -/
noncomputable def fn21 : FnI := { nt := 22, res := [.tmp 2], body := (Try.f21.body.getD .skip), rts := [31], frz := false, loops := [{ live := [0, 3, 4], liveX := [3] }] }
/-- loop.example/g00037/laws.eqIntS -/
noncomputable def fn24 : FnI := { nt := 26, res := [.tmp 4], body := (Try.f24.body.getD .skip), rts := [4], loops := [{ live := [0, 1, 5], liveX := [] }] }
/-- loop.example/g00037/laws.szLNodeS -/
noncomputable def fn54 : FnI := { nt := 27, res := [.tmp 4], body := (Try.f54.body.getD .skip), rts := [3], loops := [{ live := [0, 1, 5], liveX := [1] }] }
/-- loop.example/g00037/spec.LayoutOK -/
noncomputable def fn55 : FnI := { nt := 124, res := [.tmp 2], body := (Try.f55.body.getD .skip), rts := [4], loops := [{ live := [0, 3, 4], liveX := [0, 3] }, { live := [0, 3, 4, 5, 6, 7], liveX := [0, 3, 4] }, { live := [0, 3, 8], liveX := [] }] }
/-- loop.example/g00037/laws.toLNodeS -/
noncomputable def fn56 : FnI := { nt := 23, res := [.tmp 2], body := (Try.f56.body.getD .skip), rts := [88], frz := false, loops := [{ live := [0, 3, 4], liveX := [3] }] }
/-- loop.example/g00037/impl.LayoutOK -/
noncomputable def fn57 : FnI := { nt := 36, res := [.tmp 2], body := (Try.f57.body.getD .skip), rts := [4], frz := false, loops := [{ live := [0, 3, 20, 21], liveX := [0, 3] }] }
/-- loop.example/g00037/laws.eqLNodeS -/
noncomputable def fn58 : FnI := { nt := 27, res := [.tmp 4], body := (Try.f58.body.getD .skip), rts := [4], loops := [{ live := [0, 1, 5], liveX := [] }] }
/-- loop.example/g00037/spec.l01Between -/
noncomputable def fn61 : FnI := { nt := 15, res := [.tmp 6], body := (Try.f61.body.getD .skip), rts := [4] }
/-- loop.example/g00037/laws.szIntS -/
noncomputable def fn72 : FnI := { nt := 12, res := [.tmp 4], body := (Try.f72.body.getD .skip), rts := [3] }
/-- loop.example/g00037/laws.szLNode -/
noncomputable def fn99 : FnI := { nt := 19, res := [.tmp 4], body := (Try.f99.body.getD .skip), rts := [3] }
/-- loop.example/g00037/spec.l14Groups -/
noncomputable def fn100 : FnI := { nt := 20, res := [.tmp 2], body := (Try.f100.body.getD .skip), rts := [3], loops := [{ live := [0, 3, 4], liveX := [3] }] }
/-- loop.example/g00037/spec.l02In -/
noncomputable def fn101 : FnI := { nt := 17, res := [.tmp 4], body := (Try.f101.body.getD .skip), rts := [4], loops := [{ live := [0, 1, 5], liveX := [] }] }
/-- loop.example/g00037/laws.toLNode -/
noncomputable def fn102 : FnI := { nt := 18, res := [.cell 2 137], body := (Try.f102.body.getD .skip), rts := [137], frz := false }
/-- loop.example/g00037/impl.groups -/
noncomputable def fn103 : FnI := { nt := 19, res := [.tmp 2], body := (Try.f103.body.getD .skip), rts := [3], frz := false, loops := [{ live := [3, 6, 7, 8], liveX := [3] }] }
/-- loop.example/g00037/impl.layoutNode -/
noncomputable def fn104 : FnI := { nt := 128, res := [.tmp 6], body := (Try.f104.body.getD .skip), rts := [4], frz := false, muts := [2], loops := [{ live := [1, 2, 106, 107, 108], liveX := [] }] }
/-- loop.example/g00037/laws.eqLNode -/
noncomputable def fn105 : FnI := { nt := 26, res := [.tmp 4], body := (Try.f105.body.getD .skip), rts := [4] }
/-- strings.Contains -/
noncomputable def fn123 : FnI := { nt := 9, res := [.tmp 4], body := (Try.f123.body.getD .skip), rts := [4] }
/-- strings.Index -/
noncomputable def fn130 : FnI := { nt := 8, res := [.tmp 4], body := (Try.f130.body.getD .skip), rts := [3] }
/-- internal/stringslite.Index -/
noncomputable def fn133 : FnI := { nt := 143, res := [.tmp 4], body := (Try.f133.body.getD .skip), rts := [3], loops := [{ live := [0, 1, 5, 6, 7, 8, 9, 10], liveX := [] }] }
/-- internal/stringslite.IndexByte -/
noncomputable def fn134 : FnI := { nt := 8, res := [.tmp 4], body := (Try.f134.body.getD .skip), rts := [3] }
/-- internal/bytealg.Cutover -/
noncomputable def fn136 : FnI := { nt := 6, res := [.tmp 2], body := (Try.f136.body.getD .skip), rts := [3] }
/-- internal/bytealg.IndexRabinKarp[string] -/
noncomputable def fn137 : FnI := { nt := 81, res := [.tmp 4], body := (Try.f137.body.getD .skip), rts := [3], loops := [{ live := [0, 1, 5, 6, 7, 8, 9], liveX := [0, 1, 5, 6, 7, 8] }, { live := [0, 1, 5, 6, 7, 8, 10], liveX := [] }] }
/-- internal/bytealg.hashStr[string] -/
noncomputable def fn139 : FnI := { nt := 39, res := [.tmp 2, .tmp 3], body := (Try.f139.body.getD .skip), rts := [173, 173], loops := [{ live := [0, 4, 5], liveX := [0, 4] }, { live := [4, 6, 7, 8], liveX := [4, 6] }] }

noncomputable def ctx : Ctx := { tab := tab, fns := [(13, fn13), (21, fn21), (24, fn24), (54, fn54), (55, fn55), (56, fn56), (57, fn57), (58, fn58), (61, fn61), (72, fn72), (99, fn99), (100, fn100), (101, fn101), (102, fn102), (103, fn103), (104, fn104), (105, fn105), (123, fn123), (130, fn130), (133, fn133), (134, fn134), (136, fn136), (137, fn137), (139, fn139)], idxB := some 138 }

end Go.Proofs.Ytlaalinfmhiehaa
