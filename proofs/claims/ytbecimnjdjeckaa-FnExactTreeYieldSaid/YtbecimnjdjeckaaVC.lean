import Derived.Test.YtbecimnjdjeckaaVmd
import Derived.Test.YtbecimnjdjeckaaProg
namespace Go.Proofs.Ytbecimnjdjeckaa
open Go.VK

def tab : List (Nat × TI) := [
  (2, { agg := false, cts := [.int .i64], bytes := 8 }),
  (3, { agg := false, cts := [.int .i64], bytes := 8 }),
  (4, { agg := false, cts := [.bool], bytes := 1 }),
  (5, { agg := false, cts := [.int .u8], bytes := 1 }),
  (6, { agg := false, cts := [.int .u8], bytes := 1 }),
  (7, { agg := true, cts := [.int .i64, .int .i64, .bool, .int .u8], offs := [(0, 2), (1, 3), (2, 4), (3, 6)], bytes := 24 }),
  (8, { agg := true, cts := [.int .i64, .int .i64, .bool, .int .u8], offs := [(0, 2), (1, 3), (2, 4), (3, 6)], bytes := 24 }),
  (9, { agg := false, cts := [.str], bytes := 16 }),
  (10, { agg := false, cts := [.str], bytes := 16 }),
  (11, { agg := false, cts := [.str], bytes := 16 }),
  (12, { agg := false, cts := [.int .u64], bytes := 8 }),
  (13, { agg := true, cts := [.str, .int .u64], offs := [(0, 9), (1, 12)], bytes := 24 }),
  (14, { agg := true, cts := [.str, .int .u64], offs := [(0, 9), (1, 12)], bytes := 24 }),
  (15, { agg := false, cts := [.ptr], bytes := 8 }),
  (16, { agg := false, cts := [.ptr], bytes := 8 }),
  (17, { agg := false, cts := [.ptr], bytes := 8 }),
  (18, { agg := true, cts := [.ptr], offs := [(0, 17)], bytes := 8 }),
  (19, { agg := true, cts := [.ptr], offs := [(0, 17)], bytes := 8 }),
  (21, { agg := false, cts := [.int .i32], bytes := 4 }),
  (22, { agg := false, cts := [.slice 4], elem := some 24, bytes := 24 }),
  (23, { agg := true, cts := [.str, .str, .bool, .slice 4], offs := [(0, 9), (1, 9), (2, 4), (3, 22)], bytes := 64 }),
  (24, { agg := true, cts := [.str, .str, .bool, .slice 4], offs := [(0, 9), (1, 9), (2, 4), (3, 22)], bytes := 64 }),
  (28, { agg := false, cts := [.slice 4], elem := some 30, bytes := 24 }),
  (29, { agg := true, cts := [.str, .str, .bool, .slice 4], offs := [(0, 9), (1, 9), (2, 4), (3, 28)], bytes := 64 }),
  (30, { agg := true, cts := [.str, .str, .bool, .slice 4], offs := [(0, 9), (1, 9), (2, 4), (3, 28)], bytes := 64 }),
  (41, { agg := false, cts := [.ptr], bytes := 8 }),
  (42, { agg := false, cts := [.ptr], bytes := 8 }),
  (43, { agg := false, cts := [.slice 1], elem := some 5, bytes := 24 }),
  (44, { agg := true, cts := [.ptr, .slice 1], offs := [(0, 42), (1, 43)], bytes := 32 }),
  (45, { agg := true, cts := [.ptr, .slice 1], offs := [(0, 42), (1, 43)], bytes := 32 }),
  (47, { agg := false, cts := [.oth], bytes := 16 }),
  (52, { agg := false, cts := [.ptr], bytes := 8 }),
  (56, { agg := true, cts := [.ptr, .ptr, .ptr, .str], offs := [(0, 17), (1, 17), (2, 17), (3, 9)], bytes := 40 }),
  (57, { agg := true, cts := [.ptr, .ptr, .ptr, .str], offs := [(0, 17), (1, 17), (2, 17), (3, 9)], bytes := 40 }),
  (62, { agg := false, cts := [.int .u32], bytes := 4 }),
  (63, { agg := false, cts := [.int .u8], bytes := 1 }),
  (64, { agg := false, cts := [.int .u8], bytes := 1 }),
  (66, { agg := false, cts := [.int .i32], bytes := 4 }),
  (67, { agg := false, cts := [.int .i32], bytes := 4 }),
  (68, { agg := true, cts := [.int .u64, .int .u64, .int .u32, .int .u8, .int .u8, .int .u8, .int .u8, .oth, .ptr, .int .i32, .int .i32], offs := [(0, 12), (1, 12), (2, 62), (3, 63), (4, 5), (5, 5), (6, 64), (7, 65), (8, 52), (9, 66), (10, 67)], bytes := 48 }),
  (69, { agg := true, cts := [.int .u64, .int .u64, .int .u32, .int .u8, .int .u8, .int .u8, .int .u8, .oth, .ptr, .int .i32, .int .i32], offs := [(0, 12), (1, 12), (2, 62), (3, 63), (4, 5), (5, 5), (6, 64), (7, 65), (8, 52), (9, 66), (10, 67)], bytes := 48 })]

/-- loop.example/g00037/laws.FnExactTreeYield -/
noncomputable def fn3 : FnI := { nt := 40, res := [.tmp 2], body := (Try.f3.body.getD .skip), rts := [4] }
/-- loop.example/g00037/laws.szTree -/
noncomputable def fn4 : FnI := { nt := 26, res := [.tmp 4], body := (Try.f4.body.getD .skip), rts := [3] }
/-- loop.example/g00037/spec.TreeYield -/
noncomputable def fn5 : FnI := { nt := 9, res := [.tmp 2, .tmp 3], body := (Try.f5.body.getD .skip), rts := [9, 3] }
/-- loop.example/g00037/laws.toTree -/
noncomputable def fn6 : FnI := { nt := 18, res := [.cell 2 30], body := (Try.f6.body.getD .skip), rts := [30], frz := false }
/-- loop.example/g00037/impl.TreeYield -/
noncomputable def fn7 : FnI := { nt := 9, res := [.tmp 2, .tmp 3], body := (Try.f7.body.getD .skip), rts := [9, 3], frz := false }
/-- loop.example/g00037/laws.eqTree -/
noncomputable def fn8 : FnI := { nt := 26, res := [.tmp 4], body := (Try.f8.body.getD .skip), rts := [4] }
/-- loop.example/g00037/laws.szTreeS -/
noncomputable def fn9 : FnI := { nt := 27, res := [.tmp 4], body := (Try.f9.body.getD .skip), rts := [3], loops := [{ live := [0, 1, 5], liveX := [1] }] }
/-- loop.example/g00037/spec.TreeOK -/
noncomputable def fn10 : FnI := { nt := 10, res := [.tmp 2], body := (Try.f10.body.getD .skip), rts := [4] }
/-- loop.example/g00037/spec.l01Yield -/
noncomputable def fn11 : FnI := { nt := 23, res := [.tmp 2], body := (Try.f11.body.getD .skip), rts := [9], loops := [{ live := [1, 3, 4], liveX := [3] }] }
/-- loop.example/g00037/laws.toTreeS -/
noncomputable def fn12 : FnI := { nt := 23, res := [.tmp 2], body := (Try.f12.body.getD .skip), rts := [28], frz := false, loops := [{ live := [0, 3, 4], liveX := [3] }] }
/-- loop.example/g00037/impl.TreeOK -/
noncomputable def fn13 : FnI := { nt := 7, res := [.tmp 2], body := (Try.f13.body.getD .skip), rts := [4], frz := false }
/-- loop.example/g00037/impl.yield -/
noncomputable def fn14 : FnI := { nt := 22, res := [.tmp 2], body := (Try.f14.body.getD .skip), rts := [9], frz := false, loops := [{ live := [3, 11, 12, 13], liveX := [3] }] }
/-- loop.example/g00037/laws.eqTreeS -/
noncomputable def fn15 : FnI := { nt := 27, res := [.tmp 4], body := (Try.f15.body.getD .skip), rts := [4], loops := [{ live := [0, 1, 5], liveX := [] }] }
/-- loop.example/g00037/spec.l01Room -/
noncomputable def fn16 : FnI := { nt := 33, res := [.tmp 6], body := (Try.f16.body.getD .skip), rts := [3], loops := [{ live := [1, 2, 3, 7], liveX := [1] }] }
/-- loop.example/g00037/spec.l01Right -/
noncomputable def fn17 : FnI := { nt := 48, res := [.tmp 2], body := (Try.f17.body.getD .skip), rts := [4], loops := [{ live := [1, 3], liveX := [] }] }
/-- loop.example/g00037/impl.measure -/
noncomputable def fn18 : FnI := { nt := 67, res := [.tmp 8], body := (Try.f18.body.getD .skip), rts := [4], frz := false, loops := [{ live := [1, 2, 3, 53, 54, 55], liveX := [] }] }
/-- (*strings.Builder).WriteString -/
noncomputable def fn19 : FnI := { nt := 19, res := [.tmp 4, .tmp 5], body := (Try.f19.body.getD .skip), rts := [3, 47], frz := false, muts := [0] }
/-- (*strings.Builder).String -/
noncomputable def fn20 : FnI := { nt := 14, res := [.tmp 2], body := (Try.f20.body.getD .skip), rts := [9], frz := false, muts := [0] }
/-- loop.example/g00037/spec.l01Name -/
noncomputable def fn21 : FnI := { nt := 29, res := [.tmp 2], body := (Try.f21.body.getD .skip), rts := [4], loops := [{ live := [0, 3], liveX := [] }] }
/-- loop.example/g00037/impl.nameOK -/
noncomputable def fn22 : FnI := { nt := 29, res := [.tmp 2], body := (Try.f22.body.getD .skip), rts := [4], frz := false, loops := [{ live := [0, 3], liveX := [] }] }
/-- loop.example/g00037/spec.l01Letter -/
noncomputable def fn24 : FnI := { nt := 17, res := [.tmp 2], body := (Try.f24.body.getD .skip), rts := [4] }
/-- loop.example/g00037/spec.l01NameByte -/
noncomputable def fn25 : FnI := { nt := 13, res := [.tmp 2], body := (Try.f25.body.getD .skip), rts := [4] }
/-- loop.example/g00037/impl.isLetter -/
noncomputable def fn26 : FnI := { nt := 17, res := [.tmp 2], body := (Try.f26.body.getD .skip), rts := [4], frz := false }
/-- loop.example/g00037/impl.inName -/
noncomputable def fn27 : FnI := { nt := 13, res := [.tmp 2], body := (Try.f27.body.getD .skip), rts := [4], frz := false }
/-- loop.example/g00037/spec.l01Digit -/
noncomputable def fn29 : FnI := { nt := 9, res := [.tmp 2], body := (Try.f29.body.getD .skip), rts := [4] }
/-- loop.example/g00037/impl.isDigit -/
noncomputable def fn30 : FnI := { nt := 9, res := [.tmp 2], body := (Try.f30.body.getD .skip), rts := [4], frz := false }
abbrev bT : Nat := 45
abbrev bE : Nat := 5

noncomputable def ctx : Ctx := { tab := tab, fns := [(3, fn3), (4, fn4), (5, fn5), (6, fn6), (7, fn7), (8, fn8), (9, fn9), (10, fn10), (11, fn11), (12, fn12), (13, fn13), (14, fn14), (15, fn15), (16, fn16), (17, fn17), (18, fn18), (19, fn19), (20, fn20), (21, fn21), (22, fn22), (24, fn24), (25, fn25), (26, fn26), (27, fn27), (29, fn29), (30, fn30)], bld := some (45, 5), nats := [(19, 1), (20, 3)] }

end Go.Proofs.Ytbecimnjdjeckaa
