/- What each function computes, a call or a round at a time; checked by the kernel; no condition. -/
import Derived.Test.YtlaalinfmhiehaaTA
namespace Go.Proofs.Ytlaalinfmhiehaa
open Go.VK AVal
theorem u7 (x0 : ByteArray) (x1 : ByteArray) (x2 : Bool) (x3 : List AVal) {y : Bool}
    (h : ((F29 x0 x1 x2 x3 1048576).bind fun r1 => bif (decide (r1 < 0)) then (some true) else ((F31 x0 x1 x2 x3).bind fun r2 => (F34 r2.1 r2.2.1 r2.2.2.1 (asRoL r2.2.2.2)).bind fun r3 => (F31 x0 x1 x2 x3).bind fun r4 => (F35 r4.1 r4.2.1 r4.2.2.1 (asRoL r4.2.2.2)).bind fun r5 => bif (!(decide (r5.1 = r3.1))) then (some false) else (bif (!(decide (r5.2.1 = r3.2.1))) then (some false) else (bif (!(decide (r5.2.2 = r3.2.2))) then (some false) else ((F31 x0 x1 x2 x3).bind fun r6 => (F33 r4.1 r4.2.1 r4.2.2.1 (asRoL r4.2.2.2) r6.1 r6.2.1 r6.2.2.1 (asRoL r6.2.2.2)).bind fun r7 => bif (!r7) then (some false) else (some true))))) : Option (Bool)) = some y) : F7 x0 x1 x2 x3 = some y :=
  fn_of (cs := sigs) (ls := ls7) (fn := fn7) (S := sg7) (x := (x0, x1, x2, x3)) (by kernel_rfl) (np := 0) (by kernel_rfl) (Eq.trans (by kernel_rfl) h)
theorem u34 (x0 : ByteArray) (x1 : ByteArray) (x2 : Bool) (x3 : List AVal) {y : Int × Int × Int}
    (h : ((F30 x0 x1 x2 x3).bind fun r1 => bif (!r1) then (some (0, 0, 1)) else ((F70 x0 x1 x2 x3).bind fun r2 => (F71 x0 x1 x2 x3).bind fun r3 => some (r2, r3, 0)) : Option (Int × Int × Int)) = some y) : F34 x0 x1 x2 x3 = some y :=
  fn_of (cs := sigs) (ls := ls34) (fn := fn34) (S := sg34) (x := (x0, x1, x2, x3)) (by kernel_rfl) (np := 0) (by kernel_rfl) (Eq.trans (by kernel_rfl) h)
theorem u35 (x0 : ByteArray) (x1 : ByteArray) (x2 : Bool) (x3 : List AVal) {y : Int × Int × Int}
    (h : ((F68 x0 x1 x2 x3 1 0 0).bind fun r1 => bif (!r1.1) then (some (0, 0, 1)) else (some (r1.2.1, r1.2.2, 0)) : Option (Int × Int × Int)) = some y) : F35 x0 x1 x2 x3 = some y :=
  fn_of (cs := sigs) (ls := ls35) (fn := fn35) (S := sg35) (x := (x0, x1, x2, x3)) (by kernel_rfl) (np := 0) (by kernel_rfl) (Eq.trans (by kernel_rfl) h)
theorem l70_0 (x0 : Int) (x1 : Int) (x2 : ByteArray) (x3 : ByteArray) (x4 : Bool) (x5 : List AVal) {y : Int}
    (h : (bif (decide (x1 < ((x5.length : Nat) : Int))) then (bif ((decide (0 ≤ x1)) && (decide (x1 < ((x5.length : Nat) : Int)))) then (bif (shapes [.str, .str, .bool, .slice 4] (((x5.getD x1.toNat .und).cells.drop 0).take 4)) then ((F70 (((x5.getD x1.toNat .und).cell 0).toStr) (((x5.getD x1.toNat .und).cell 1).toStr) (((x5.getD x1.toNat .und).cell 2).toBool) (((x5.getD x1.toNat .und).cell 3).elems)).bind fun r1 => L70_0 (IntKind.wrap .i64 (x0 + r1)) (IntKind.wrap .i64 (x1 + 1)) x2 x3 x4 x5) else none) else none) else (some x0) : Option (Int)) = some y) : L70_0 x0 x1 x2 x3 x4 x5 = some y :=
  lp_of (cs := sigs) (ls := ls70) (S := S70_0) (Ss := [S70_0]) (x := (x0, x1, x2, x3, x4, x5)) (by kernel_rfl) (Eq.trans (by kernel_rfl) h)
theorem u70 (x0 : ByteArray) (x1 : ByteArray) (x2 : Bool) (x3 : List AVal) {y : Int}
    (h : ((L70_0 1 0 x0 x1 x2 x3).bind fun e2 => some e2 : Option (Int)) = some y) : F70 x0 x1 x2 x3 = some y :=
  fn_of (cs := sigs) (ls := ls70) (fn := fn70) (S := sg70) (x := (x0, x1, x2, x3)) (by kernel_rfl) (np := 0) (by kernel_rfl) (Eq.trans (by kernel_rfl) h)
theorem l71_0 (x0 : Int) (x1 : Int) (x2 : ByteArray) (x3 : ByteArray) (x4 : Bool) (x5 : List AVal) {y : Int}
    (h : (bif (decide (x1 < ((x5.length : Nat) : Int))) then (bif ((decide (0 ≤ x1)) && (decide (x1 < ((x5.length : Nat) : Int)))) then (bif (shapes [.str, .str, .bool, .slice 4] (((x5.getD x1.toNat .und).cells.drop 0).take 4)) then ((F71 (((x5.getD x1.toNat .und).cell 0).toStr) (((x5.getD x1.toNat .und).cell 1).toStr) (((x5.getD x1.toNat .und).cell 2).toBool) (((x5.getD x1.toNat .und).cell 3).elems)).bind fun r1 => bif (decide (x0 < r1)) then (L71_0 r1 (IntKind.wrap .i64 (x1 + 1)) x2 x3 x4 x5) else (L71_0 x0 (IntKind.wrap .i64 (x1 + 1)) x2 x3 x4 x5)) else none) else none) else (some x0) : Option (Int)) = some y) : L71_0 x0 x1 x2 x3 x4 x5 = some y :=
  lp_of (cs := sigs) (ls := ls71) (S := S71_0) (Ss := [S71_0]) (x := (x0, x1, x2, x3, x4, x5)) (by kernel_rfl) (Eq.trans (by kernel_rfl) h)
theorem u71 (x0 : ByteArray) (x1 : ByteArray) (x2 : Bool) (x3 : List AVal) {y : Int}
    (h : ((L71_0 0 0 x0 x1 x2 x3).bind fun e2 => some (IntKind.wrap .i64 (e2 + 1)) : Option (Int)) = some y) : F71 x0 x1 x2 x3 = some y :=
  fn_of (cs := sigs) (ls := ls71) (fn := fn71) (S := sg71) (x := (x0, x1, x2, x3)) (by kernel_rfl) (np := 0) (by kernel_rfl) (Eq.trans (by kernel_rfl) h)
end Go.Proofs.Ytlaalinfmhiehaa
