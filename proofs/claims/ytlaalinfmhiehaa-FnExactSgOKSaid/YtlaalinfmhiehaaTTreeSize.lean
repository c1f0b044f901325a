/- What each function computes, a call or a round at a time; checked by the kernel; no condition. -/
import Derived.Test.YtlaalinfmhiehaaTA
namespace Go.Proofs.Ytlaalinfmhiehaa
open Go.VK AVal
theorem ul_FnExactTreeSize (x0 : ByteArray) (x1 : ByteArray) (x2 : Bool) (x3 : List AVal) {y : Bool}
    (h : ((Fl_szTree x0 x1 x2 x3 1048576).bind fun r1 => bif (decide (r1 < 0)) then (some true) else ((Fl_toTree x0 x1 x2 x3).bind fun r2 => (Fs_TreeSize r2.1 r2.2.1 r2.2.2.1 (asRoL r2.2.2.2)).bind fun r3 => (Fl_toTree x0 x1 x2 x3).bind fun r4 => (Fi_TreeSize r4.1 r4.2.1 r4.2.2.1 (asRoL r4.2.2.2)).bind fun r5 => bif (!(decide (r5.1 = r3.1))) then (some false) else (bif (!(decide (r5.2.1 = r3.2.1))) then (some false) else (bif (!(decide (r5.2.2 = r3.2.2))) then (some false) else ((Fl_toTree x0 x1 x2 x3).bind fun r6 => (Fl_eqTree r4.1 r4.2.1 r4.2.2.1 (asRoL r4.2.2.2) r6.1 r6.2.1 r6.2.2.1 (asRoL r6.2.2.2)).bind fun r7 => bif (!r7) then (some false) else (some true))))) : Option (Bool)) = some y) : Fl_FnExactTreeSize x0 x1 x2 x3 = some y :=
  fn_of (cs := sigs) (ls := lsl_FnExactTreeSize) (fn := fn7) (S := sgl_FnExactTreeSize) (x := (x0, x1, x2, x3)) (by kernel_rfl) (np := 0) (by kernel_rfl) (Eq.trans (by kernel_rfl) h)
theorem us_TreeSize (x0 : ByteArray) (x1 : ByteArray) (x2 : Bool) (x3 : List AVal) {y : Int × Int × Int}
    (h : ((Fs_TreeOK x0 x1 x2 x3).bind fun r1 => bif (!r1) then (some (0, 0, 1)) else ((Fs_l01Count x0 x1 x2 x3).bind fun r2 => (Fs_l01Deep x0 x1 x2 x3).bind fun r3 => some (r2, r3, 0)) : Option (Int × Int × Int)) = some y) : Fs_TreeSize x0 x1 x2 x3 = some y :=
  fn_of (cs := sigs) (ls := lss_TreeSize) (fn := fn34) (S := sgs_TreeSize) (x := (x0, x1, x2, x3)) (by kernel_rfl) (np := 0) (by kernel_rfl) (Eq.trans (by kernel_rfl) h)
theorem ui_TreeSize (x0 : ByteArray) (x1 : ByteArray) (x2 : Bool) (x3 : List AVal) {y : Int × Int × Int}
    (h : ((Fi_measure x0 x1 x2 x3 1 0 0).bind fun r1 => bif (!r1.1) then (some (0, 0, 1)) else (some (r1.2.1, r1.2.2, 0)) : Option (Int × Int × Int)) = some y) : Fi_TreeSize x0 x1 x2 x3 = some y :=
  fn_of (cs := sigs) (ls := lsi_TreeSize) (fn := fn35) (S := sgi_TreeSize) (x := (x0, x1, x2, x3)) (by kernel_rfl) (np := 0) (by kernel_rfl) (Eq.trans (by kernel_rfl) h)
theorem ls_l01Count_0 (x0 : Int) (x1 : Int) (x2 : ByteArray) (x3 : ByteArray) (x4 : Bool) (x5 : List AVal) {y : Int}
    (h : (bif (decide (x1 < ((x5.length : Nat) : Int))) then (bif ((decide (0 ≤ x1)) && (decide (x1 < ((x5.length : Nat) : Int)))) then (bif (shapes [.str, .str, .bool, .slice 4] (((x5.getD x1.toNat .und).cells.drop 0).take 4)) then ((Fs_l01Count (((x5.getD x1.toNat .und).cell 0).toStr) (((x5.getD x1.toNat .und).cell 1).toStr) (((x5.getD x1.toNat .und).cell 2).toBool) (((x5.getD x1.toNat .und).cell 3).elems)).bind fun r1 => Ls_l01Count_0 (IntKind.wrap .i64 (x0 + r1)) (IntKind.wrap .i64 (x1 + 1)) x2 x3 x4 x5) else none) else none) else (some x0) : Option (Int)) = some y) : Ls_l01Count_0 x0 x1 x2 x3 x4 x5 = some y :=
  lp_of (cs := sigs) (ls := lss_l01Count) (S := Ss_l01Count_0) (Ss := [Ss_l01Count_0]) (x := (x0, x1, x2, x3, x4, x5)) (by kernel_rfl) (Eq.trans (by kernel_rfl) h)
theorem us_l01Count (x0 : ByteArray) (x1 : ByteArray) (x2 : Bool) (x3 : List AVal) {y : Int}
    (h : ((Ls_l01Count_0 1 0 x0 x1 x2 x3).bind fun e2 => some e2 : Option (Int)) = some y) : Fs_l01Count x0 x1 x2 x3 = some y :=
  fn_of (cs := sigs) (ls := lss_l01Count) (fn := fn70) (S := sgs_l01Count) (x := (x0, x1, x2, x3)) (by kernel_rfl) (np := 0) (by kernel_rfl) (Eq.trans (by kernel_rfl) h)
theorem ls_l01Deep_0 (x0 : Int) (x1 : Int) (x2 : ByteArray) (x3 : ByteArray) (x4 : Bool) (x5 : List AVal) {y : Int}
    (h : (bif (decide (x1 < ((x5.length : Nat) : Int))) then (bif ((decide (0 ≤ x1)) && (decide (x1 < ((x5.length : Nat) : Int)))) then (bif (shapes [.str, .str, .bool, .slice 4] (((x5.getD x1.toNat .und).cells.drop 0).take 4)) then ((Fs_l01Deep (((x5.getD x1.toNat .und).cell 0).toStr) (((x5.getD x1.toNat .und).cell 1).toStr) (((x5.getD x1.toNat .und).cell 2).toBool) (((x5.getD x1.toNat .und).cell 3).elems)).bind fun r1 => bif (decide (x0 < r1)) then (Ls_l01Deep_0 r1 (IntKind.wrap .i64 (x1 + 1)) x2 x3 x4 x5) else (Ls_l01Deep_0 x0 (IntKind.wrap .i64 (x1 + 1)) x2 x3 x4 x5)) else none) else none) else (some x0) : Option (Int)) = some y) : Ls_l01Deep_0 x0 x1 x2 x3 x4 x5 = some y :=
  lp_of (cs := sigs) (ls := lss_l01Deep) (S := Ss_l01Deep_0) (Ss := [Ss_l01Deep_0]) (x := (x0, x1, x2, x3, x4, x5)) (by kernel_rfl) (Eq.trans (by kernel_rfl) h)
theorem us_l01Deep (x0 : ByteArray) (x1 : ByteArray) (x2 : Bool) (x3 : List AVal) {y : Int}
    (h : ((Ls_l01Deep_0 0 0 x0 x1 x2 x3).bind fun e2 => some (IntKind.wrap .i64 (e2 + 1)) : Option (Int)) = some y) : Fs_l01Deep x0 x1 x2 x3 = some y :=
  fn_of (cs := sigs) (ls := lss_l01Deep) (fn := fn71) (S := sgs_l01Deep) (x := (x0, x1, x2, x3)) (by kernel_rfl) (np := 0) (by kernel_rfl) (Eq.trans (by kernel_rfl) h)
end Go.Proofs.Ytlaalinfmhiehaa
