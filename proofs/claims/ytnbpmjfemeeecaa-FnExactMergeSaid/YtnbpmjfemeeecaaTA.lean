/- What the functions of the laws are given and give back, and their names on values; no condition. -/
import Derived.Test.YtnbpmjfemeeecaaVmd
import Derived.Test.YtnbpmjfemeeecaaVC
import Derived.Tactics
namespace Go.Proofs.Ytnbpmjfemeeecaa
open Go.VK AVal

abbrev ty_int64 : Nat := 2
abbrev ty_int : Nat := 3
abbrev ty_bool : Nat := 4
abbrev ty_uint8 : Nat := 5
abbrev ty_abi_BoundsErrorCode : Nat := 6
abbrev ty_runtime_boundsError : Nat := 8
abbrev ty_string : Nat := 9
abbrev ty_runtime_errorString : Nat := 10
abbrev ty_runtime_plainError : Nat := 11
abbrev ty_uintptr : Nat := 12
abbrev ty_runtime_errorAddressString : Nat := 14
abbrev ty_P_runtime_TypeAssertionError : Nat := 15
abbrev ty_P_runtime_PanicNilError : Nat := 16
abbrev ty_P_abi_Type : Nat := 17
abbrev ty_maps_unhashableTypeError : Nat := 19
abbrev ty_int32 : Nat := 21
abbrev ty_S_laws_Tree : Nat := 22
abbrev ty_laws_Tree : Nat := 24
abbrev ty_S_S_int : Nat := 29
abbrev ty_S_laws_LNode : Nat := 38
abbrev ty_S_bool : Nat := 39
abbrev ty_S_laws_Term : Nat := 52
abbrev ty_S_string : Nat := 53
abbrev ty_S_laws_Prod : Nat := 54
abbrev ty_laws_Bnf : Nat := 56
abbrev ty_S_S_laws_Act : Nat := 67
abbrev ty_laws_Table : Nat := 69
abbrev ty_S_int : Nat := 70
abbrev ty_laws_LNode : Nat := 111
abbrev ty_map_2_int_int : Nat := 177
abbrev ty_P_int : Nat := 192
abbrev ty_S_uint8 : Nat := 199
abbrev ty_map_int_int : Nat := 202
abbrev ty_P_strings_Builder : Nat := 204
abbrev ty_strings_Builder : Nat := 206
abbrev ty_error : Nat := 208
abbrev ty_laws_Term : Nat := 215
abbrev ty_laws_Prod : Nat := 218
abbrev ty_S_S_bool : Nat := 223
abbrev ty_map_string_int : Nat := 227
abbrev ty_S_laws_Act : Nat := 238
abbrev ty_uint : Nat := 266
abbrev ty_P_uint8 : Nat := 269
abbrev ty_laws_Act : Nat := 275
abbrev ty_uint32 : Nat := 289
abbrev ty_uint64 : Nat := 292
abbrev ty_runtime_TypeAssertionError : Nat := 306
abbrev ty_abi_TFlag : Nat := 310
abbrev ty_abi_Kind : Nat := 311
abbrev ty_abi_NameOff : Nat := 313
abbrev ty_abi_TypeOff : Nat := 314
abbrev ty_abi_Type : Nat := 316
abbrev n_l_FnExactMerge : Nat := 3
abbrev n_l_FnExactSet : Nat := 4
abbrev n_l_FnExactLayout : Nat := 5
abbrev n_l_FnExactCyclic : Nat := 6
abbrev n_l_FnExactParse : Nat := 7
abbrev n_l_FnExactExpected : Nat := 8
abbrev n_l_FnExactRxOK : Nat := 9
abbrev n_l_FnExactDiff : Nat := 10
/-- laws.FnExactMerge -/
def sgl_FnExactMerge : Sig := { i := { vs := [.agg [.str, .str, .bool, .ro false 4], .agg [.str, .str, .bool, .ro false 4], .agg [.str, .str, .bool, .ro false 4]] }, o := { vs := [.bool] } }
/-- laws.szTree -/
def sgl_szTree : Sig := { i := { vs := [.agg [.str, .str, .bool, .ro false 4], .int .i64] }, o := { vs := [.int .i64] } }
/-- laws.toTree -/
def sgl_toTree : Sig := { i := { vs := [.agg [.str, .str, .bool, .ro false 4]] }, o := { vs := [.agg [.str, .str, .bool, .own 4]] } }
/-- spec.Merge -/
def sgs_Merge : Sig := { i := { vs := [.agg [.str, .str, .bool, .ro false 4], .agg [.str, .str, .bool, .ro false 4], .agg [.str, .str, .bool, .ro false 4]] }, o := { vs := [.agg [.str, .str, .bool, .ro false 4], .ro false 1, .int .i64] } }
/-- impl.Merge -/
def sgi_Merge : Sig := { i := { vs := [.agg [.str, .str, .bool, .ro false 4], .agg [.str, .str, .bool, .ro false 4], .agg [.str, .str, .bool, .ro false 4]] }, o := { vs := [.agg [.str, .str, .bool, .own 4], .own 1, .int .i64] } }
/-- laws.eqTree -/
def sgl_eqTree : Sig := { i := { vs := [.agg [.str, .str, .bool, .ro false 4], .agg [.str, .str, .bool, .ro false 4]] }, o := { vs := [.bool] } }
/-- laws.eqIntSS -/
def sgl_eqIntSS : Sig := { i := { vs := [.ro false 1, .ro false 1] }, o := { vs := [.bool] } }
/-- laws.markTree -/
def sgl_markTree : Sig := { i := { vs := [.agg [.str, .str, .bool, .ref 0 []], .int .i64], os := [(false, .own 4)] }, o := { vs := [.int .i64], os := [(false, .own 4)] } }
/-- laws.markIntSS -/
def sgl_markIntSS : Sig := { i := { vs := [.ref 0 [], .int .i64], os := [(false, .own 1)] }, o := { vs := [.int .i64], os := [(false, .own 1)] } }
/-- laws.heldTree -/
def sgl_heldTree : Sig := { i := { vs := [.agg [.str, .str, .bool, .ro false 4], .int .i64] }, o := { vs := [.int .i64] } }
/-- laws.heldIntSS -/
def sgl_heldIntSS : Sig := { i := { vs := [.ro false 1, .int .i64] }, o := { vs := [.int .i64] } }
/-- laws.szTreeS -/
def sgl_szTreeS : Sig := { i := { vs := [.ro false 4, .int .i64] }, o := { vs := [.int .i64] } }
/-- laws.toTreeS -/
def sgl_toTreeS : Sig := { i := { vs := [.ro false 4] }, o := { vs := [.own 4] } }
/-- spec.TreeOK -/
def sgs_TreeOK : Sig := { i := { vs := [.agg [.str, .str, .bool, .ro false 4]] }, o := { vs := [.bool] } }
/-- spec.l15Merger).trees -/
def sgs_l15Merger_trees : Sig := { i := { vs := [.ptr 0 [] none, .agg [.str, .str, .bool, .ro false 4], .agg [.str, .str, .bool, .ro false 4], .agg [.str, .str, .bool, .ro false 4], .ro false 1], os := [(true, .agg [.own 1])] }, o := { vs := [.agg [.str, .str, .bool, .ro false 4]], os := [(true, .agg [.own 1])] } }
/-- spec.l01Copy -/
def sgs_l01Copy : Sig := { i := { vs := [.agg [.str, .str, .bool, .ro false 4]] }, o := { vs := [.agg [.str, .str, .bool, .ro false 4]] } }
/-- impl.TreeOK -/
def sgi_TreeOK : Sig := { i := { vs := [.agg [.str, .str, .bool, .ro false 4]] }, o := { vs := [.bool] } }
/-- impl.merger).merge -/
def sgi_merger_merge : Sig := { i := { vs := [.ptr 0 [] none, .agg [.str, .str, .bool, .ro false 4], .agg [.str, .str, .bool, .ro false 4], .agg [.str, .str, .bool, .ro false 4], .ro false 1], os := [(true, .agg [.own 1])] }, o := { vs := [.agg [.str, .str, .bool, .ro false 4]], os := [(true, .agg [.own 1])] } }
/-- impl.copyTree -/
def sgi_copyTree : Sig := { i := { vs := [.agg [.str, .str, .bool, .ro false 4]] }, o := { vs := [.agg [.str, .str, .bool, .own 4]] } }
/-- laws.eqTreeS -/
def sgl_eqTreeS : Sig := { i := { vs := [.ro false 4, .ro false 4] }, o := { vs := [.bool] } }
/-- laws.eqIntS -/
def sgl_eqIntS : Sig := { i := { vs := [.ro false 1, .ro false 1] }, o := { vs := [.bool] } }
/-- laws.markTreeS -/
def sgl_markTreeS : Sig := { i := { vs := [.ref 0 [], .int .i64], os := [(false, .own 4)] }, o := { vs := [.int .i64], os := [(false, .own 4)] } }
/-- laws.markIntS -/
def sgl_markIntS : Sig := { i := { vs := [.ref 0 [], .int .i64], os := [(false, .own 1)] }, o := { vs := [.int .i64], os := [(false, .own 1)] } }
/-- laws.heldTreeS -/
def sgl_heldTreeS : Sig := { i := { vs := [.ro false 4, .int .i64] }, o := { vs := [.int .i64] } }
/-- laws.heldIntS -/
def sgl_heldIntS : Sig := { i := { vs := [.ro false 1, .int .i64] }, o := { vs := [.int .i64] } }
/-- spec.l01Room -/
def sgs_l01Room : Sig := { i := { vs := [.agg [.str, .str, .bool, .ro false 4], .int .i64, .int .i64] }, o := { vs := [.int .i64] } }
/-- spec.l01Right -/
def sgs_l01Right : Sig := { i := { vs := [.agg [.str, .str, .bool, .ro false 4]] }, o := { vs := [.bool] } }
/-- spec.l01Same -/
def sgs_l01Same : Sig := { i := { vs := [.agg [.str, .str, .bool, .ro false 4], .agg [.str, .str, .bool, .ro false 4]] }, o := { vs := [.bool] } }
/-- spec.l15Merger).lists -/
def sgs_l15Merger_lists : Sig := { i := { vs := [.ptr 0 [] none, .ro false 4, .ro false 4, .ro false 4, .ro false 1], os := [(true, .agg [.own 1])] }, o := { vs := [.ro false 4], os := [(true, .agg [.own 1])] } }
/-- spec.l01Node -/
def sgs_l01Node : Sig := { i := { vs := [.str, .ro false 4] }, o := { vs := [.agg [.str, .str, .bool, .ro false 4]] } }
/-- spec.l15Merger).clash -/
def sgs_l15Merger_clash : Sig := { i := { vs := [.ptr 0 [] none, .ro false 1], os := [(true, .agg [.own 1])] }, o := { vs := [], os := [(true, .agg [.own 1])] } }
/-- impl.measure -/
def sgi_measure : Sig := { i := { vs := [.agg [.str, .str, .bool, .ro false 4], .int .i64, .ptr 0 [] none, .ptr 1 [] none], os := [(true, .int .i64), (true, .int .i64)] }, o := { vs := [.bool], os := [(true, .int .i64), (true, .int .i64)] } }
/-- impl.same -/
def sgi_same : Sig := { i := { vs := [.agg [.str, .str, .bool, .ro false 4], .agg [.str, .str, .bool, .ro false 4]] }, o := { vs := [.bool] } }
/-- impl.merger).clash -/
def sgi_merger_clash : Sig := { i := { vs := [.ptr 0 [] none, .ro false 1], os := [(true, .agg [.own 1])] }, o := { vs := [], os := [(true, .agg [.own 1])] } }
/-- impl.matched -/
def sgi_matched : Sig := { i := { vs := [.ro false 4, .ro false 4] }, o := { vs := [.own 1] } }
/-- impl.merger).stretch -/
def sgi_merger_stretch : Sig := { i := { vs := [.ptr 0 [] none, .ptr 1 [] none, .ro false 4, .ro false 4, .ro false 4, .ro false 1], os := [(true, .agg [.own 1]), (true, .agg [.str, .str, .bool, .own 4])] }, o := { vs := [], os := [(true, .agg [.own 1]), (true, .agg [.str, .str, .bool, .own 4])] } }
/-- laws.markText -/
def sgl_markText : Sig := { i := { vs := [.int .i64] }, o := { vs := [.str] } }
/-- spec.l01Name -/
def sgs_l01Name : Sig := { i := { vs := [.str] }, o := { vs := [.bool] } }
/-- spec.l15Match -/
def sgs_l15Match : Sig := { i := { vs := [.ro false 4, .ro false 4] }, o := { vs := [.ro false 1] } }
/-- spec.l15Merger).stretch -/
def sgs_l15Merger_stretch : Sig := { i := { vs := [.ptr 0 [] none, .ro false 4, .ro false 4, .ro false 4, .ro false 1, .int .i64], os := [(true, .agg [.own 1])] }, o := { vs := [.ro false 4], os := [(true, .agg [.own 1])] } }
/-- impl.nameOK -/
def sgi_nameOK : Sig := { i := { vs := [.str] }, o := { vs := [.bool] } }
/-- impl.sameList -/
def sgi_sameList : Sig := { i := { vs := [.ro false 4, .ro false 4] }, o := { vs := [.bool] } }
/-- impl.merger).stretch$1 -/
def sgi_merger_stretch_1 : Sig := { i := { vs := [.int .i64, .ptr 0 [] none], os := [(true, .ro false 1)] }, o := { vs := [.ro false 1], os := [(true, .ro false 1)] } }
/-- spec.l01Letter -/
def sgs_l01Letter : Sig := { i := { vs := [.int .u8] }, o := { vs := [.bool] } }
/-- spec.l01NameByte -/
def sgs_l01NameByte : Sig := { i := { vs := [.int .u8] }, o := { vs := [.bool] } }
/-- spec.l15SameList -/
def sgs_l15SameList : Sig := { i := { vs := [.ro false 4, .ro false 4] }, o := { vs := [.bool] } }
/-- spec.l12Down -/
def sgs_l12Down : Sig := { i := { vs := [.ro false 1, .int .i64] }, o := { vs := [.ro false 1] } }
/-- impl.isLetter -/
def sgi_isLetter : Sig := { i := { vs := [.int .u8] }, o := { vs := [.bool] } }
/-- impl.inName -/
def sgi_inName : Sig := { i := { vs := [.int .u8] }, o := { vs := [.bool] } }
/-- spec.l01Digit -/
def sgs_l01Digit : Sig := { i := { vs := [.int .u8] }, o := { vs := [.bool] } }
/-- impl.isDigit -/
def sgi_isDigit : Sig := { i := { vs := [.int .u8] }, o := { vs := [.bool] } }
def sigs : List (Nat × Sig) := [(3, sgl_FnExactMerge), (11, sgl_szTree), (13, sgl_toTree), (12, sgs_Merge), (14, sgi_Merge), (15, sgl_eqTree), (16, sgl_eqIntSS), (17, sgl_markTree), (18, sgl_markIntSS), (19, sgl_heldTree), (20, sgl_heldIntSS), (55, sgl_szTreeS), (59, sgl_toTreeS), (56, sgs_TreeOK), (57, sgs_l15Merger_trees), (58, sgs_l01Copy), (60, sgi_TreeOK), (61, sgi_merger_merge), (62, sgi_copyTree), (63, sgl_eqTreeS), (40, sgl_eqIntS), (64, sgl_markTreeS), (44, sgl_markIntS), (65, sgl_heldTreeS), (45, sgl_heldIntS), (123, sgs_l01Room), (124, sgs_l01Right), (125, sgs_l01Same), (127, sgs_l15Merger_lists), (126, sgs_l01Node), (128, sgs_l15Merger_clash), (129, sgi_measure), (130, sgi_same), (131, sgi_merger_clash), (132, sgi_matched), (133, sgi_merger_stretch), (134, sgl_markText), (148, sgs_l01Name), (181, sgs_l15Match), (182, sgs_l15Merger_stretch), (153, sgi_nameOK), (184, sgi_sameList), (183, sgi_merger_stretch_1), (193, sgs_l01Letter), (194, sgs_l01NameByte), (208, sgs_l15SameList), (209, sgs_l12Down), (198, sgi_isLetter), (199, sgi_inName), (216, sgs_l01Digit), (217, sgi_isDigit)]
noncomputable def Fl_FnExactMerge (x0 : ByteArray) (x1 : ByteArray) (x2 : Bool) (x3 : List AVal) (x4 : ByteArray) (x5 : ByteArray) (x6 : Bool) (x7 : List AVal) (x8 : ByteArray) (x9 : ByteArray) (x10 : Bool) (x11 : List AVal) : Option (Bool) := FnV ctx 3 sgl_FnExactMerge (x0, x1, x2, x3, x4, x5, x6, x7, x8, x9, x10, x11)
def lsl_FnExactMerge : List LSig := []
noncomputable def Fl_szTree (x0 : ByteArray) (x1 : ByteArray) (x2 : Bool) (x3 : List AVal) (x4 : Int) : Option (Int) := FnV ctx 11 sgl_szTree (x0, x1, x2, x3, x4)
def lsl_szTree : List LSig := []
noncomputable def Fl_toTree (x0 : ByteArray) (x1 : ByteArray) (x2 : Bool) (x3 : List AVal) : Option (ByteArray × ByteArray × Bool × List AVal) := FnV ctx 13 sgl_toTree (x0, x1, x2, x3)
def lsl_toTree : List LSig := []
noncomputable def Fs_Merge (x0 : ByteArray) (x1 : ByteArray) (x2 : Bool) (x3 : List AVal) (x4 : ByteArray) (x5 : ByteArray) (x6 : Bool) (x7 : List AVal) (x8 : ByteArray) (x9 : ByteArray) (x10 : Bool) (x11 : List AVal) : Option (ByteArray × ByteArray × Bool × List AVal × List AVal × Int) := FnV ctx 12 sgs_Merge (x0, x1, x2, x3, x4, x5, x6, x7, x8, x9, x10, x11)
def lss_Merge : List LSig := []
noncomputable def Fi_Merge (x0 : ByteArray) (x1 : ByteArray) (x2 : Bool) (x3 : List AVal) (x4 : ByteArray) (x5 : ByteArray) (x6 : Bool) (x7 : List AVal) (x8 : ByteArray) (x9 : ByteArray) (x10 : Bool) (x11 : List AVal) : Option (ByteArray × ByteArray × Bool × List AVal × List AVal × Int) := FnV ctx 14 sgi_Merge (x0, x1, x2, x3, x4, x5, x6, x7, x8, x9, x10, x11)
def lsi_Merge : List LSig := []
noncomputable def Fl_eqTree (x0 : ByteArray) (x1 : ByteArray) (x2 : Bool) (x3 : List AVal) (x4 : ByteArray) (x5 : ByteArray) (x6 : Bool) (x7 : List AVal) : Option (Bool) := FnV ctx 15 sgl_eqTree (x0, x1, x2, x3, x4, x5, x6, x7)
def lsl_eqTree : List LSig := []
noncomputable def Fl_eqIntSS (x0 : List AVal) (x1 : List AVal) : Option (Bool) := FnV ctx 16 sgl_eqIntSS (x0, x1)
def Xl_eqIntSS_0 : List Ex := [{ out := .ret, st := { env := [(4, .bool)] } }, { out := .exit 0, st := { env := [] } }]
def Sl_eqIntSS_0 : SP := { env := [(0, .ro false 1), (1, .ro false 1), (5, .int .i64)] }
noncomputable def Ll_eqIntSS_0 (x0 : List AVal) (x1 : List AVal) (x2 : Int) : Option ((Bool) ⊕ (Unit)) := LpV ctx fn16 0 0 Xl_eqIntSS_0 Sl_eqIntSS_0 (x0, x1, x2)
def lsl_eqIntSS : List LSig := [{ h := 0, X := Xl_eqIntSS_0, Ss := [Sl_eqIntSS_0] }]
noncomputable def Fl_markTree (x0 : ByteArray) (x1 : ByteArray) (x2 : Bool) (x3 : Int) (x4 : List AVal) : Option (Int × List AVal) := FnV ctx 17 sgl_markTree (x0, x1, x2, x3, x4)
def lsl_markTree : List LSig := []
noncomputable def Fl_markIntSS (x0 : Int) (x1 : List AVal) : Option (Int × List AVal) := FnV ctx 18 sgl_markIntSS (x0, x1)
def Xl_markIntSS_0 : List Ex := [{ out := .exit 0, st := { env := [(1, .int .i64)], objs := [(2000000, false, .own 1)] } }]
def Sl_markIntSS_0 : SP := { env := [(0, .ref 2000000 []), (1, .int .i64), (5, .int .i64)], objs := [(2000000, false, .own 1)] }
noncomputable def Ll_markIntSS_0 (x0 : Int) (x1 : Int) (x2 : List AVal) : Option (Int × List AVal) := LpV ctx fn18 1 0 Xl_markIntSS_0 Sl_markIntSS_0 (x0, x1, x2)
def lsl_markIntSS : List LSig := [{ h := 0, X := Xl_markIntSS_0, Ss := [Sl_markIntSS_0] }]
noncomputable def Fl_heldTree (x0 : ByteArray) (x1 : ByteArray) (x2 : Bool) (x3 : List AVal) (x4 : Int) : Option (Int) := FnV ctx 19 sgl_heldTree (x0, x1, x2, x3, x4)
def lsl_heldTree : List LSig := []
noncomputable def Fl_heldIntSS (x0 : List AVal) (x1 : Int) : Option (Int) := FnV ctx 20 sgl_heldIntSS (x0, x1)
def Xl_heldIntSS_0 : List Ex := [{ out := .ret, st := { env := [(4, .int .i64)] } }, { out := .exit 0, st := { env := [(1, .int .i64)] } }]
def Sl_heldIntSS_0 : SP := { env := [(0, .ro false 1), (1, .int .i64), (5, .int .i64)] }
noncomputable def Ll_heldIntSS_0 (x0 : List AVal) (x1 : Int) (x2 : Int) : Option ((Int) ⊕ (Int)) := LpV ctx fn20 0 0 Xl_heldIntSS_0 Sl_heldIntSS_0 (x0, x1, x2)
def lsl_heldIntSS : List LSig := [{ h := 0, X := Xl_heldIntSS_0, Ss := [Sl_heldIntSS_0] }]
noncomputable def Fl_szTreeS (x0 : List AVal) (x1 : Int) : Option (Int) := FnV ctx 55 sgl_szTreeS (x0, x1)
def Xl_szTreeS_0 : List Ex := [{ out := .ret, st := { env := [(4, .int .i64)] } }, { out := .exit 0, st := { env := [(1, .int .i64)] } }]
def Sl_szTreeS_0 : SP := { env := [(0, .ro false 4), (1, .int .i64), (5, .int .i64)] }
noncomputable def Ll_szTreeS_0 (x0 : List AVal) (x1 : Int) (x2 : Int) : Option ((Int) ⊕ (Int)) := LpV ctx fn55 0 0 Xl_szTreeS_0 Sl_szTreeS_0 (x0, x1, x2)
def lsl_szTreeS : List LSig := [{ h := 0, X := Xl_szTreeS_0, Ss := [Sl_szTreeS_0] }]
noncomputable def Fl_toTreeS (x0 : List AVal) : Option (List AVal) := FnV ctx 59 sgl_toTreeS x0
def Xl_toTreeS_0 : List Ex := [{ out := .exit 0, st := { env := [(3, .ref 3 [])], objs := [(3, false, .own 4)] } }]
def Sl_toTreeS_0 : SP := { env := [(0, .ro false 4), (3, .ref 3 []), (4, .int .i64)], objs := [(3, false, .own 4)] }
noncomputable def Ll_toTreeS_0 (x0 : List AVal) (x1 : Int) (x2 : List AVal) : Option (List AVal) := LpV ctx fn59 0 0 Xl_toTreeS_0 Sl_toTreeS_0 (x0, x1, x2)
def lsl_toTreeS : List LSig := [{ h := 0, X := Xl_toTreeS_0, Ss := [Sl_toTreeS_0] }]
noncomputable def Fs_TreeOK (x0 : ByteArray) (x1 : ByteArray) (x2 : Bool) (x3 : List AVal) : Option (Bool) := FnV ctx 56 sgs_TreeOK (x0, x1, x2, x3)
def lss_TreeOK : List LSig := []
noncomputable def Fs_l15Merger_trees (x0 : ByteArray) (x1 : ByteArray) (x2 : Bool) (x3 : List AVal) (x4 : ByteArray) (x5 : ByteArray) (x6 : Bool) (x7 : List AVal) (x8 : ByteArray) (x9 : ByteArray) (x10 : Bool) (x11 : List AVal) (x12 : List AVal) (x13 : List AVal) : Option (ByteArray × ByteArray × Bool × List AVal × List AVal) := FnV ctx 57 sgs_l15Merger_trees (x0, x1, x2, x3, x4, x5, x6, x7, x8, x9, x10, x11, x12, x13)
def lss_l15Merger_trees : List LSig := []
noncomputable def Fs_l01Copy (x0 : ByteArray) (x1 : ByteArray) (x2 : Bool) (x3 : List AVal) : Option (ByteArray × ByteArray × Bool × List AVal) := FnV ctx 58 sgs_l01Copy (x0, x1, x2, x3)
def Xs_l01Copy_0 : List Ex := [{ out := .exit 0, st := { env := [(1, .ptr 1 [] none), (2, .ptr 2 [] none), (3, .ref 3 [])], objs := [(1, true, .agg [.str, .str, .bool, .ro false 4]), (2, true, .agg [.str, .str, .bool, .own 4]), (3, false, .own 4)] } }]
def Ss_l01Copy_0 : SP := { env := [(1, .ptr 1 [] none), (2, .ptr 2 [] none), (3, .ref 3 []), (4, .int .i64)], objs := [(1, true, .agg [.str, .str, .bool, .ro false 4]), (2, true, .agg [.str, .str, .bool, .own 4]), (3, false, .own 4)] }
noncomputable def Ls_l01Copy_0 (x0 : Int) (x1 : ByteArray) (x2 : ByteArray) (x3 : Bool) (x4 : List AVal) (x5 : ByteArray) (x6 : ByteArray) (x7 : Bool) (x8 : List AVal) (x9 : List AVal) : Option (ByteArray × ByteArray × Bool × List AVal × ByteArray × ByteArray × Bool × List AVal × List AVal) := LpV ctx fn58 0 0 Xs_l01Copy_0 Ss_l01Copy_0 (x0, x1, x2, x3, x4, x5, x6, x7, x8, x9)
def lss_l01Copy : List LSig := [{ h := 0, X := Xs_l01Copy_0, Ss := [Ss_l01Copy_0] }]
noncomputable def Fi_TreeOK (x0 : ByteArray) (x1 : ByteArray) (x2 : Bool) (x3 : List AVal) : Option (Bool) := FnV ctx 60 sgi_TreeOK (x0, x1, x2, x3)
def lsi_TreeOK : List LSig := []
noncomputable def Fi_merger_merge (x0 : ByteArray) (x1 : ByteArray) (x2 : Bool) (x3 : List AVal) (x4 : ByteArray) (x5 : ByteArray) (x6 : Bool) (x7 : List AVal) (x8 : ByteArray) (x9 : ByteArray) (x10 : Bool) (x11 : List AVal) (x12 : List AVal) (x13 : List AVal) : Option (ByteArray × ByteArray × Bool × List AVal × List AVal) := FnV ctx 61 sgi_merger_merge (x0, x1, x2, x3, x4, x5, x6, x7, x8, x9, x10, x11, x12, x13)
def Xi_merger_merge_0 : List Ex := [{ out := .exit 1, st := { env := [(10, .ptr 10 [] none), (11, .ptr 11 [] none)], objs := [(10, true, .agg [.str, .str, .bool, .own 4]), (11, true, .agg [.str, .str, .bool, .own 4]), (2000000, true, .agg [.own 1])] } }]
def Si_merger_merge_0 : SP := { env := [(0, .ptr 2000000 [] none), (4, .ro false 1), (6, .ptr 6 [] none), (7, .ptr 7 [] none), (8, .ptr 8 [] none), (10, .ptr 10 [] none), (11, .ptr 11 [] none), (12, .ref 12 []), (13, .ref 13 []), (14, .int .i64), (15, .int .i64), (16, .int .i64), (17, .int .i64)], objs := [(2000000, true, .agg [.own 1]), (6, true, .agg [.str, .str, .bool, .ro false 4]), (7, true, .agg [.str, .str, .bool, .ro false 4]), (8, true, .agg [.str, .str, .bool, .ro false 4]), (10, true, .agg [.str, .str, .bool, .own 4]), (11, true, .agg [.str, .str, .bool, .own 4]), (12, false, .own 1), (13, false, .own 1)] }
noncomputable def Li_merger_merge_0 (x0 : List AVal) (x1 : Int) (x2 : Int) (x3 : Int) (x4 : Int) (x5 : List AVal) (x6 : ByteArray) (x7 : ByteArray) (x8 : Bool) (x9 : List AVal) (x10 : ByteArray) (x11 : ByteArray) (x12 : Bool) (x13 : List AVal) (x14 : ByteArray) (x15 : ByteArray) (x16 : Bool) (x17 : List AVal) (x18 : ByteArray) (x19 : ByteArray) (x20 : Bool) (x21 : List AVal) (x22 : ByteArray) (x23 : ByteArray) (x24 : Bool) (x25 : List AVal) (x26 : List AVal) (x27 : List AVal) : Option (ByteArray × ByteArray × Bool × List AVal × ByteArray × ByteArray × Bool × List AVal × List AVal) := LpV ctx fn61 1 0 Xi_merger_merge_0 Si_merger_merge_0 (x0, x1, x2, x3, x4, x5, x6, x7, x8, x9, x10, x11, x12, x13, x14, x15, x16, x17, x18, x19, x20, x21, x22, x23, x24, x25, x26, x27)
def lsi_merger_merge : List LSig := [{ h := 0, X := Xi_merger_merge_0, Ss := [Si_merger_merge_0] }]
noncomputable def Fi_copyTree (x0 : ByteArray) (x1 : ByteArray) (x2 : Bool) (x3 : List AVal) : Option (ByteArray × ByteArray × Bool × List AVal) := FnV ctx 62 sgi_copyTree (x0, x1, x2, x3)
def Xi_copyTree_0 : List Ex := [{ out := .exit 0, st := { env := [(2, .ptr 2 [] none), (3, .ptr 3 [] none)], objs := [(2, true, .agg [.str, .str, .bool, .own 4]), (3, true, .agg [.str, .str, .bool, .own 4])] } }]
def Si_copyTree_0 : SP := { env := [(2, .ptr 2 [] none), (3, .ptr 3 [] none), (14, .ro false 4), (15, .int .i64), (16, .int .i64)], objs := [(2, true, .agg [.str, .str, .bool, .own 4]), (3, true, .agg [.str, .str, .bool, .own 4])] }
noncomputable def Li_copyTree_0 (x0 : List AVal) (x1 : Int) (x2 : Int) (x3 : ByteArray) (x4 : ByteArray) (x5 : Bool) (x6 : List AVal) (x7 : ByteArray) (x8 : ByteArray) (x9 : Bool) (x10 : List AVal) : Option (ByteArray × ByteArray × Bool × List AVal × ByteArray × ByteArray × Bool × List AVal) := LpV ctx fn62 0 0 Xi_copyTree_0 Si_copyTree_0 (x0, x1, x2, x3, x4, x5, x6, x7, x8, x9, x10)
def lsi_copyTree : List LSig := [{ h := 0, X := Xi_copyTree_0, Ss := [Si_copyTree_0] }]
noncomputable def Fl_eqTreeS (x0 : List AVal) (x1 : List AVal) : Option (Bool) := FnV ctx 63 sgl_eqTreeS (x0, x1)
def Xl_eqTreeS_0 : List Ex := [{ out := .ret, st := { env := [(4, .bool)] } }, { out := .exit 0, st := { env := [] } }]
def Sl_eqTreeS_0 : SP := { env := [(0, .ro false 4), (1, .ro false 4), (5, .int .i64)] }
noncomputable def Ll_eqTreeS_0 (x0 : List AVal) (x1 : List AVal) (x2 : Int) : Option ((Bool) ⊕ (Unit)) := LpV ctx fn63 0 0 Xl_eqTreeS_0 Sl_eqTreeS_0 (x0, x1, x2)
def lsl_eqTreeS : List LSig := [{ h := 0, X := Xl_eqTreeS_0, Ss := [Sl_eqTreeS_0] }]
noncomputable def Fl_eqIntS (x0 : List AVal) (x1 : List AVal) : Option (Bool) := FnV ctx 40 sgl_eqIntS (x0, x1)
def Xl_eqIntS_0 : List Ex := [{ out := .ret, st := { env := [(4, .bool)] } }, { out := .exit 0, st := { env := [] } }]
def Sl_eqIntS_0 : SP := { env := [(0, .ro false 1), (1, .ro false 1), (5, .int .i64)] }
noncomputable def Ll_eqIntS_0 (x0 : List AVal) (x1 : List AVal) (x2 : Int) : Option ((Bool) ⊕ (Unit)) := LpV ctx fn40 0 0 Xl_eqIntS_0 Sl_eqIntS_0 (x0, x1, x2)
def lsl_eqIntS : List LSig := [{ h := 0, X := Xl_eqIntS_0, Ss := [Sl_eqIntS_0] }]
noncomputable def Fl_markTreeS (x0 : Int) (x1 : List AVal) : Option (Int × List AVal) := FnV ctx 64 sgl_markTreeS (x0, x1)
def Xl_markTreeS_0 : List Ex := [{ out := .exit 0, st := { env := [(1, .int .i64)], objs := [(2000000, false, .own 4)] } }]
def Sl_markTreeS_0 : SP := { env := [(0, .ref 2000000 []), (1, .int .i64), (5, .int .i64)], objs := [(2000000, false, .own 4)] }
noncomputable def Ll_markTreeS_0 (x0 : Int) (x1 : Int) (x2 : List AVal) : Option (Int × List AVal) := LpV ctx fn64 1 0 Xl_markTreeS_0 Sl_markTreeS_0 (x0, x1, x2)
def lsl_markTreeS : List LSig := [{ h := 0, X := Xl_markTreeS_0, Ss := [Sl_markTreeS_0] }]
noncomputable def Fl_markIntS (x0 : Int) (x1 : List AVal) : Option (Int × List AVal) := FnV ctx 44 sgl_markIntS (x0, x1)
def Xl_markIntS_0 : List Ex := [{ out := .exit 0, st := { env := [(1, .int .i64)], objs := [(2000000, false, .own 1)] } }]
def Sl_markIntS_0 : SP := { env := [(0, .ref 2000000 []), (1, .int .i64), (5, .int .i64)], objs := [(2000000, false, .own 1)] }
noncomputable def Ll_markIntS_0 (x0 : Int) (x1 : Int) (x2 : List AVal) : Option (Int × List AVal) := LpV ctx fn44 1 0 Xl_markIntS_0 Sl_markIntS_0 (x0, x1, x2)
def lsl_markIntS : List LSig := [{ h := 0, X := Xl_markIntS_0, Ss := [Sl_markIntS_0] }]
noncomputable def Fl_heldTreeS (x0 : List AVal) (x1 : Int) : Option (Int) := FnV ctx 65 sgl_heldTreeS (x0, x1)
def Xl_heldTreeS_0 : List Ex := [{ out := .ret, st := { env := [(4, .int .i64)] } }, { out := .exit 0, st := { env := [(1, .int .i64)] } }]
def Sl_heldTreeS_0 : SP := { env := [(0, .ro false 4), (1, .int .i64), (5, .int .i64)] }
noncomputable def Ll_heldTreeS_0 (x0 : List AVal) (x1 : Int) (x2 : Int) : Option ((Int) ⊕ (Int)) := LpV ctx fn65 0 0 Xl_heldTreeS_0 Sl_heldTreeS_0 (x0, x1, x2)
def lsl_heldTreeS : List LSig := [{ h := 0, X := Xl_heldTreeS_0, Ss := [Sl_heldTreeS_0] }]
noncomputable def Fl_heldIntS (x0 : List AVal) (x1 : Int) : Option (Int) := FnV ctx 45 sgl_heldIntS (x0, x1)
def Xl_heldIntS_0 : List Ex := [{ out := .ret, st := { env := [(4, .int .i64)] } }, { out := .exit 0, st := { env := [(1, .int .i64)] } }]
def Sl_heldIntS_0 : SP := { env := [(0, .ro false 1), (1, .int .i64), (5, .int .i64)] }
noncomputable def Ll_heldIntS_0 (x0 : List AVal) (x1 : Int) (x2 : Int) : Option ((Int) ⊕ (Int)) := LpV ctx fn45 0 0 Xl_heldIntS_0 Sl_heldIntS_0 (x0, x1, x2)
def lsl_heldIntS : List LSig := [{ h := 0, X := Xl_heldIntS_0, Ss := [Sl_heldIntS_0] }]
noncomputable def Fs_l01Room (x0 : ByteArray) (x1 : ByteArray) (x2 : Bool) (x3 : List AVal) (x4 : Int) (x5 : Int) : Option (Int) := FnV ctx 123 sgs_l01Room (x0, x1, x2, x3, x4, x5)
def Xs_l01Room_0 : List Ex := [{ out := .exit 0, st := { env := [(1, .int .i64)] } }]
def Ss_l01Room_0 : SP := { env := [(1, .int .i64), (2, .int .i64), (3, .ptr 3 [] none), (7, .int .i64)], objs := [(3, true, .agg [.str, .str, .bool, .ro false 4])] }
noncomputable def Ls_l01Room_0 (x0 : Int) (x1 : Int) (x2 : Int) (x3 : ByteArray) (x4 : ByteArray) (x5 : Bool) (x6 : List AVal) : Option (Int) := LpV ctx fn123 0 0 Xs_l01Room_0 Ss_l01Room_0 (x0, x1, x2, x3, x4, x5, x6)
def lss_l01Room : List LSig := [{ h := 0, X := Xs_l01Room_0, Ss := [Ss_l01Room_0] }]
noncomputable def Fs_l01Right (x0 : ByteArray) (x1 : ByteArray) (x2 : Bool) (x3 : List AVal) : Option (Bool) := FnV ctx 124 sgs_l01Right (x0, x1, x2, x3)
def Xs_l01Right_0 : List Ex := [{ out := .ret, st := { env := [(2, .bool)] } }, { out := .exit 0, st := { env := [] } }]
def Ss_l01Right_0 : SP := { env := [(1, .ptr 1 [] none), (3, .int .i64)], objs := [(1, true, .agg [.str, .str, .bool, .ro false 4])] }
noncomputable def Ls_l01Right_0 (x0 : Int) (x1 : ByteArray) (x2 : ByteArray) (x3 : Bool) (x4 : List AVal) : Option ((Bool) ⊕ (Unit)) := LpV ctx fn124 0 0 Xs_l01Right_0 Ss_l01Right_0 (x0, x1, x2, x3, x4)
def lss_l01Right : List LSig := [{ h := 0, X := Xs_l01Right_0, Ss := [Ss_l01Right_0] }]
noncomputable def Fs_l01Same (x0 : ByteArray) (x1 : ByteArray) (x2 : Bool) (x3 : List AVal) (x4 : ByteArray) (x5 : ByteArray) (x6 : Bool) (x7 : List AVal) : Option (Bool) := FnV ctx 125 sgs_l01Same (x0, x1, x2, x3, x4, x5, x6, x7)
def Xs_l01Same_0 : List Ex := [{ out := .ret, st := { env := [(4, .bool)] } }, { out := .exit 0, st := { env := [] } }]
def Ss_l01Same_0 : SP := { env := [(2, .ptr 2 [] none), (3, .ptr 3 [] none), (5, .int .i64)], objs := [(2, true, .agg [.str, .str, .bool, .ro false 4]), (3, true, .agg [.str, .str, .bool, .ro false 4])] }
noncomputable def Ls_l01Same_0 (x0 : Int) (x1 : ByteArray) (x2 : ByteArray) (x3 : Bool) (x4 : List AVal) (x5 : ByteArray) (x6 : ByteArray) (x7 : Bool) (x8 : List AVal) : Option ((Bool) ⊕ (Unit)) := LpV ctx fn125 0 0 Xs_l01Same_0 Ss_l01Same_0 (x0, x1, x2, x3, x4, x5, x6, x7, x8)
def lss_l01Same : List LSig := [{ h := 0, X := Xs_l01Same_0, Ss := [Ss_l01Same_0] }]
noncomputable def Fs_l15Merger_lists (x0 : List AVal) (x1 : List AVal) (x2 : List AVal) (x3 : List AVal) (x4 : List AVal) : Option (List AVal × List AVal) := FnV ctx 127 sgs_l15Merger_lists (x0, x1, x2, x3, x4)
def Xs_l15Merger_lists_0 : List Ex := [{ out := .exit 0, st := { env := [(13, .ref 13 [])], objs := [(13, false, .own 4), (2000000, true, .agg [.own 1])] } }]
def Ss_l15Merger_lists_0 : SP := { env := [(0, .ptr 2000000 [] none), (1, .ro false 4), (2, .ro false 4), (3, .ro false 4), (4, .ro false 1), (11, .ro false 1), (12, .ro false 1), (13, .ref 13 []), (14, .int .i64), (15, .int .i64), (16, .int .i64), (17, .int .i64)], objs := [(2000000, true, .agg [.own 1]), (13, false, .own 4)] }
noncomputable def Ls_l15Merger_lists_0 (x0 : List AVal) (x1 : List AVal) (x2 : List AVal) (x3 : List AVal) (x4 : List AVal) (x5 : List AVal) (x6 : Int) (x7 : Int) (x8 : Int) (x9 : Int) (x10 : List AVal) (x11 : List AVal) : Option (List AVal × List AVal) := LpV ctx fn127 1 0 Xs_l15Merger_lists_0 Ss_l15Merger_lists_0 (x0, x1, x2, x3, x4, x5, x6, x7, x8, x9, x10, x11)
def lss_l15Merger_lists : List LSig := [{ h := 0, X := Xs_l15Merger_lists_0, Ss := [Ss_l15Merger_lists_0] }]
noncomputable def Fs_l01Node (x0 : ByteArray) (x1 : List AVal) : Option (ByteArray × ByteArray × Bool × List AVal) := FnV ctx 126 sgs_l01Node (x0, x1)
def lss_l01Node : List LSig := []
noncomputable def Fs_l15Merger_clash (x0 : List AVal) (x1 : List AVal) : Option (List AVal) := FnV ctx 128 sgs_l15Merger_clash (x0, x1)
def lss_l15Merger_clash : List LSig := []
noncomputable def Fi_measure (x0 : ByteArray) (x1 : ByteArray) (x2 : Bool) (x3 : List AVal) (x4 : Int) (x5 : Int) (x6 : Int) : Option (Bool × Int × Int) := FnV ctx 129 sgi_measure (x0, x1, x2, x3, x4, x5, x6)
def Xi_measure_0 : List Ex := [{ out := .ret, st := { env := [(8, .bool)], objs := [(2000000, true, .int .i64), (2000001, true, .int .i64)] } }, { out := .exit 0, st := { env := [], objs := [(2000000, true, .int .i64), (2000001, true, .int .i64)] } }]
def Si_measure_0 : SP := { env := [(1, .int .i64), (2, .ptr 2000000 [] none), (3, .ptr 2000001 [] none), (53, .ro false 4), (54, .int .i64), (55, .int .i64)], objs := [(2000000, true, .int .i64), (2000001, true, .int .i64)] }
noncomputable def Li_measure_0 (x0 : Int) (x1 : List AVal) (x2 : Int) (x3 : Int) (x4 : Int) (x5 : Int) : Option ((Bool × Int × Int) ⊕ (Int × Int)) := LpV ctx fn129 2 0 Xi_measure_0 Si_measure_0 (x0, x1, x2, x3, x4, x5)
def lsi_measure : List LSig := [{ h := 0, X := Xi_measure_0, Ss := [Si_measure_0] }]
noncomputable def Fi_same (x0 : ByteArray) (x1 : ByteArray) (x2 : Bool) (x3 : List AVal) (x4 : ByteArray) (x5 : ByteArray) (x6 : Bool) (x7 : List AVal) : Option (Bool) := FnV ctx 130 sgi_same (x0, x1, x2, x3, x4, x5, x6, x7)
def Xi_same_0 : List Ex := [{ out := .ret, st := { env := [(4, .bool)] } }, { out := .exit 0, st := { env := [] } }]
def Si_same_0 : SP := { env := [(2, .ptr 2 [] none), (3, .ptr 3 [] none), (36, .int .i64), (37, .int .i64)], objs := [(2, true, .agg [.str, .str, .bool, .ro false 4]), (3, true, .agg [.str, .str, .bool, .ro false 4])] }
noncomputable def Li_same_0 (x0 : Int) (x1 : Int) (x2 : ByteArray) (x3 : ByteArray) (x4 : Bool) (x5 : List AVal) (x6 : ByteArray) (x7 : ByteArray) (x8 : Bool) (x9 : List AVal) : Option ((Bool) ⊕ (Unit)) := LpV ctx fn130 0 0 Xi_same_0 Si_same_0 (x0, x1, x2, x3, x4, x5, x6, x7, x8, x9)
def lsi_same : List LSig := [{ h := 0, X := Xi_same_0, Ss := [Si_same_0] }]
noncomputable def Fi_merger_clash (x0 : List AVal) (x1 : List AVal) : Option (List AVal) := FnV ctx 131 sgi_merger_clash (x0, x1)
def lsi_merger_clash : List LSig := []
noncomputable def Fi_matched (x0 : List AVal) (x1 : List AVal) : Option (List AVal) := FnV ctx 132 sgi_matched (x0, x1)
def Xi_matched_0 : List Ex := [{ out := .exit 0, st := { env := [(0, .ro false 4), (1, .ro false 4), (5, .ref 5 []), (6, .ref 6 [])], objs := [(5, false, .own 1), (6, false, .own 1)] } }]
def Si_matched_0 : SP := { env := [(0, .ro false 4), (1, .ro false 4), (5, .ref 5 []), (6, .ref 6 []), (7, .int .i64)], objs := [(5, false, .own 1), (6, false, .own 1)] }
noncomputable def Li_matched_0 (x0 : List AVal) (x1 : List AVal) (x2 : Int) (x3 : List AVal) (x4 : List AVal) : Option (List AVal × List AVal × List AVal × List AVal) := LpV ctx fn132 0 0 Xi_matched_0 Si_matched_0 (x0, x1, x2, x3, x4)
def Xi_matched_1 : List Ex := [{ out := .exit 2, st := { env := [(0, .ro false 4), (1, .ro false 4), (5, .ref 5 []), (6, .ref 6 []), (7, .int .i64)], objs := [(5, false, .own 1), (6, false, .own 1)] } }]
def Si_matched_1 : SP := { env := [(0, .ro false 4), (1, .ro false 4), (5, .ref 5 []), (6, .ref 6 []), (7, .int .i64), (8, .int .i64)], objs := [(5, false, .own 1), (6, false, .own 1)] }
noncomputable def Li_matched_1 (x0 : List AVal) (x1 : List AVal) (x2 : Int) (x3 : Int) (x4 : List AVal) (x5 : List AVal) : Option (List AVal × List AVal × Int × List AVal × List AVal) := LpV ctx fn132 0 1 Xi_matched_1 Si_matched_1 (x0, x1, x2, x3, x4, x5)
def Xi_matched_2 : List Ex := [{ out := .exit 4, st := { env := [(9, .ref 9 [])], objs := [(9, false, .own 1)] } }]
def Si_matched_2 : SP := { env := [(1, .ro false 4), (5, .ref 5 []), (6, .ref 6 []), (9, .ref 9 []), (10, .int .i64), (123, .int .i64), (124, .int .i64)], objs := [(5, false, .own 1), (6, false, .own 1), (9, false, .own 1)] }
noncomputable def Li_matched_2 (x0 : List AVal) (x1 : Int) (x2 : Int) (x3 : Int) (x4 : List AVal) (x5 : List AVal) (x6 : List AVal) : Option (List AVal) := LpV ctx fn132 0 2 Xi_matched_2 Si_matched_2 (x0, x1, x2, x3, x4, x5, x6)
def Xi_matched_3 : List Ex := [{ out := .exit 6, st := { env := [(1, .ro false 4), (5, .ref 5 []), (6, .ref 6 []), (9, .ref 9 []), (10, .int .i64), (123, .int .i64), (124, .int .i64)], objs := [(5, false, .own 1), (6, false, .own 1), (9, false, .own 1)] } }]
def Si_matched_3 : SP := { env := [(1, .ro false 4), (5, .ref 5 []), (6, .ref 6 []), (9, .ref 9 []), (10, .int .i64), (11, .int .i64), (12, .int .i64), (123, .int .i64), (124, .int .i64)], objs := [(5, false, .own 1), (6, false, .own 1), (9, false, .own 1)] }
noncomputable def Li_matched_3 (x0 : List AVal) (x1 : Int) (x2 : Int) (x3 : Int) (x4 : Int) (x5 : Int) (x6 : List AVal) (x7 : List AVal) (x8 : List AVal) : Option (List AVal × Int × Int × Int × List AVal × List AVal × List AVal) := LpV ctx fn132 0 3 Xi_matched_3 Si_matched_3 (x0, x1, x2, x3, x4, x5, x6, x7, x8)
def lsi_matched : List LSig := [{ h := 0, X := Xi_matched_0, Ss := [Si_matched_0] }, { h := 1, X := Xi_matched_1, Ss := [Si_matched_1] }, { h := 2, X := Xi_matched_2, Ss := [Si_matched_2] }, { h := 3, X := Xi_matched_3, Ss := [Si_matched_3] }]
noncomputable def Fi_merger_stretch (x0 : List AVal) (x1 : List AVal) (x2 : List AVal) (x3 : List AVal) (x4 : List AVal) (x5 : ByteArray) (x6 : ByteArray) (x7 : Bool) (x8 : List AVal) : Option (List AVal × ByteArray × ByteArray × Bool × List AVal) := FnV ctx 133 sgi_merger_stretch (x0, x1, x2, x3, x4, x5, x6, x7, x8)
def Xi_merger_stretch_0 : List Ex := [{ out := .exit 1, st := { env := [], objs := [(2000000, true, .agg [.own 1]), (2000001, true, .agg [.str, .str, .bool, .own 4])] } }]
def Si_merger_stretch_0 : SP := { env := [(0, .ptr 2000000 [] none), (1, .ptr 2000001 [] none), (12, .clo 183 [.ptr 11 [] none]), (28, .ro false 4), (29, .int .i64), (30, .int .i64)], objs := [(2000000, true, .agg [.own 1]), (2000001, true, .agg [.str, .str, .bool, .own 4]), (11, true, .ro false 1)] }
noncomputable def Li_merger_stretch_0 (x0 : List AVal) (x1 : Int) (x2 : Int) (x3 : List AVal) (x4 : ByteArray) (x5 : ByteArray) (x6 : Bool) (x7 : List AVal) (x8 : List AVal) : Option (List AVal × ByteArray × ByteArray × Bool × List AVal) := LpV ctx fn133 2 0 Xi_merger_stretch_0 Si_merger_stretch_0 (x0, x1, x2, x3, x4, x5, x6, x7, x8)
def lsi_merger_stretch : List LSig := [{ h := 0, X := Xi_merger_stretch_0, Ss := [Si_merger_stretch_0] }]
noncomputable def Fl_markText (x0 : Int) : Option (ByteArray) := FnV ctx 134 sgl_markText x0
def Xl_markText_0 : List Ex := [{ out := .exit 0, st := { env := [(3, .str)] } }]
def Sl_markText_0 : SP := { env := [(0, .int .i64), (3, .str)] }
noncomputable def Ll_markText_0 (x0 : Int) (x1 : ByteArray) : Option (ByteArray) := LpV ctx fn134 0 0 Xl_markText_0 Sl_markText_0 (x0, x1)
def lsl_markText : List LSig := [{ h := 0, X := Xl_markText_0, Ss := [Sl_markText_0] }]
noncomputable def Fs_l01Name (x0 : ByteArray) : Option (Bool) := FnV ctx 148 sgs_l01Name x0
def Xs_l01Name_0 : List Ex := [{ out := .ret, st := { env := [(2, .bool)] } }, { out := .exit 0, st := { env := [] } }]
def Ss_l01Name_0 : SP := { env := [(0, .str), (3, .int .i64)] }
noncomputable def Ls_l01Name_0 (x0 : ByteArray) (x1 : Int) : Option ((Bool) ⊕ (Unit)) := LpV ctx fn148 0 0 Xs_l01Name_0 Ss_l01Name_0 (x0, x1)
def lss_l01Name : List LSig := [{ h := 0, X := Xs_l01Name_0, Ss := [Ss_l01Name_0] }]
noncomputable def Fs_l15Match (x0 : List AVal) (x1 : List AVal) : Option (List AVal) := FnV ctx 181 sgs_l15Match (x0, x1)
def Xs_l15Match_0 : List Ex := [{ out := .exit 0, st := { env := [(0, .ro false 4), (1, .ro false 4), (5, .ref 5 [])], objs := [(5, false, .own 1)] } }]
def Ss_l15Match_0 : SP := { env := [(0, .ro false 4), (1, .ro false 4), (5, .ref 5 []), (6, .int .i64)], objs := [(5, false, .own 1)] }
noncomputable def Ls_l15Match_0 (x0 : List AVal) (x1 : List AVal) (x2 : Int) (x3 : List AVal) : Option (List AVal × List AVal × List AVal) := LpV ctx fn181 0 0 Xs_l15Match_0 Ss_l15Match_0 (x0, x1, x2, x3)
def Xs_l15Match_1 : List Ex := [{ out := .exit 2, st := { env := [(0, .ro false 4), (1, .ro false 4), (5, .ref 5 []), (6, .int .i64)], objs := [(5, false, .own 1)] } }]
def Ss_l15Match_1 : SP := { env := [(0, .ro false 4), (1, .ro false 4), (5, .ref 5 []), (6, .int .i64), (7, .int .i64)], objs := [(5, false, .own 1)] }
noncomputable def Ls_l15Match_1 (x0 : List AVal) (x1 : List AVal) (x2 : Int) (x3 : Int) (x4 : List AVal) : Option (List AVal × List AVal × Int × List AVal) := LpV ctx fn181 0 1 Xs_l15Match_1 Ss_l15Match_1 (x0, x1, x2, x3, x4)
def Xs_l15Match_2 : List Ex := [{ out := .exit 4, st := { env := [(9, .ref 9 [])], objs := [(9, false, .own 1)] } }]
def Ss_l15Match_2 : SP := { env := [(0, .ro false 4), (1, .ro false 4), (5, .ref 5 []), (9, .ref 9 []), (10, .int .i64), (11, .int .i64)], objs := [(5, false, .own 1), (9, false, .own 1)] }
noncomputable def Ls_l15Match_2 (x0 : List AVal) (x1 : List AVal) (x2 : Int) (x3 : Int) (x4 : List AVal) (x5 : List AVal) : Option (List AVal) := LpV ctx fn181 0 2 Xs_l15Match_2 Ss_l15Match_2 (x0, x1, x2, x3, x4, x5)
def Xs_l15Match_3 : List Ex := [{ out := .exit 6, st := { env := [(0, .ro false 4), (1, .ro false 4), (5, .ref 5 []), (9, .ref 9 []), (10, .int .i64), (11, .int .i64), (12, .int .i64)], objs := [(5, false, .own 1), (9, false, .own 1)] } }]
def Ss_l15Match_3 : SP := { env := [(0, .ro false 4), (1, .ro false 4), (5, .ref 5 []), (9, .ref 9 []), (10, .int .i64), (11, .int .i64), (12, .int .i64), (13, .int .i64)], objs := [(5, false, .own 1), (9, false, .own 1)] }
noncomputable def Ls_l15Match_3 (x0 : List AVal) (x1 : List AVal) (x2 : Int) (x3 : Int) (x4 : Int) (x5 : Int) (x6 : List AVal) (x7 : List AVal) : Option (List AVal × List AVal × Int × Int × Int × List AVal × List AVal) := LpV ctx fn181 0 3 Xs_l15Match_3 Ss_l15Match_3 (x0, x1, x2, x3, x4, x5, x6, x7)
def lss_l15Match : List LSig := [{ h := 0, X := Xs_l15Match_0, Ss := [Ss_l15Match_0] }, { h := 1, X := Xs_l15Match_1, Ss := [Ss_l15Match_1] }, { h := 2, X := Xs_l15Match_2, Ss := [Ss_l15Match_2] }, { h := 3, X := Xs_l15Match_3, Ss := [Ss_l15Match_3] }]
noncomputable def Fs_l15Merger_stretch (x0 : List AVal) (x1 : List AVal) (x2 : List AVal) (x3 : List AVal) (x4 : Int) (x5 : List AVal) : Option (List AVal × List AVal) := FnV ctx 182 sgs_l15Merger_stretch (x0, x1, x2, x3, x4, x5)
def Xs_l15Merger_stretch_0 : List Ex := [{ out := .exit 1, st := { env := [(0, .ptr 2000000 [] none), (2, .ro false 4), (4, .ro false 1), (5, .int .i64)], objs := [(2000000, true, .agg [.own 1])] } }]
def Ss_l15Merger_stretch_0 : SP := { env := [(0, .ptr 2000000 [] none), (2, .ro false 4), (4, .ro false 1), (5, .int .i64), (13, .int .i64)], objs := [(2000000, true, .agg [.own 1])] }
noncomputable def Ls_l15Merger_stretch_0 (x0 : List AVal) (x1 : List AVal) (x2 : Int) (x3 : Int) (x4 : List AVal) : Option (List AVal × List AVal × Int × List AVal) := LpV ctx fn182 1 0 Xs_l15Merger_stretch_0 Ss_l15Merger_stretch_0 (x0, x1, x2, x3, x4)
def lss_l15Merger_stretch : List LSig := [{ h := 0, X := Xs_l15Merger_stretch_0, Ss := [Ss_l15Merger_stretch_0] }]
noncomputable def Fi_nameOK (x0 : ByteArray) : Option (Bool) := FnV ctx 153 sgi_nameOK x0
def Xi_nameOK_0 : List Ex := [{ out := .ret, st := { env := [(2, .bool)] } }, { out := .exit 0, st := { env := [] } }]
def Si_nameOK_0 : SP := { env := [(0, .str), (3, .int .i64)] }
noncomputable def Li_nameOK_0 (x0 : ByteArray) (x1 : Int) : Option ((Bool) ⊕ (Unit)) := LpV ctx fn153 0 0 Xi_nameOK_0 Si_nameOK_0 (x0, x1)
def lsi_nameOK : List LSig := [{ h := 0, X := Xi_nameOK_0, Ss := [Si_nameOK_0] }]
noncomputable def Fi_sameList (x0 : List AVal) (x1 : List AVal) : Option (Bool) := FnV ctx 184 sgi_sameList (x0, x1)
def Xi_sameList_0 : List Ex := [{ out := .ret, st := { env := [(4, .bool)] } }, { out := .exit 0, st := { env := [] } }]
def Si_sameList_0 : SP := { env := [(0, .ro false 4), (1, .ro false 4), (12, .int .i64), (13, .int .i64)] }
noncomputable def Li_sameList_0 (x0 : List AVal) (x1 : List AVal) (x2 : Int) (x3 : Int) : Option ((Bool) ⊕ (Unit)) := LpV ctx fn184 0 0 Xi_sameList_0 Si_sameList_0 (x0, x1, x2, x3)
def lsi_sameList : List LSig := [{ h := 0, X := Xi_sameList_0, Ss := [Si_sameList_0] }]
noncomputable def Fi_merger_stretch_1 (x0 : Int) (x1 : List AVal) : Option (List AVal × List AVal) := FnV ctx 183 sgi_merger_stretch_1 (x0, x1)
def lsi_merger_stretch_1 : List LSig := []
noncomputable def Fs_l01Letter (x0 : Int) : Option (Bool) := FnV ctx 193 sgs_l01Letter x0
def lss_l01Letter : List LSig := []
noncomputable def Fs_l01NameByte (x0 : Int) : Option (Bool) := FnV ctx 194 sgs_l01NameByte x0
def lss_l01NameByte : List LSig := []
noncomputable def Fs_l15SameList (x0 : List AVal) (x1 : List AVal) : Option (Bool) := FnV ctx 208 sgs_l15SameList (x0, x1)
def Xs_l15SameList_0 : List Ex := [{ out := .ret, st := { env := [(4, .bool)] } }, { out := .exit 0, st := { env := [] } }]
def Ss_l15SameList_0 : SP := { env := [(0, .ro false 4), (1, .ro false 4), (5, .int .i64)] }
noncomputable def Ls_l15SameList_0 (x0 : List AVal) (x1 : List AVal) (x2 : Int) : Option ((Bool) ⊕ (Unit)) := LpV ctx fn208 0 0 Xs_l15SameList_0 Ss_l15SameList_0 (x0, x1, x2)
def lss_l15SameList : List LSig := [{ h := 0, X := Xs_l15SameList_0, Ss := [Ss_l15SameList_0] }]
noncomputable def Fs_l12Down (x0 : List AVal) (x1 : Int) : Option (List AVal) := FnV ctx 209 sgs_l12Down (x0, x1)
def lss_l12Down : List LSig := []
noncomputable def Fi_isLetter (x0 : Int) : Option (Bool) := FnV ctx 198 sgi_isLetter x0
def lsi_isLetter : List LSig := []
noncomputable def Fi_inName (x0 : Int) : Option (Bool) := FnV ctx 199 sgi_inName x0
def lsi_inName : List LSig := []
noncomputable def Fs_l01Digit (x0 : Int) : Option (Bool) := FnV ctx 216 sgs_l01Digit x0
def lss_l01Digit : List LSig := []
noncomputable def Fi_isDigit (x0 : Int) : Option (Bool) := FnV ctx 217 sgi_isDigit x0
def lsi_isDigit : List LSig := []
end Go.Proofs.Ytnbpmjfemeeecaa
