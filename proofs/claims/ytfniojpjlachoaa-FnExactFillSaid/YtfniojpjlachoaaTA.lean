/- What the functions of the laws are given and give back, and their names on values; no condition. -/
import Derived.Test.YtfniojpjlachoaaVmd
import Derived.Test.YtfniojpjlachoaaVC
import Derived.Tactics
namespace Go.Proofs.Ytfniojpjlachoaa
open Go.VK AVal

abbrev ty_int64 : Nat := 2
abbrev ty_int : Nat := 3
abbrev ty_bool : Nat := 4
abbrev ty_uint8 : Nat := 5
abbrev ty_abi_BoundsErrorCode : Nat := 6
abbrev ty_runtime_boundsError : Nat := 8
abbrev ty_string : Nat := 9
abbrev ty_runtime_errorString : Nat := 10
abbrev ty_runtime_plainError : Nat := 11
abbrev ty_uintptr : Nat := 12
abbrev ty_runtime_errorAddressString : Nat := 14
abbrev ty_P_runtime_TypeAssertionError : Nat := 15
abbrev ty_P_runtime_PanicNilError : Nat := 16
abbrev ty_P_abi_Type : Nat := 17
abbrev ty_maps_unhashableTypeError : Nat := 19
abbrev ty_int32 : Nat := 21
abbrev ty_S_laws_Term : Nat := 25
abbrev ty_S_string : Nat := 26
abbrev ty_S_laws_Prod : Nat := 27
abbrev ty_laws_Bnf : Nat := 29
abbrev ty_S_laws_SEdge : Nat := 39
abbrev ty_S_laws_Spot : Nat := 40
abbrev ty_laws_Sg : Nat := 42
abbrev ty_S_int : Nat := 44
abbrev ty_S_laws_Tree : Nat := 59
abbrev ty_laws_Tree : Nat := 61
abbrev ty_S_laws_Bind : Nat := 62
abbrev ty_S_laws_Delta : Nat := 78
abbrev ty_laws_Delta : Nat := 80
abbrev ty_S_laws_RwRule : Nat := 93
abbrev ty_S_S_int : Nat := 100
abbrev ty_S_S_laws_Act : Nat := 109
abbrev ty_laws_Table : Nat := 111
abbrev ty_map_string_int : Nat := 140
abbrev ty_map_int_int : Nat := 158
abbrev ty_laws_Bind : Nat := 162
abbrev ty_laws_RwRule : Nat := 186
abbrev ty_map_2_int_int : Nat := 213
abbrev ty_laws_Term : Nat := 242
abbrev ty_laws_Prod : Nat := 244
abbrev ty_laws_Spot : Nat := 251
abbrev ty_S_bool : Nat := 255
abbrev ty_laws_SEdge : Nat := 259
abbrev ty_P_int : Nat := 267
abbrev ty_S_uint8 : Nat := 269
abbrev ty_S_laws_Act : Nat := 295
abbrev ty_S_S_bool : Nat := 312
abbrev ty_laws_Act : Nat := 315
abbrev ty_runtime_TypeAssertionError : Nat := 329
abbrev ty_uint32 : Nat := 333
abbrev ty_abi_TFlag : Nat := 334
abbrev ty_abi_Kind : Nat := 335
abbrev ty_P_uint8 : Nat := 337
abbrev ty_abi_NameOff : Nat := 338
abbrev ty_abi_TypeOff : Nat := 339
abbrev ty_abi_Type : Nat := 341
abbrev n_l_FnExactRxOK : Nat := 3
abbrev n_l_FnExactBnfOK : Nat := 4
abbrev n_l_FnExactResolve : Nat := 5
abbrev n_l_FnExactUnused : Nat := 6
abbrev n_l_FnExactFill : Nat := 7
abbrev n_l_FnExactPatch : Nat := 8
abbrev n_l_FnExactRename : Nat := 9
abbrev n_l_FnExactPlanOK : Nat := 10
abbrev n_l_FnExactMerge : Nat := 11
abbrev n_l_FnExactDiff : Nat := 12
abbrev n_l_FnExactTableOK : Nat := 13
/-- laws.FnExactFill -/
def sgl_FnExactFill : Sig := { i := { vs := [.agg [.str, .str, .bool, .ro false 4], .ro false 5] }, o := { vs := [.bool] } }
/-- laws.szTree -/
def sgl_szTree : Sig := { i := { vs := [.agg [.str, .str, .bool, .ro false 4], .int .i64] }, o := { vs := [.int .i64] } }
/-- laws.szBindS -/
def sgl_szBindS : Sig := { i := { vs := [.ro false 5, .int .i64] }, o := { vs := [.int .i64] } }
/-- laws.toTree -/
def sgl_toTree : Sig := { i := { vs := [.agg [.str, .str, .bool, .ro false 4]] }, o := { vs := [.agg [.str, .str, .bool, .own 4]] } }
/-- laws.toBindS -/
def sgl_toBindS : Sig := { i := { vs := [.ro false 5] }, o := { vs := [.own 5] } }
/-- spec.Fill -/
def sgs_Fill : Sig := { i := { vs := [.agg [.str, .str, .bool, .ro false 4], .ro false 5] }, o := { vs := [.agg [.str, .str, .bool, .ro false 4], .int .i64] } }
/-- impl.Fill -/
def sgi_Fill : Sig := { i := { vs := [.agg [.str, .str, .bool, .ro false 4], .ro false 5] }, o := { vs := [.agg [.str, .str, .bool, .own 4], .int .i64] } }
/-- laws.eqTree -/
def sgl_eqTree : Sig := { i := { vs := [.agg [.str, .str, .bool, .ro false 4], .agg [.str, .str, .bool, .ro false 4]] }, o := { vs := [.bool] } }
/-- laws.eqBindS -/
def sgl_eqBindS : Sig := { i := { vs := [.ro false 5, .ro false 5] }, o := { vs := [.bool] } }
/-- laws.markTree -/
def sgl_markTree : Sig := { i := { vs := [.agg [.str, .str, .bool, .ref 0 []], .int .i64], os := [(false, .own 4)] }, o := { vs := [.int .i64], os := [(false, .own 4)] } }
/-- laws.markBindS -/
def sgl_markBindS : Sig := { i := { vs := [.ref 0 [], .int .i64], os := [(false, .own 5)] }, o := { vs := [.int .i64], os := [(false, .own 5)] } }
/-- laws.heldTree -/
def sgl_heldTree : Sig := { i := { vs := [.agg [.str, .str, .bool, .ro false 4], .int .i64] }, o := { vs := [.int .i64] } }
/-- laws.szTreeS -/
def sgl_szTreeS : Sig := { i := { vs := [.ro false 4, .int .i64] }, o := { vs := [.int .i64] } }
/-- laws.szBind -/
def sgl_szBind : Sig := { i := { vs := [.agg [.str, .str, .str, .bool, .ro false 4], .int .i64] }, o := { vs := [.int .i64] } }
/-- laws.toTreeS -/
def sgl_toTreeS : Sig := { i := { vs := [.ro false 4] }, o := { vs := [.own 4] } }
/-- laws.toBind -/
def sgl_toBind : Sig := { i := { vs := [.agg [.str, .str, .str, .bool, .ro false 4]] }, o := { vs := [.agg [.str, .str, .str, .bool, .own 4]] } }
/-- spec.l11Pattern -/
def sgs_l11Pattern : Sig := { i := { vs := [.agg [.str, .str, .bool, .ro false 4]] }, o := { vs := [.bool] } }
/-- spec.l01Name -/
def sgs_l01Name : Sig := { i := { vs := [.str] }, o := { vs := [.bool] } }
/-- spec.TreeOK -/
def sgs_TreeOK : Sig := { i := { vs := [.agg [.str, .str, .bool, .ro false 4]] }, o := { vs := [.bool] } }
/-- spec.l11Find -/
def sgs_l11Find : Sig := { i := { vs := [.ro false 5, .str] }, o := { vs := [.int .i64] } }
/-- spec.l11Vars -/
def sgs_l11Vars : Sig := { i := { vs := [.agg [.str, .str, .bool, .ro false 4], .ref 0 []], os := [(false, .own 1)] }, o := { vs := [.own 1, .bool], os := [(false, .und)] } }
/-- spec.l11Fill -/
def sgs_l11Fill : Sig := { i := { vs := [.agg [.str, .str, .bool, .ro false 4], .ro false 5] }, o := { vs := [.agg [.str, .str, .bool, .ro false 4]] } }
/-- spec.l01Copy -/
def sgs_l01Copy : Sig := { i := { vs := [.agg [.str, .str, .bool, .ro false 4]] }, o := { vs := [.agg [.str, .str, .bool, .ro false 4]] } }
/-- impl.patternTree -/
def sgi_patternTree : Sig := { i := { vs := [.agg [.str, .str, .bool, .ro false 4]] }, o := { vs := [.bool] } }
/-- impl.nameOK -/
def sgi_nameOK : Sig := { i := { vs := [.str] }, o := { vs := [.bool] } }
/-- impl.TreeOK -/
def sgi_TreeOK : Sig := { i := { vs := [.agg [.str, .str, .bool, .ro false 4]] }, o := { vs := [.bool] } }
/-- impl.fill -/
def sgi_fill : Sig := { i := { vs := [.agg [.str, .str, .bool, .ro false 4], .ro false 5] }, o := { vs := [.agg [.str, .str, .bool, .ro false 4], .bool] } }
/-- impl.copyTree -/
def sgi_copyTree : Sig := { i := { vs := [.agg [.str, .str, .bool, .ro false 4]] }, o := { vs := [.agg [.str, .str, .bool, .own 4]] } }
/-- laws.eqTreeS -/
def sgl_eqTreeS : Sig := { i := { vs := [.ro false 4, .ro false 4] }, o := { vs := [.bool] } }
/-- laws.eqBind -/
def sgl_eqBind : Sig := { i := { vs := [.agg [.str, .str, .str, .bool, .ro false 4], .agg [.str, .str, .str, .bool, .ro false 4]] }, o := { vs := [.bool] } }
/-- laws.markTreeS -/
def sgl_markTreeS : Sig := { i := { vs := [.ref 0 [], .int .i64], os := [(false, .own 4)] }, o := { vs := [.int .i64], os := [(false, .own 4)] } }
/-- laws.markText -/
def sgl_markText : Sig := { i := { vs := [.int .i64] }, o := { vs := [.str] } }
/-- laws.heldTreeS -/
def sgl_heldTreeS : Sig := { i := { vs := [.ro false 4, .int .i64] }, o := { vs := [.int .i64] } }
/-- spec.l01Letter -/
def sgs_l01Letter : Sig := { i := { vs := [.int .u8] }, o := { vs := [.bool] } }
/-- spec.l01NameByte -/
def sgs_l01NameByte : Sig := { i := { vs := [.int .u8] }, o := { vs := [.bool] } }
/-- spec.l01Room -/
def sgs_l01Room : Sig := { i := { vs := [.agg [.str, .str, .bool, .ro false 4], .int .i64, .int .i64] }, o := { vs := [.int .i64] } }
/-- spec.l01Right -/
def sgs_l01Right : Sig := { i := { vs := [.agg [.str, .str, .bool, .ro false 4]] }, o := { vs := [.bool] } }
/-- spec.l11Var -/
def sgs_l11Var : Sig := { i := { vs := [.agg [.str, .str, .bool, .ro false 4]] }, o := { vs := [.bool] } }
/-- spec.l03At -/
def sgs_l03At : Sig := { i := { vs := [.ro false 1, .str] }, o := { vs := [.int .i64] } }
/-- impl.varsOK -/
def sgi_varsOK : Sig := { i := { vs := [.agg [.str, .str, .bool, .ro false 4]] }, o := { vs := [.bool] } }
/-- impl.isLetter -/
def sgi_isLetter : Sig := { i := { vs := [.int .u8] }, o := { vs := [.bool] } }
/-- impl.inName -/
def sgi_inName : Sig := { i := { vs := [.int .u8] }, o := { vs := [.bool] } }
/-- impl.measure -/
def sgi_measure : Sig := { i := { vs := [.agg [.str, .str, .bool, .ro false 4], .int .i64, .ptr 0 [] none, .ptr 1 [] none], os := [(true, .int .i64), (true, .int .i64)] }, o := { vs := [.bool], os := [(true, .int .i64), (true, .int .i64)] } }
/-- impl.isVar -/
def sgi_isVar : Sig := { i := { vs := [.agg [.str, .str, .bool, .ro false 4]] }, o := { vs := [.bool] } }
/-- impl.bound -/
def sgi_bound : Sig := { i := { vs := [.ro false 5, .str] }, o := { vs := [.agg [.str, .str, .bool, .ro false 4], .bool] } }
/-- spec.l01Digit -/
def sgs_l01Digit : Sig := { i := { vs := [.int .u8] }, o := { vs := [.bool] } }
/-- impl.isDigit -/
def sgi_isDigit : Sig := { i := { vs := [.int .u8] }, o := { vs := [.bool] } }
def sigs : List (Nat × Sig) := [(7, sgl_FnExactFill), (32, sgl_szTree), (33, sgl_szBindS), (35, sgl_toTree), (36, sgl_toBindS), (34, sgs_Fill), (37, sgi_Fill), (38, sgl_eqTree), (39, sgl_eqBindS), (40, sgl_markTree), (41, sgl_markBindS), (42, sgl_heldTree), (100, sgl_szTreeS), (101, sgl_szBind), (108, sgl_toTreeS), (109, sgl_toBind), (102, sgs_l11Pattern), (78, sgs_l01Name), (103, sgs_TreeOK), (104, sgs_l11Find), (105, sgs_l11Vars), (106, sgs_l11Fill), (107, sgs_l01Copy), (110, sgi_patternTree), (83, sgi_nameOK), (111, sgi_TreeOK), (112, sgi_fill), (113, sgi_copyTree), (114, sgl_eqTreeS), (115, sgl_eqBind), (116, sgl_markTreeS), (117, sgl_markText), (118, sgl_heldTreeS), (160, sgs_l01Letter), (161, sgs_l01NameByte), (178, sgs_l01Room), (179, sgs_l01Right), (180, sgs_l11Var), (77, sgs_l03At), (181, sgi_varsOK), (164, sgi_isLetter), (165, sgi_inName), (182, sgi_measure), (136, sgi_isVar), (183, sgi_bound), (219, sgs_l01Digit), (220, sgi_isDigit)]
noncomputable def Fl_FnExactFill (x0 : ByteArray) (x1 : ByteArray) (x2 : Bool) (x3 : List AVal) (x4 : List AVal) : Option (Bool) := FnV ctx 7 sgl_FnExactFill (x0, x1, x2, x3, x4)
def lsl_FnExactFill : List LSig := []
noncomputable def Fl_szTree (x0 : ByteArray) (x1 : ByteArray) (x2 : Bool) (x3 : List AVal) (x4 : Int) : Option (Int) := FnV ctx 32 sgl_szTree (x0, x1, x2, x3, x4)
def lsl_szTree : List LSig := []
noncomputable def Fl_szBindS (x0 : List AVal) (x1 : Int) : Option (Int) := FnV ctx 33 sgl_szBindS (x0, x1)
def Xl_szBindS_0 : List Ex := [{ out := .ret, st := { env := [(4, .int .i64)] } }, { out := .exit 0, st := { env := [(1, .int .i64)] } }]
def Sl_szBindS_0 : SP := { env := [(0, .ro false 5), (1, .int .i64), (5, .int .i64)] }
noncomputable def Ll_szBindS_0 (x0 : List AVal) (x1 : Int) (x2 : Int) : Option ((Int) ⊕ (Int)) := LpV ctx fn33 0 0 Xl_szBindS_0 Sl_szBindS_0 (x0, x1, x2)
def lsl_szBindS : List LSig := [{ h := 0, X := Xl_szBindS_0, Ss := [Sl_szBindS_0] }]
noncomputable def Fl_toTree (x0 : ByteArray) (x1 : ByteArray) (x2 : Bool) (x3 : List AVal) : Option (ByteArray × ByteArray × Bool × List AVal) := FnV ctx 35 sgl_toTree (x0, x1, x2, x3)
def lsl_toTree : List LSig := []
noncomputable def Fl_toBindS (x0 : List AVal) : Option (List AVal) := FnV ctx 36 sgl_toBindS x0
def Xl_toBindS_0 : List Ex := [{ out := .exit 0, st := { env := [(3, .ref 3 [])], objs := [(3, false, .own 5)] } }]
def Sl_toBindS_0 : SP := { env := [(0, .ro false 5), (3, .ref 3 []), (4, .int .i64)], objs := [(3, false, .own 5)] }
noncomputable def Ll_toBindS_0 (x0 : List AVal) (x1 : Int) (x2 : List AVal) : Option (List AVal) := LpV ctx fn36 0 0 Xl_toBindS_0 Sl_toBindS_0 (x0, x1, x2)
def lsl_toBindS : List LSig := [{ h := 0, X := Xl_toBindS_0, Ss := [Sl_toBindS_0] }]
noncomputable def Fs_Fill (x0 : ByteArray) (x1 : ByteArray) (x2 : Bool) (x3 : List AVal) (x4 : List AVal) : Option (ByteArray × ByteArray × Bool × List AVal × Int) := FnV ctx 34 sgs_Fill (x0, x1, x2, x3, x4)
def Xs_Fill_0 : List Ex := [{ out := .ret, st := { env := [(4, .ptr 4 [] none), (5, .int .i64)], objs := [(4, true, .agg [.str, .str, .bool, .own 4])] } }, { out := .exit 0, st := { env := [(1, .ro false 5), (2, .ptr 2 [] none), (4, .ptr 4 [] none)], objs := [(2, true, .agg [.str, .str, .bool, .ro false 4]), (4, true, .agg [.str, .str, .bool, .own 4])] } }]
def Ss_Fill_0 : SP := { env := [(1, .ro false 5), (2, .ptr 2 [] none), (4, .ptr 4 [] none), (6, .int .i64)], objs := [(2, true, .agg [.str, .str, .bool, .ro false 4]), (4, true, .agg [.str, .str, .bool, .own 4])] }
noncomputable def Ls_Fill_0 (x0 : List AVal) (x1 : Int) (x2 : ByteArray) (x3 : ByteArray) (x4 : Bool) (x5 : List AVal) (x6 : ByteArray) (x7 : ByteArray) (x8 : Bool) (x9 : List AVal) : Option ((Int × ByteArray × ByteArray × Bool × List AVal) ⊕ (List AVal × ByteArray × ByteArray × Bool × List AVal × ByteArray × ByteArray × Bool × List AVal)) := LpV ctx fn34 0 0 Xs_Fill_0 Ss_Fill_0 (x0, x1, x2, x3, x4, x5, x6, x7, x8, x9)
def Xs_Fill_1 : List Ex := [{ out := .ret, st := { env := [(4, .ptr 4 [] none), (5, .int .i64)], objs := [(4, true, .agg [.str, .str, .bool, .own 4])] } }, { out := .exit 2, st := { env := [(1, .ro false 5), (2, .ptr 2 [] none), (4, .ptr 4 [] none)], objs := [(2, true, .agg [.str, .str, .bool, .ro false 4]), (4, true, .agg [.str, .str, .bool, .own 4])] } }]
def Ss_Fill_1 : SP := { env := [(1, .ro false 5), (2, .ptr 2 [] none), (4, .ptr 4 [] none), (7, .ref 7 []), (9, .int .i64)], objs := [(2, true, .agg [.str, .str, .bool, .ro false 4]), (4, true, .agg [.str, .str, .bool, .own 4]), (7, false, .own 1)] }
noncomputable def Ls_Fill_1 (x0 : List AVal) (x1 : Int) (x2 : ByteArray) (x3 : ByteArray) (x4 : Bool) (x5 : List AVal) (x6 : ByteArray) (x7 : ByteArray) (x8 : Bool) (x9 : List AVal) (x10 : List AVal) : Option ((Int × ByteArray × ByteArray × Bool × List AVal) ⊕ (List AVal × ByteArray × ByteArray × Bool × List AVal × ByteArray × ByteArray × Bool × List AVal)) := LpV ctx fn34 0 1 Xs_Fill_1 Ss_Fill_1 (x0, x1, x2, x3, x4, x5, x6, x7, x8, x9, x10)
def lss_Fill : List LSig := [{ h := 0, X := Xs_Fill_0, Ss := [Ss_Fill_0] }, { h := 1, X := Xs_Fill_1, Ss := [Ss_Fill_1] }]
noncomputable def Fi_Fill (x0 : ByteArray) (x1 : ByteArray) (x2 : Bool) (x3 : List AVal) (x4 : List AVal) : Option (ByteArray × ByteArray × Bool × List AVal × Int) := FnV ctx 37 sgi_Fill (x0, x1, x2, x3, x4)
def Xi_Fill_0 : List Ex := [{ out := .ret, st := { env := [(4, .ptr 4 [] none), (5, .int .i64)], objs := [(4, true, .agg [.str, .str, .bool, .own 4])] } }, { out := .exit 0, st := { env := [(1, .ro false 5), (2, .ptr 2 [] none), (4, .ptr 4 [] none)], objs := [(2, true, .agg [.str, .str, .bool, .ro false 4]), (4, true, .agg [.str, .str, .bool, .own 4])] } }]
def Si_Fill_0 : SP := { env := [(1, .ro false 5), (2, .ptr 2 [] none), (4, .ptr 4 [] none), (6, .ref 6 []), (16, .ro false 5), (17, .int .i64), (18, .int .i64)], objs := [(2, true, .agg [.str, .str, .bool, .ro false 4]), (4, true, .agg [.str, .str, .bool, .own 4]), (6, false, .mp .str)] }
noncomputable def Li_Fill_0 (x0 : List AVal) (x1 : List AVal) (x2 : Int) (x3 : Int) (x4 : ByteArray) (x5 : ByteArray) (x6 : Bool) (x7 : List AVal) (x8 : ByteArray) (x9 : ByteArray) (x10 : Bool) (x11 : List AVal) (x12 : List AVal) : Option ((Int × ByteArray × ByteArray × Bool × List AVal) ⊕ (List AVal × ByteArray × ByteArray × Bool × List AVal × ByteArray × ByteArray × Bool × List AVal)) := LpV ctx fn37 0 0 Xi_Fill_0 Si_Fill_0 (x0, x1, x2, x3, x4, x5, x6, x7, x8, x9, x10, x11, x12)
def lsi_Fill : List LSig := [{ h := 0, X := Xi_Fill_0, Ss := [Si_Fill_0] }]
noncomputable def Fl_eqTree (x0 : ByteArray) (x1 : ByteArray) (x2 : Bool) (x3 : List AVal) (x4 : ByteArray) (x5 : ByteArray) (x6 : Bool) (x7 : List AVal) : Option (Bool) := FnV ctx 38 sgl_eqTree (x0, x1, x2, x3, x4, x5, x6, x7)
def lsl_eqTree : List LSig := []
noncomputable def Fl_eqBindS (x0 : List AVal) (x1 : List AVal) : Option (Bool) := FnV ctx 39 sgl_eqBindS (x0, x1)
def Xl_eqBindS_0 : List Ex := [{ out := .ret, st := { env := [(4, .bool)] } }, { out := .exit 0, st := { env := [] } }]
def Sl_eqBindS_0 : SP := { env := [(0, .ro false 5), (1, .ro false 5), (5, .int .i64)] }
noncomputable def Ll_eqBindS_0 (x0 : List AVal) (x1 : List AVal) (x2 : Int) : Option ((Bool) ⊕ (Unit)) := LpV ctx fn39 0 0 Xl_eqBindS_0 Sl_eqBindS_0 (x0, x1, x2)
def lsl_eqBindS : List LSig := [{ h := 0, X := Xl_eqBindS_0, Ss := [Sl_eqBindS_0] }]
noncomputable def Fl_markTree (x0 : ByteArray) (x1 : ByteArray) (x2 : Bool) (x3 : Int) (x4 : List AVal) : Option (Int × List AVal) := FnV ctx 40 sgl_markTree (x0, x1, x2, x3, x4)
def lsl_markTree : List LSig := []
noncomputable def Fl_markBindS (x0 : Int) (x1 : List AVal) : Option (Int × List AVal) := FnV ctx 41 sgl_markBindS (x0, x1)
def Xl_markBindS_0 : List Ex := [{ out := .exit 0, st := { env := [(1, .int .i64)], objs := [(2000000, false, .own 5)] } }]
def Sl_markBindS_0 : SP := { env := [(0, .ref 2000000 []), (1, .int .i64), (5, .int .i64)], objs := [(2000000, false, .own 5)] }
noncomputable def Ll_markBindS_0 (x0 : Int) (x1 : Int) (x2 : List AVal) : Option (Int × List AVal) := LpV ctx fn41 1 0 Xl_markBindS_0 Sl_markBindS_0 (x0, x1, x2)
def lsl_markBindS : List LSig := [{ h := 0, X := Xl_markBindS_0, Ss := [Sl_markBindS_0] }]
noncomputable def Fl_heldTree (x0 : ByteArray) (x1 : ByteArray) (x2 : Bool) (x3 : List AVal) (x4 : Int) : Option (Int) := FnV ctx 42 sgl_heldTree (x0, x1, x2, x3, x4)
def lsl_heldTree : List LSig := []
noncomputable def Fl_szTreeS (x0 : List AVal) (x1 : Int) : Option (Int) := FnV ctx 100 sgl_szTreeS (x0, x1)
def Xl_szTreeS_0 : List Ex := [{ out := .ret, st := { env := [(4, .int .i64)] } }, { out := .exit 0, st := { env := [(1, .int .i64)] } }]
def Sl_szTreeS_0 : SP := { env := [(0, .ro false 4), (1, .int .i64), (5, .int .i64)] }
noncomputable def Ll_szTreeS_0 (x0 : List AVal) (x1 : Int) (x2 : Int) : Option ((Int) ⊕ (Int)) := LpV ctx fn100 0 0 Xl_szTreeS_0 Sl_szTreeS_0 (x0, x1, x2)
def lsl_szTreeS : List LSig := [{ h := 0, X := Xl_szTreeS_0, Ss := [Sl_szTreeS_0] }]
noncomputable def Fl_szBind (x0 : ByteArray) (x1 : ByteArray) (x2 : ByteArray) (x3 : Bool) (x4 : List AVal) (x5 : Int) : Option (Int) := FnV ctx 101 sgl_szBind (x0, x1, x2, x3, x4, x5)
def lsl_szBind : List LSig := []
noncomputable def Fl_toTreeS (x0 : List AVal) : Option (List AVal) := FnV ctx 108 sgl_toTreeS x0
def Xl_toTreeS_0 : List Ex := [{ out := .exit 0, st := { env := [(3, .ref 3 [])], objs := [(3, false, .own 4)] } }]
def Sl_toTreeS_0 : SP := { env := [(0, .ro false 4), (3, .ref 3 []), (4, .int .i64)], objs := [(3, false, .own 4)] }
noncomputable def Ll_toTreeS_0 (x0 : List AVal) (x1 : Int) (x2 : List AVal) : Option (List AVal) := LpV ctx fn108 0 0 Xl_toTreeS_0 Sl_toTreeS_0 (x0, x1, x2)
def lsl_toTreeS : List LSig := [{ h := 0, X := Xl_toTreeS_0, Ss := [Sl_toTreeS_0] }]
noncomputable def Fl_toBind (x0 : ByteArray) (x1 : ByteArray) (x2 : ByteArray) (x3 : Bool) (x4 : List AVal) : Option (ByteArray × ByteArray × ByteArray × Bool × List AVal) := FnV ctx 109 sgl_toBind (x0, x1, x2, x3, x4)
def lsl_toBind : List LSig := []
noncomputable def Fs_l11Pattern (x0 : ByteArray) (x1 : ByteArray) (x2 : Bool) (x3 : List AVal) : Option (Bool) := FnV ctx 102 sgs_l11Pattern (x0, x1, x2, x3)
def lss_l11Pattern : List LSig := []
noncomputable def Fs_l01Name (x0 : ByteArray) : Option (Bool) := FnV ctx 78 sgs_l01Name x0
def Xs_l01Name_0 : List Ex := [{ out := .ret, st := { env := [(2, .bool)] } }, { out := .exit 0, st := { env := [] } }]
def Ss_l01Name_0 : SP := { env := [(0, .str), (3, .int .i64)] }
noncomputable def Ls_l01Name_0 (x0 : ByteArray) (x1 : Int) : Option ((Bool) ⊕ (Unit)) := LpV ctx fn78 0 0 Xs_l01Name_0 Ss_l01Name_0 (x0, x1)
def lss_l01Name : List LSig := [{ h := 0, X := Xs_l01Name_0, Ss := [Ss_l01Name_0] }]
noncomputable def Fs_TreeOK (x0 : ByteArray) (x1 : ByteArray) (x2 : Bool) (x3 : List AVal) : Option (Bool) := FnV ctx 103 sgs_TreeOK (x0, x1, x2, x3)
def lss_TreeOK : List LSig := []
noncomputable def Fs_l11Find (x0 : List AVal) (x1 : ByteArray) : Option (Int) := FnV ctx 104 sgs_l11Find (x0, x1)
def Xs_l11Find_0 : List Ex := [{ out := .ret, st := { env := [(4, .int .i64)] } }, { out := .exit 0, st := { env := [] } }]
def Ss_l11Find_0 : SP := { env := [(0, .ro false 5), (1, .str), (5, .int .i64)] }
noncomputable def Ls_l11Find_0 (x0 : List AVal) (x1 : ByteArray) (x2 : Int) : Option ((Int) ⊕ (Unit)) := LpV ctx fn104 0 0 Xs_l11Find_0 Ss_l11Find_0 (x0, x1, x2)
def lss_l11Find : List LSig := [{ h := 0, X := Xs_l11Find_0, Ss := [Ss_l11Find_0] }]
noncomputable def Fs_l11Vars (x0 : ByteArray) (x1 : ByteArray) (x2 : Bool) (x3 : List AVal) (x4 : List AVal) : Option (List AVal × Bool) := FnV ctx 105 sgs_l11Vars (x0, x1, x2, x3, x4)
def Xs_l11Vars_0 : List Ex := [{ out := .exit 0, st := { env := [(1, .ref 1 []), (6, .bool)], objs := [(1, false, .own 1), (2000000, false, .und)] } }]
def Ss_l11Vars_0 : SP := { env := [(1, .ref 1 []), (2, .ptr 2 [] none), (6, .bool), (7, .int .i64)], objs := [(1, false, .own 1), (2, true, .agg [.str, .str, .bool, .ro false 4]), (2000000, false, .und)] }
noncomputable def Ls_l11Vars_0 (x0 : Bool) (x1 : Int) (x2 : List AVal) (x3 : ByteArray) (x4 : ByteArray) (x5 : Bool) (x6 : List AVal) : Option (Bool × List AVal) := LpV ctx fn105 1 0 Xs_l11Vars_0 Ss_l11Vars_0 (x0, x1, x2, x3, x4, x5, x6)
def lss_l11Vars : List LSig := [{ h := 0, X := Xs_l11Vars_0, Ss := [Ss_l11Vars_0] }]
noncomputable def Fs_l11Fill (x0 : ByteArray) (x1 : ByteArray) (x2 : Bool) (x3 : List AVal) (x4 : List AVal) : Option (ByteArray × ByteArray × Bool × List AVal) := FnV ctx 106 sgs_l11Fill (x0, x1, x2, x3, x4)
def Xs_l11Fill_0 : List Ex := [{ out := .exit 0, st := { env := [(2, .ptr 2 [] none), (4, .ptr 4 [] none), (5, .ref 5 [])], objs := [(2, true, .agg [.str, .str, .bool, .ro false 4]), (4, true, .agg [.str, .str, .bool, .own 4]), (5, false, .own 4)] } }]
def Ss_l11Fill_0 : SP := { env := [(1, .ro false 5), (2, .ptr 2 [] none), (4, .ptr 4 [] none), (5, .ref 5 []), (6, .int .i64)], objs := [(2, true, .agg [.str, .str, .bool, .ro false 4]), (4, true, .agg [.str, .str, .bool, .own 4]), (5, false, .own 4)] }
noncomputable def Ls_l11Fill_0 (x0 : List AVal) (x1 : Int) (x2 : ByteArray) (x3 : ByteArray) (x4 : Bool) (x5 : List AVal) (x6 : ByteArray) (x7 : ByteArray) (x8 : Bool) (x9 : List AVal) (x10 : List AVal) : Option (ByteArray × ByteArray × Bool × List AVal × ByteArray × ByteArray × Bool × List AVal × List AVal) := LpV ctx fn106 0 0 Xs_l11Fill_0 Ss_l11Fill_0 (x0, x1, x2, x3, x4, x5, x6, x7, x8, x9, x10)
def lss_l11Fill : List LSig := [{ h := 0, X := Xs_l11Fill_0, Ss := [Ss_l11Fill_0] }]
noncomputable def Fs_l01Copy (x0 : ByteArray) (x1 : ByteArray) (x2 : Bool) (x3 : List AVal) : Option (ByteArray × ByteArray × Bool × List AVal) := FnV ctx 107 sgs_l01Copy (x0, x1, x2, x3)
def Xs_l01Copy_0 : List Ex := [{ out := .exit 0, st := { env := [(1, .ptr 1 [] none), (2, .ptr 2 [] none), (3, .ref 3 [])], objs := [(1, true, .agg [.str, .str, .bool, .ro false 4]), (2, true, .agg [.str, .str, .bool, .own 4]), (3, false, .own 4)] } }]
def Ss_l01Copy_0 : SP := { env := [(1, .ptr 1 [] none), (2, .ptr 2 [] none), (3, .ref 3 []), (4, .int .i64)], objs := [(1, true, .agg [.str, .str, .bool, .ro false 4]), (2, true, .agg [.str, .str, .bool, .own 4]), (3, false, .own 4)] }
noncomputable def Ls_l01Copy_0 (x0 : Int) (x1 : ByteArray) (x2 : ByteArray) (x3 : Bool) (x4 : List AVal) (x5 : ByteArray) (x6 : ByteArray) (x7 : Bool) (x8 : List AVal) (x9 : List AVal) : Option (ByteArray × ByteArray × Bool × List AVal × ByteArray × ByteArray × Bool × List AVal × List AVal) := LpV ctx fn107 0 0 Xs_l01Copy_0 Ss_l01Copy_0 (x0, x1, x2, x3, x4, x5, x6, x7, x8, x9)
def lss_l01Copy : List LSig := [{ h := 0, X := Xs_l01Copy_0, Ss := [Ss_l01Copy_0] }]
noncomputable def Fi_patternTree (x0 : ByteArray) (x1 : ByteArray) (x2 : Bool) (x3 : List AVal) : Option (Bool) := FnV ctx 110 sgi_patternTree (x0, x1, x2, x3)
def lsi_patternTree : List LSig := []
noncomputable def Fi_nameOK (x0 : ByteArray) : Option (Bool) := FnV ctx 83 sgi_nameOK x0
def Xi_nameOK_0 : List Ex := [{ out := .ret, st := { env := [(2, .bool)] } }, { out := .exit 0, st := { env := [] } }]
def Si_nameOK_0 : SP := { env := [(0, .str), (3, .int .i64)] }
noncomputable def Li_nameOK_0 (x0 : ByteArray) (x1 : Int) : Option ((Bool) ⊕ (Unit)) := LpV ctx fn83 0 0 Xi_nameOK_0 Si_nameOK_0 (x0, x1)
def lsi_nameOK : List LSig := [{ h := 0, X := Xi_nameOK_0, Ss := [Si_nameOK_0] }]
noncomputable def Fi_TreeOK (x0 : ByteArray) (x1 : ByteArray) (x2 : Bool) (x3 : List AVal) : Option (Bool) := FnV ctx 111 sgi_TreeOK (x0, x1, x2, x3)
def lsi_TreeOK : List LSig := []
noncomputable def Fi_fill (x0 : ByteArray) (x1 : ByteArray) (x2 : Bool) (x3 : List AVal) (x4 : List AVal) : Option (ByteArray × ByteArray × Bool × List AVal × Bool) := FnV ctx 112 sgi_fill (x0, x1, x2, x3, x4)
def Xi_fill_0 : List Ex := [{ out := .ret, st := { env := [(4, .ptr 4 [] none), (5, .bool)], objs := [(4, true, .agg [.str, .str, .bool, .own 4])] } }, { out := .exit 0, st := { env := [(4, .ptr 4 [] none), (6, .ptr 6 [] none)], objs := [(4, true, .agg [.str, .str, .bool, .own 4]), (6, true, .agg [.str, .str, .bool, .own 4])] } }]
def Si_fill_0 : SP := { env := [(1, .ro false 5), (4, .ptr 4 [] none), (6, .ptr 6 [] none), (27, .ro false 4), (28, .int .i64), (29, .int .i64)], objs := [(4, true, .agg [.str, .str, .bool, .own 4]), (6, true, .agg [.str, .str, .bool, .own 4])] }
noncomputable def Li_fill_0 (x0 : List AVal) (x1 : List AVal) (x2 : Int) (x3 : Int) (x4 : ByteArray) (x5 : ByteArray) (x6 : Bool) (x7 : List AVal) (x8 : ByteArray) (x9 : ByteArray) (x10 : Bool) (x11 : List AVal) : Option ((Bool × ByteArray × ByteArray × Bool × List AVal) ⊕ (ByteArray × ByteArray × Bool × List AVal × ByteArray × ByteArray × Bool × List AVal)) := LpV ctx fn112 0 0 Xi_fill_0 Si_fill_0 (x0, x1, x2, x3, x4, x5, x6, x7, x8, x9, x10, x11)
def lsi_fill : List LSig := [{ h := 0, X := Xi_fill_0, Ss := [Si_fill_0] }]
noncomputable def Fi_copyTree (x0 : ByteArray) (x1 : ByteArray) (x2 : Bool) (x3 : List AVal) : Option (ByteArray × ByteArray × Bool × List AVal) := FnV ctx 113 sgi_copyTree (x0, x1, x2, x3)
def Xi_copyTree_0 : List Ex := [{ out := .exit 0, st := { env := [(2, .ptr 2 [] none), (3, .ptr 3 [] none)], objs := [(2, true, .agg [.str, .str, .bool, .own 4]), (3, true, .agg [.str, .str, .bool, .own 4])] } }]
def Si_copyTree_0 : SP := { env := [(2, .ptr 2 [] none), (3, .ptr 3 [] none), (14, .ro false 4), (15, .int .i64), (16, .int .i64)], objs := [(2, true, .agg [.str, .str, .bool, .own 4]), (3, true, .agg [.str, .str, .bool, .own 4])] }
noncomputable def Li_copyTree_0 (x0 : List AVal) (x1 : Int) (x2 : Int) (x3 : ByteArray) (x4 : ByteArray) (x5 : Bool) (x6 : List AVal) (x7 : ByteArray) (x8 : ByteArray) (x9 : Bool) (x10 : List AVal) : Option (ByteArray × ByteArray × Bool × List AVal × ByteArray × ByteArray × Bool × List AVal) := LpV ctx fn113 0 0 Xi_copyTree_0 Si_copyTree_0 (x0, x1, x2, x3, x4, x5, x6, x7, x8, x9, x10)
def lsi_copyTree : List LSig := [{ h := 0, X := Xi_copyTree_0, Ss := [Si_copyTree_0] }]
noncomputable def Fl_eqTreeS (x0 : List AVal) (x1 : List AVal) : Option (Bool) := FnV ctx 114 sgl_eqTreeS (x0, x1)
def Xl_eqTreeS_0 : List Ex := [{ out := .ret, st := { env := [(4, .bool)] } }, { out := .exit 0, st := { env := [] } }]
def Sl_eqTreeS_0 : SP := { env := [(0, .ro false 4), (1, .ro false 4), (5, .int .i64)] }
noncomputable def Ll_eqTreeS_0 (x0 : List AVal) (x1 : List AVal) (x2 : Int) : Option ((Bool) ⊕ (Unit)) := LpV ctx fn114 0 0 Xl_eqTreeS_0 Sl_eqTreeS_0 (x0, x1, x2)
def lsl_eqTreeS : List LSig := [{ h := 0, X := Xl_eqTreeS_0, Ss := [Sl_eqTreeS_0] }]
noncomputable def Fl_eqBind (x0 : ByteArray) (x1 : ByteArray) (x2 : ByteArray) (x3 : Bool) (x4 : List AVal) (x5 : ByteArray) (x6 : ByteArray) (x7 : ByteArray) (x8 : Bool) (x9 : List AVal) : Option (Bool) := FnV ctx 115 sgl_eqBind (x0, x1, x2, x3, x4, x5, x6, x7, x8, x9)
def lsl_eqBind : List LSig := []
noncomputable def Fl_markTreeS (x0 : Int) (x1 : List AVal) : Option (Int × List AVal) := FnV ctx 116 sgl_markTreeS (x0, x1)
def Xl_markTreeS_0 : List Ex := [{ out := .exit 0, st := { env := [(1, .int .i64)], objs := [(2000000, false, .own 4)] } }]
def Sl_markTreeS_0 : SP := { env := [(0, .ref 2000000 []), (1, .int .i64), (5, .int .i64)], objs := [(2000000, false, .own 4)] }
noncomputable def Ll_markTreeS_0 (x0 : Int) (x1 : Int) (x2 : List AVal) : Option (Int × List AVal) := LpV ctx fn116 1 0 Xl_markTreeS_0 Sl_markTreeS_0 (x0, x1, x2)
def lsl_markTreeS : List LSig := [{ h := 0, X := Xl_markTreeS_0, Ss := [Sl_markTreeS_0] }]
noncomputable def Fl_markText (x0 : Int) : Option (ByteArray) := FnV ctx 117 sgl_markText x0
def Xl_markText_0 : List Ex := [{ out := .exit 0, st := { env := [(3, .str)] } }]
def Sl_markText_0 : SP := { env := [(0, .int .i64), (3, .str)] }
noncomputable def Ll_markText_0 (x0 : Int) (x1 : ByteArray) : Option (ByteArray) := LpV ctx fn117 0 0 Xl_markText_0 Sl_markText_0 (x0, x1)
def lsl_markText : List LSig := [{ h := 0, X := Xl_markText_0, Ss := [Sl_markText_0] }]
noncomputable def Fl_heldTreeS (x0 : List AVal) (x1 : Int) : Option (Int) := FnV ctx 118 sgl_heldTreeS (x0, x1)
def Xl_heldTreeS_0 : List Ex := [{ out := .ret, st := { env := [(4, .int .i64)] } }, { out := .exit 0, st := { env := [(1, .int .i64)] } }]
def Sl_heldTreeS_0 : SP := { env := [(0, .ro false 4), (1, .int .i64), (5, .int .i64)] }
noncomputable def Ll_heldTreeS_0 (x0 : List AVal) (x1 : Int) (x2 : Int) : Option ((Int) ⊕ (Int)) := LpV ctx fn118 0 0 Xl_heldTreeS_0 Sl_heldTreeS_0 (x0, x1, x2)
def lsl_heldTreeS : List LSig := [{ h := 0, X := Xl_heldTreeS_0, Ss := [Sl_heldTreeS_0] }]
noncomputable def Fs_l01Letter (x0 : Int) : Option (Bool) := FnV ctx 160 sgs_l01Letter x0
def lss_l01Letter : List LSig := []
noncomputable def Fs_l01NameByte (x0 : Int) : Option (Bool) := FnV ctx 161 sgs_l01NameByte x0
def lss_l01NameByte : List LSig := []
noncomputable def Fs_l01Room (x0 : ByteArray) (x1 : ByteArray) (x2 : Bool) (x3 : List AVal) (x4 : Int) (x5 : Int) : Option (Int) := FnV ctx 178 sgs_l01Room (x0, x1, x2, x3, x4, x5)
def Xs_l01Room_0 : List Ex := [{ out := .exit 0, st := { env := [(1, .int .i64)] } }]
def Ss_l01Room_0 : SP := { env := [(1, .int .i64), (2, .int .i64), (3, .ptr 3 [] none), (7, .int .i64)], objs := [(3, true, .agg [.str, .str, .bool, .ro false 4])] }
noncomputable def Ls_l01Room_0 (x0 : Int) (x1 : Int) (x2 : Int) (x3 : ByteArray) (x4 : ByteArray) (x5 : Bool) (x6 : List AVal) : Option (Int) := LpV ctx fn178 0 0 Xs_l01Room_0 Ss_l01Room_0 (x0, x1, x2, x3, x4, x5, x6)
def lss_l01Room : List LSig := [{ h := 0, X := Xs_l01Room_0, Ss := [Ss_l01Room_0] }]
noncomputable def Fs_l01Right (x0 : ByteArray) (x1 : ByteArray) (x2 : Bool) (x3 : List AVal) : Option (Bool) := FnV ctx 179 sgs_l01Right (x0, x1, x2, x3)
def Xs_l01Right_0 : List Ex := [{ out := .ret, st := { env := [(2, .bool)] } }, { out := .exit 0, st := { env := [] } }]
def Ss_l01Right_0 : SP := { env := [(1, .ptr 1 [] none), (3, .int .i64)], objs := [(1, true, .agg [.str, .str, .bool, .ro false 4])] }
noncomputable def Ls_l01Right_0 (x0 : Int) (x1 : ByteArray) (x2 : ByteArray) (x3 : Bool) (x4 : List AVal) : Option ((Bool) ⊕ (Unit)) := LpV ctx fn179 0 0 Xs_l01Right_0 Ss_l01Right_0 (x0, x1, x2, x3, x4)
def lss_l01Right : List LSig := [{ h := 0, X := Xs_l01Right_0, Ss := [Ss_l01Right_0] }]
noncomputable def Fs_l11Var (x0 : ByteArray) (x1 : ByteArray) (x2 : Bool) (x3 : List AVal) : Option (Bool) := FnV ctx 180 sgs_l11Var (x0, x1, x2, x3)
def lss_l11Var : List LSig := []
noncomputable def Fs_l03At (x0 : List AVal) (x1 : ByteArray) : Option (Int) := FnV ctx 77 sgs_l03At (x0, x1)
def Xs_l03At_0 : List Ex := [{ out := .ret, st := { env := [(4, .int .i64)] } }, { out := .exit 0, st := { env := [] } }]
def Ss_l03At_0 : SP := { env := [(0, .ro false 1), (1, .str), (5, .int .i64)] }
noncomputable def Ls_l03At_0 (x0 : List AVal) (x1 : ByteArray) (x2 : Int) : Option ((Int) ⊕ (Unit)) := LpV ctx fn77 0 0 Xs_l03At_0 Ss_l03At_0 (x0, x1, x2)
def lss_l03At : List LSig := [{ h := 0, X := Xs_l03At_0, Ss := [Ss_l03At_0] }]
noncomputable def Fi_varsOK (x0 : ByteArray) (x1 : ByteArray) (x2 : Bool) (x3 : List AVal) : Option (Bool) := FnV ctx 181 sgi_varsOK (x0, x1, x2, x3)
def Xi_varsOK_0 : List Ex := [{ out := .ret, st := { env := [(2, .bool)] } }, { out := .exit 0, st := { env := [] } }]
def Si_varsOK_0 : SP := { env := [(11, .ro false 4), (12, .int .i64), (13, .int .i64)] }
noncomputable def Li_varsOK_0 (x0 : List AVal) (x1 : Int) (x2 : Int) : Option ((Bool) ⊕ (Unit)) := LpV ctx fn181 0 0 Xi_varsOK_0 Si_varsOK_0 (x0, x1, x2)
def lsi_varsOK : List LSig := [{ h := 0, X := Xi_varsOK_0, Ss := [Si_varsOK_0] }]
noncomputable def Fi_isLetter (x0 : Int) : Option (Bool) := FnV ctx 164 sgi_isLetter x0
def lsi_isLetter : List LSig := []
noncomputable def Fi_inName (x0 : Int) : Option (Bool) := FnV ctx 165 sgi_inName x0
def lsi_inName : List LSig := []
noncomputable def Fi_measure (x0 : ByteArray) (x1 : ByteArray) (x2 : Bool) (x3 : List AVal) (x4 : Int) (x5 : Int) (x6 : Int) : Option (Bool × Int × Int) := FnV ctx 182 sgi_measure (x0, x1, x2, x3, x4, x5, x6)
def Xi_measure_0 : List Ex := [{ out := .ret, st := { env := [(8, .bool)], objs := [(2000000, true, .int .i64), (2000001, true, .int .i64)] } }, { out := .exit 0, st := { env := [], objs := [(2000000, true, .int .i64), (2000001, true, .int .i64)] } }]
def Si_measure_0 : SP := { env := [(1, .int .i64), (2, .ptr 2000000 [] none), (3, .ptr 2000001 [] none), (53, .ro false 4), (54, .int .i64), (55, .int .i64)], objs := [(2000000, true, .int .i64), (2000001, true, .int .i64)] }
noncomputable def Li_measure_0 (x0 : Int) (x1 : List AVal) (x2 : Int) (x3 : Int) (x4 : Int) (x5 : Int) : Option ((Bool × Int × Int) ⊕ (Int × Int)) := LpV ctx fn182 2 0 Xi_measure_0 Si_measure_0 (x0, x1, x2, x3, x4, x5)
def lsi_measure : List LSig := [{ h := 0, X := Xi_measure_0, Ss := [Si_measure_0] }]
noncomputable def Fi_isVar (x0 : ByteArray) (x1 : ByteArray) (x2 : Bool) (x3 : List AVal) : Option (Bool) := FnV ctx 136 sgi_isVar (x0, x1, x2, x3)
def lsi_isVar : List LSig := []
noncomputable def Fi_bound (x0 : List AVal) (x1 : ByteArray) : Option (ByteArray × ByteArray × Bool × List AVal × Bool) := FnV ctx 183 sgi_bound (x0, x1)
def Xi_bound_0 : List Ex := [{ out := .ret, st := { env := [(4, .ptr 4 [] none), (5, .bool)], objs := [(4, true, .agg [.str, .str, .bool, .ro false 4])] } }, { out := .exit 0, st := { env := [(4, .ptr 4 [] none)], objs := [(4, true, .agg [.str, .str, .bool, .own 4])] } }]
def Si_bound_0 : SP := { env := [(1, .str), (4, .ptr 4 [] none), (8, .ro false 5), (9, .int .i64), (10, .int .i64)], objs := [(4, true, .agg [.str, .str, .bool, .own 4])] }
noncomputable def Li_bound_0 (x0 : ByteArray) (x1 : List AVal) (x2 : Int) (x3 : Int) (x4 : ByteArray) (x5 : ByteArray) (x6 : Bool) (x7 : List AVal) : Option ((Bool × ByteArray × ByteArray × Bool × List AVal) ⊕ (ByteArray × ByteArray × Bool × List AVal)) := LpV ctx fn183 0 0 Xi_bound_0 Si_bound_0 (x0, x1, x2, x3, x4, x5, x6, x7)
def lsi_bound : List LSig := [{ h := 0, X := Xi_bound_0, Ss := [Si_bound_0] }]
noncomputable def Fs_l01Digit (x0 : Int) : Option (Bool) := FnV ctx 219 sgs_l01Digit x0
def lss_l01Digit : List LSig := []
noncomputable def Fi_isDigit (x0 : Int) : Option (Bool) := FnV ctx 220 sgi_isDigit x0
def lsi_isDigit : List LSig := []
end Go.Proofs.Ytfniojpjlachoaa
