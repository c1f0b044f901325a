/- What the functions of the laws are given and give back, and their names on values; no condition. -/
import Derived.Test.YtlaalinfmhiehaaVmd
import Derived.Test.YtlaalinfmhiehaaVC
import Derived.Tactics
namespace Go.Proofs.Ytlaalinfmhiehaa
open Go.VK AVal

abbrev ty_int64 : Nat := 2
abbrev ty_int : Nat := 3
abbrev ty_bool : Nat := 4
abbrev ty_uint8 : Nat := 5
abbrev ty_abi_BoundsErrorCode : Nat := 6
abbrev ty_runtime_boundsError : Nat := 8
abbrev ty_string : Nat := 9
abbrev ty_runtime_errorString : Nat := 10
abbrev ty_runtime_plainError : Nat := 11
abbrev ty_uintptr : Nat := 12
abbrev ty_runtime_errorAddressString : Nat := 14
abbrev ty_P_runtime_TypeAssertionError : Nat := 15
abbrev ty_P_runtime_PanicNilError : Nat := 16
abbrev ty_P_abi_Type : Nat := 17
abbrev ty_maps_unhashableTypeError : Nat := 19
abbrev ty_int32 : Nat := 21
abbrev ty_laws_TextEdit : Nat := 24
abbrev ty_S_int : Nat := 31
abbrev ty_S_laws_Edit : Nat := 32
abbrev ty_S_laws_Tree : Nat := 44
abbrev ty_laws_Tree : Nat := 46
abbrev ty_S_S_int : Nat := 57
abbrev ty_laws_Dfa : Nat := 59
abbrev ty_S_laws_SEdge : Nat := 68
abbrev ty_S_laws_Spot : Nat := 69
abbrev ty_laws_Sg : Nat := 71
abbrev ty_S_laws_LNode : Nat := 85
abbrev ty_laws_Edit : Nat := 98
abbrev ty_P_int : Nat := 104
abbrev ty_laws_LNode : Nat := 135
abbrev ty_map_int_int : Nat := 140
abbrev ty_P_strings_Builder : Nat := 144
abbrev ty_S_uint8 : Nat := 145
abbrev ty_strings_Builder : Nat := 147
abbrev ty_error : Nat := 149
abbrev ty_laws_Spot : Nat := 154
abbrev ty_laws_SEdge : Nat := 156
abbrev ty_map_string_int : Nat := 161
abbrev ty_P_uint8 : Nat := 164
abbrev ty_uint : Nat := 172
abbrev ty_uint32 : Nat := 173
abbrev ty_runtime_TypeAssertionError : Nat := 177
abbrev ty_abi_TFlag : Nat := 182
abbrev ty_abi_Kind : Nat := 183
abbrev ty_abi_NameOff : Nat := 185
abbrev ty_abi_TypeOff : Nat := 186
abbrev ty_abi_Type : Nat := 188
abbrev n_l_FnExactConstants : Nat := 3
abbrev n_l_FnExactEdited : Nat := 4
abbrev n_l_FnExactApply : Nat := 5
abbrev n_l_FnExactTreeOK : Nat := 6
abbrev n_l_FnExactTreeSize : Nat := 7
abbrev n_l_FnExactDfaRun : Nat := 8
abbrev n_l_FnExactTreeYield : Nat := 9
abbrev n_l_FnExactSgOK : Nat := 10
abbrev n_l_FnExactTermOK : Nat := 11
abbrev n_l_FnExactTreeAt : Nat := 12
abbrev n_l_FnExactLayoutOK : Nat := 13
abbrev n_l_FnExactTreePut : Nat := 14
/-- laws.FnExactTermOK -/
def sgl_FnExactTermOK : Sig := { i := { vs := [.agg [.str, .str, .bool, .ro false 4]] }, o := { vs := [.bool] } }
/-- laws.szTree -/
def sgl_szTree : Sig := { i := { vs := [.agg [.str, .str, .bool, .ro false 4], .int .i64] }, o := { vs := [.int .i64] } }
/-- laws.toTree -/
def sgl_toTree : Sig := { i := { vs := [.agg [.str, .str, .bool, .ro false 4]] }, o := { vs := [.agg [.str, .str, .bool, .own 4]] } }
/-- spec.TermOK -/
def sgs_TermOK : Sig := { i := { vs := [.agg [.str, .str, .bool, .ro false 4]] }, o := { vs := [.bool] } }
/-- impl.TermOK -/
def sgi_TermOK : Sig := { i := { vs := [.agg [.str, .str, .bool, .ro false 4]] }, o := { vs := [.bool] } }
/-- laws.eqTree -/
def sgl_eqTree : Sig := { i := { vs := [.agg [.str, .str, .bool, .ro false 4], .agg [.str, .str, .bool, .ro false 4]] }, o := { vs := [.bool] } }
/-- laws.szTreeS -/
def sgl_szTreeS : Sig := { i := { vs := [.ro false 4, .int .i64] }, o := { vs := [.int .i64] } }
/-- laws.toTreeS -/
def sgl_toTreeS : Sig := { i := { vs := [.ro false 4] }, o := { vs := [.own 4] } }
/-- spec.TreeOK -/
def sgs_TreeOK : Sig := { i := { vs := [.agg [.str, .str, .bool, .ro false 4]] }, o := { vs := [.bool] } }
/-- spec.l12Term -/
def sgs_l12Term : Sig := { i := { vs := [.agg [.str, .str, .bool, .ro false 4]] }, o := { vs := [.bool] } }
/-- impl.TreeOK -/
def sgi_TreeOK : Sig := { i := { vs := [.agg [.str, .str, .bool, .ro false 4]] }, o := { vs := [.bool] } }
/-- impl.termForm -/
def sgi_termForm : Sig := { i := { vs := [.agg [.str, .str, .bool, .ro false 4]] }, o := { vs := [.bool] } }
/-- laws.eqTreeS -/
def sgl_eqTreeS : Sig := { i := { vs := [.ro false 4, .ro false 4] }, o := { vs := [.bool] } }
/-- spec.l01Room -/
def sgs_l01Room : Sig := { i := { vs := [.agg [.str, .str, .bool, .ro false 4], .int .i64, .int .i64] }, o := { vs := [.int .i64] } }
/-- spec.l01Right -/
def sgs_l01Right : Sig := { i := { vs := [.agg [.str, .str, .bool, .ro false 4]] }, o := { vs := [.bool] } }
/-- spec.l01Name -/
def sgs_l01Name : Sig := { i := { vs := [.str] }, o := { vs := [.bool] } }
/-- spec.l12Num -/
def sgs_l12Num : Sig := { i := { vs := [.str] }, o := { vs := [.bool] } }
/-- impl.measure -/
def sgi_measure : Sig := { i := { vs := [.agg [.str, .str, .bool, .ro false 4], .int .i64, .ptr 0 [] none, .ptr 1 [] none], os := [(true, .int .i64), (true, .int .i64)] }, o := { vs := [.bool], os := [(true, .int .i64), (true, .int .i64)] } }
/-- impl.nameOK -/
def sgi_nameOK : Sig := { i := { vs := [.str] }, o := { vs := [.bool] } }
/-- impl.numOK -/
def sgi_numOK : Sig := { i := { vs := [.str] }, o := { vs := [.bool] } }
/-- impl.binds -/
def sgi_binds : Sig := { i := { vs := [.agg [.str, .str, .bool, .ro false 4]] }, o := { vs := [.bool] } }
/-- impl.isId -/
def sgi_isId : Sig := { i := { vs := [.agg [.str, .str, .bool, .ro false 4]] }, o := { vs := [.bool] } }
/-- spec.l01Letter -/
def sgs_l01Letter : Sig := { i := { vs := [.int .u8] }, o := { vs := [.bool] } }
/-- spec.l01NameByte -/
def sgs_l01NameByte : Sig := { i := { vs := [.int .u8] }, o := { vs := [.bool] } }
/-- spec.l01Between -/
def sgs_l01Between : Sig := { i := { vs := [.int .i64, .int .i64, .int .i64] }, o := { vs := [.bool] } }
/-- spec.l03Bytes -/
def sgs_l03Bytes : Sig := { i := { vs := [.str, .int .u8, .int .u8] }, o := { vs := [.bool] } }
/-- impl.isLetter -/
def sgi_isLetter : Sig := { i := { vs := [.int .u8] }, o := { vs := [.bool] } }
/-- impl.inName -/
def sgi_inName : Sig := { i := { vs := [.int .u8] }, o := { vs := [.bool] } }
/-- impl.isDigit -/
def sgi_isDigit : Sig := { i := { vs := [.int .u8] }, o := { vs := [.bool] } }
/-- impl.leafOK -/
def sgi_leafOK : Sig := { i := { vs := [.agg [.str, .str, .bool, .ro false 4], .str] }, o := { vs := [.bool] } }
/-- spec.l01Digit -/
def sgs_l01Digit : Sig := { i := { vs := [.int .u8] }, o := { vs := [.bool] } }
def sigs : List (Nat × Sig) := [(11, sgl_FnExactTermOK), (29, sgl_szTree), (31, sgl_toTree), (48, sgs_TermOK), (49, sgi_TermOK), (33, sgl_eqTree), (64, sgl_szTreeS), (67, sgl_toTreeS), (30, sgs_TreeOK), (90, sgs_l12Term), (32, sgi_TreeOK), (91, sgi_termForm), (69, sgl_eqTreeS), (65, sgs_l01Room), (66, sgs_l01Right), (108, sgs_l01Name), (118, sgs_l12Num), (68, sgi_measure), (87, sgi_nameOK), (119, sgi_numOK), (120, sgi_binds), (121, sgi_isId), (124, sgs_l01Letter), (125, sgs_l01NameByte), (61, sgs_l01Between), (128, sgs_l03Bytes), (114, sgi_isLetter), (115, sgi_inName), (127, sgi_isDigit), (129, sgi_leafOK), (131, sgs_l01Digit)]
noncomputable def Fl_FnExactTermOK (x0 : ByteArray) (x1 : ByteArray) (x2 : Bool) (x3 : List AVal) : Option (Bool) := FnV ctx 11 sgl_FnExactTermOK (x0, x1, x2, x3)
def lsl_FnExactTermOK : List LSig := []
noncomputable def Fl_szTree (x0 : ByteArray) (x1 : ByteArray) (x2 : Bool) (x3 : List AVal) (x4 : Int) : Option (Int) := FnV ctx 29 sgl_szTree (x0, x1, x2, x3, x4)
def lsl_szTree : List LSig := []
noncomputable def Fl_toTree (x0 : ByteArray) (x1 : ByteArray) (x2 : Bool) (x3 : List AVal) : Option (ByteArray × ByteArray × Bool × List AVal) := FnV ctx 31 sgl_toTree (x0, x1, x2, x3)
def lsl_toTree : List LSig := []
noncomputable def Fs_TermOK (x0 : ByteArray) (x1 : ByteArray) (x2 : Bool) (x3 : List AVal) : Option (Bool) := FnV ctx 48 sgs_TermOK (x0, x1, x2, x3)
def lss_TermOK : List LSig := []
noncomputable def Fi_TermOK (x0 : ByteArray) (x1 : ByteArray) (x2 : Bool) (x3 : List AVal) : Option (Bool) := FnV ctx 49 sgi_TermOK (x0, x1, x2, x3)
def lsi_TermOK : List LSig := []
noncomputable def Fl_eqTree (x0 : ByteArray) (x1 : ByteArray) (x2 : Bool) (x3 : List AVal) (x4 : ByteArray) (x5 : ByteArray) (x6 : Bool) (x7 : List AVal) : Option (Bool) := FnV ctx 33 sgl_eqTree (x0, x1, x2, x3, x4, x5, x6, x7)
def lsl_eqTree : List LSig := []
noncomputable def Fl_szTreeS (x0 : List AVal) (x1 : Int) : Option (Int) := FnV ctx 64 sgl_szTreeS (x0, x1)
def Xl_szTreeS_0 : List Ex := [{ out := .ret, st := { env := [(4, .int .i64)] } }, { out := .exit 0, st := { env := [(1, .int .i64)] } }]
def Sl_szTreeS_0 : SP := { env := [(0, .ro false 4), (1, .int .i64), (5, .int .i64)] }
noncomputable def Ll_szTreeS_0 (x0 : List AVal) (x1 : Int) (x2 : Int) : Option ((Int) ⊕ (Int)) := LpV ctx fn64 0 0 Xl_szTreeS_0 Sl_szTreeS_0 (x0, x1, x2)
def lsl_szTreeS : List LSig := [{ h := 0, X := Xl_szTreeS_0, Ss := [Sl_szTreeS_0] }]
noncomputable def Fl_toTreeS (x0 : List AVal) : Option (List AVal) := FnV ctx 67 sgl_toTreeS x0
def Xl_toTreeS_0 : List Ex := [{ out := .exit 0, st := { env := [(3, .ref 3 [])], objs := [(3, false, .own 4)] } }]
def Sl_toTreeS_0 : SP := { env := [(0, .ro false 4), (3, .ref 3 []), (4, .int .i64)], objs := [(3, false, .own 4)] }
noncomputable def Ll_toTreeS_0 (x0 : List AVal) (x1 : Int) (x2 : List AVal) : Option (List AVal) := LpV ctx fn67 0 0 Xl_toTreeS_0 Sl_toTreeS_0 (x0, x1, x2)
def lsl_toTreeS : List LSig := [{ h := 0, X := Xl_toTreeS_0, Ss := [Sl_toTreeS_0] }]
noncomputable def Fs_TreeOK (x0 : ByteArray) (x1 : ByteArray) (x2 : Bool) (x3 : List AVal) : Option (Bool) := FnV ctx 30 sgs_TreeOK (x0, x1, x2, x3)
def lss_TreeOK : List LSig := []
noncomputable def Fs_l12Term (x0 : ByteArray) (x1 : ByteArray) (x2 : Bool) (x3 : List AVal) : Option (Bool) := FnV ctx 90 sgs_l12Term (x0, x1, x2, x3)
def Xs_l12Term_0 : List Ex := [{ out := .ret, st := { env := [(2, .bool)] } }, { out := .exit 2, st := { env := [] } }]
def Ss_l12Term_0 : SP := { env := [(1, .ptr 1 [] none), (4, .int .i64), (5, .int .i64)], objs := [(1, true, .agg [.str, .str, .bool, .ro false 4])] }
noncomputable def Ls_l12Term_0 (x0 : Int) (x1 : Int) (x2 : ByteArray) (x3 : ByteArray) (x4 : Bool) (x5 : List AVal) : Option ((Bool) ⊕ (Unit)) := LpV ctx fn90 0 0 Xs_l12Term_0 Ss_l12Term_0 (x0, x1, x2, x3, x4, x5)
def lss_l12Term : List LSig := [{ h := 0, X := Xs_l12Term_0, Ss := [Ss_l12Term_0] }]
noncomputable def Fi_TreeOK (x0 : ByteArray) (x1 : ByteArray) (x2 : Bool) (x3 : List AVal) : Option (Bool) := FnV ctx 32 sgi_TreeOK (x0, x1, x2, x3)
def lsi_TreeOK : List LSig := []
noncomputable def Fi_termForm (x0 : ByteArray) (x1 : ByteArray) (x2 : Bool) (x3 : List AVal) : Option (Bool) := FnV ctx 91 sgi_termForm (x0, x1, x2, x3)
def Xi_termForm_0 : List Ex := [{ out := .ret, st := { env := [(2, .bool)] } }, { out := .exit 1, st := { env := [] } }]
def Si_termForm_0 : SP := { env := [(1, .ptr 1 [] none), (41, .ro false 4), (42, .int .i64), (43, .int .i64)], objs := [(1, true, .agg [.str, .str, .bool, .ro false 4])] }
noncomputable def Li_termForm_0 (x0 : List AVal) (x1 : Int) (x2 : Int) (x3 : ByteArray) (x4 : ByteArray) (x5 : Bool) (x6 : List AVal) : Option ((Bool) ⊕ (Unit)) := LpV ctx fn91 0 0 Xi_termForm_0 Si_termForm_0 (x0, x1, x2, x3, x4, x5, x6)
def lsi_termForm : List LSig := [{ h := 0, X := Xi_termForm_0, Ss := [Si_termForm_0] }]
noncomputable def Fl_eqTreeS (x0 : List AVal) (x1 : List AVal) : Option (Bool) := FnV ctx 69 sgl_eqTreeS (x0, x1)
def Xl_eqTreeS_0 : List Ex := [{ out := .ret, st := { env := [(4, .bool)] } }, { out := .exit 0, st := { env := [] } }]
def Sl_eqTreeS_0 : SP := { env := [(0, .ro false 4), (1, .ro false 4), (5, .int .i64)] }
noncomputable def Ll_eqTreeS_0 (x0 : List AVal) (x1 : List AVal) (x2 : Int) : Option ((Bool) ⊕ (Unit)) := LpV ctx fn69 0 0 Xl_eqTreeS_0 Sl_eqTreeS_0 (x0, x1, x2)
def lsl_eqTreeS : List LSig := [{ h := 0, X := Xl_eqTreeS_0, Ss := [Sl_eqTreeS_0] }]
noncomputable def Fs_l01Room (x0 : ByteArray) (x1 : ByteArray) (x2 : Bool) (x3 : List AVal) (x4 : Int) (x5 : Int) : Option (Int) := FnV ctx 65 sgs_l01Room (x0, x1, x2, x3, x4, x5)
def Xs_l01Room_0 : List Ex := [{ out := .exit 0, st := { env := [(1, .int .i64)] } }]
def Ss_l01Room_0 : SP := { env := [(1, .int .i64), (2, .int .i64), (3, .ptr 3 [] none), (7, .int .i64)], objs := [(3, true, .agg [.str, .str, .bool, .ro false 4])] }
noncomputable def Ls_l01Room_0 (x0 : Int) (x1 : Int) (x2 : Int) (x3 : ByteArray) (x4 : ByteArray) (x5 : Bool) (x6 : List AVal) : Option (Int) := LpV ctx fn65 0 0 Xs_l01Room_0 Ss_l01Room_0 (x0, x1, x2, x3, x4, x5, x6)
def lss_l01Room : List LSig := [{ h := 0, X := Xs_l01Room_0, Ss := [Ss_l01Room_0] }]
noncomputable def Fs_l01Right (x0 : ByteArray) (x1 : ByteArray) (x2 : Bool) (x3 : List AVal) : Option (Bool) := FnV ctx 66 sgs_l01Right (x0, x1, x2, x3)
def Xs_l01Right_0 : List Ex := [{ out := .ret, st := { env := [(2, .bool)] } }, { out := .exit 0, st := { env := [] } }]
def Ss_l01Right_0 : SP := { env := [(1, .ptr 1 [] none), (3, .int .i64)], objs := [(1, true, .agg [.str, .str, .bool, .ro false 4])] }
noncomputable def Ls_l01Right_0 (x0 : Int) (x1 : ByteArray) (x2 : ByteArray) (x3 : Bool) (x4 : List AVal) : Option ((Bool) ⊕ (Unit)) := LpV ctx fn66 0 0 Xs_l01Right_0 Ss_l01Right_0 (x0, x1, x2, x3, x4)
def lss_l01Right : List LSig := [{ h := 0, X := Xs_l01Right_0, Ss := [Ss_l01Right_0] }]
noncomputable def Fs_l01Name (x0 : ByteArray) : Option (Bool) := FnV ctx 108 sgs_l01Name x0
def Xs_l01Name_0 : List Ex := [{ out := .ret, st := { env := [(2, .bool)] } }, { out := .exit 0, st := { env := [] } }]
def Ss_l01Name_0 : SP := { env := [(0, .str), (3, .int .i64)] }
noncomputable def Ls_l01Name_0 (x0 : ByteArray) (x1 : Int) : Option ((Bool) ⊕ (Unit)) := LpV ctx fn108 0 0 Xs_l01Name_0 Ss_l01Name_0 (x0, x1)
def lss_l01Name : List LSig := [{ h := 0, X := Xs_l01Name_0, Ss := [Ss_l01Name_0] }]
noncomputable def Fs_l12Num (x0 : ByteArray) : Option (Bool) := FnV ctx 118 sgs_l12Num x0
def lss_l12Num : List LSig := []
noncomputable def Fi_measure (x0 : ByteArray) (x1 : ByteArray) (x2 : Bool) (x3 : List AVal) (x4 : Int) (x5 : Int) (x6 : Int) : Option (Bool × Int × Int) := FnV ctx 68 sgi_measure (x0, x1, x2, x3, x4, x5, x6)
def Xi_measure_0 : List Ex := [{ out := .ret, st := { env := [(8, .bool)], objs := [(2000000, true, .int .i64), (2000001, true, .int .i64)] } }, { out := .exit 0, st := { env := [], objs := [(2000000, true, .int .i64), (2000001, true, .int .i64)] } }]
def Si_measure_0 : SP := { env := [(1, .int .i64), (2, .ptr 2000000 [] none), (3, .ptr 2000001 [] none), (53, .ro false 4), (54, .int .i64), (55, .int .i64)], objs := [(2000000, true, .int .i64), (2000001, true, .int .i64)] }
noncomputable def Li_measure_0 (x0 : Int) (x1 : List AVal) (x2 : Int) (x3 : Int) (x4 : Int) (x5 : Int) : Option ((Bool × Int × Int) ⊕ (Int × Int)) := LpV ctx fn68 2 0 Xi_measure_0 Si_measure_0 (x0, x1, x2, x3, x4, x5)
def lsi_measure : List LSig := [{ h := 0, X := Xi_measure_0, Ss := [Si_measure_0] }]
noncomputable def Fi_nameOK (x0 : ByteArray) : Option (Bool) := FnV ctx 87 sgi_nameOK x0
def Xi_nameOK_0 : List Ex := [{ out := .ret, st := { env := [(2, .bool)] } }, { out := .exit 0, st := { env := [] } }]
def Si_nameOK_0 : SP := { env := [(0, .str), (3, .int .i64)] }
noncomputable def Li_nameOK_0 (x0 : ByteArray) (x1 : Int) : Option ((Bool) ⊕ (Unit)) := LpV ctx fn87 0 0 Xi_nameOK_0 Si_nameOK_0 (x0, x1)
def lsi_nameOK : List LSig := [{ h := 0, X := Xi_nameOK_0, Ss := [Si_nameOK_0] }]
noncomputable def Fi_numOK (x0 : ByteArray) : Option (Bool) := FnV ctx 119 sgi_numOK x0
def Xi_numOK_0 : List Ex := [{ out := .ret, st := { env := [(2, .bool)] } }, { out := .exit 0, st := { env := [] } }]
def Si_numOK_0 : SP := { env := [(0, .str), (23, .int .i64), (24, .int .i64)] }
noncomputable def Li_numOK_0 (x0 : ByteArray) (x1 : Int) (x2 : Int) : Option ((Bool) ⊕ (Unit)) := LpV ctx fn119 0 0 Xi_numOK_0 Si_numOK_0 (x0, x1, x2)
def lsi_numOK : List LSig := [{ h := 0, X := Xi_numOK_0, Ss := [Si_numOK_0] }]
noncomputable def Fi_binds (x0 : ByteArray) (x1 : ByteArray) (x2 : Bool) (x3 : List AVal) : Option (Bool) := FnV ctx 120 sgi_binds (x0, x1, x2, x3)
def lsi_binds : List LSig := []
noncomputable def Fi_isId (x0 : ByteArray) (x1 : ByteArray) (x2 : Bool) (x3 : List AVal) : Option (Bool) := FnV ctx 121 sgi_isId (x0, x1, x2, x3)
def lsi_isId : List LSig := []
noncomputable def Fs_l01Letter (x0 : Int) : Option (Bool) := FnV ctx 124 sgs_l01Letter x0
def lss_l01Letter : List LSig := []
noncomputable def Fs_l01NameByte (x0 : Int) : Option (Bool) := FnV ctx 125 sgs_l01NameByte x0
def lss_l01NameByte : List LSig := []
noncomputable def Fs_l01Between (x0 : Int) (x1 : Int) (x2 : Int) : Option (Bool) := FnV ctx 61 sgs_l01Between (x0, x1, x2)
def lss_l01Between : List LSig := []
noncomputable def Fs_l03Bytes (x0 : ByteArray) (x1 : Int) (x2 : Int) : Option (Bool) := FnV ctx 128 sgs_l03Bytes (x0, x1, x2)
def Xs_l03Bytes_0 : List Ex := [{ out := .ret, st := { env := [(6, .bool)] } }, { out := .exit 0, st := { env := [] } }]
def Ss_l03Bytes_0 : SP := { env := [(0, .str), (1, .int .u8), (2, .int .u8), (7, .int .i64)] }
noncomputable def Ls_l03Bytes_0 (x0 : ByteArray) (x1 : Int) (x2 : Int) (x3 : Int) : Option ((Bool) ⊕ (Unit)) := LpV ctx fn128 0 0 Xs_l03Bytes_0 Ss_l03Bytes_0 (x0, x1, x2, x3)
def lss_l03Bytes : List LSig := [{ h := 0, X := Xs_l03Bytes_0, Ss := [Ss_l03Bytes_0] }]
noncomputable def Fi_isLetter (x0 : Int) : Option (Bool) := FnV ctx 114 sgi_isLetter x0
def lsi_isLetter : List LSig := []
noncomputable def Fi_inName (x0 : Int) : Option (Bool) := FnV ctx 115 sgi_inName x0
def lsi_inName : List LSig := []
noncomputable def Fi_isDigit (x0 : Int) : Option (Bool) := FnV ctx 127 sgi_isDigit x0
def lsi_isDigit : List LSig := []
noncomputable def Fi_leafOK (x0 : ByteArray) (x1 : ByteArray) (x2 : Bool) (x3 : List AVal) (x4 : ByteArray) : Option (Bool) := FnV ctx 129 sgi_leafOK (x0, x1, x2, x3, x4)
def lsi_leafOK : List LSig := []
noncomputable def Fs_l01Digit (x0 : Int) : Option (Bool) := FnV ctx 131 sgs_l01Digit x0
def lss_l01Digit : List LSig := []
end Go.Proofs.Ytlaalinfmhiehaa
