/- What the functions of the laws are given and give back, and their names on values; no condition. -/
import Derived.Test.YtlaalinfmhiehaaVmd
import Derived.Test.YtlaalinfmhiehaaVC
import Derived.Tactics
namespace Go.Proofs.Ytlaalinfmhiehaa
open Go.VK AVal

abbrev ty_int64 : Nat := 2
abbrev ty_int : Nat := 3
abbrev ty_bool : Nat := 4
abbrev ty_uint8 : Nat := 5
abbrev ty_abi_BoundsErrorCode : Nat := 6
abbrev ty_runtime_boundsError : Nat := 8
abbrev ty_string : Nat := 9
abbrev ty_runtime_errorString : Nat := 10
abbrev ty_runtime_plainError : Nat := 11
abbrev ty_uintptr : Nat := 12
abbrev ty_runtime_errorAddressString : Nat := 14
abbrev ty_P_runtime_TypeAssertionError : Nat := 15
abbrev ty_P_runtime_PanicNilError : Nat := 16
abbrev ty_P_abi_Type : Nat := 17
abbrev ty_maps_unhashableTypeError : Nat := 19
abbrev ty_int32 : Nat := 21
abbrev ty_laws_TextEdit : Nat := 24
abbrev ty_S_int : Nat := 31
abbrev ty_S_laws_Edit : Nat := 32
abbrev ty_S_laws_Tree : Nat := 44
abbrev ty_laws_Tree : Nat := 46
abbrev ty_S_S_int : Nat := 57
abbrev ty_laws_Dfa : Nat := 59
abbrev ty_S_laws_SEdge : Nat := 68
abbrev ty_S_laws_Spot : Nat := 69
abbrev ty_laws_Sg : Nat := 71
abbrev ty_S_laws_LNode : Nat := 85
abbrev ty_laws_Edit : Nat := 98
abbrev ty_P_int : Nat := 104
abbrev ty_laws_LNode : Nat := 135
abbrev ty_map_int_int : Nat := 140
abbrev ty_P_strings_Builder : Nat := 144
abbrev ty_S_uint8 : Nat := 145
abbrev ty_strings_Builder : Nat := 147
abbrev ty_error : Nat := 149
abbrev ty_laws_Spot : Nat := 154
abbrev ty_laws_SEdge : Nat := 156
abbrev ty_map_string_int : Nat := 161
abbrev ty_P_uint8 : Nat := 164
abbrev ty_uint : Nat := 172
abbrev ty_uint32 : Nat := 173
abbrev ty_runtime_TypeAssertionError : Nat := 177
abbrev ty_abi_TFlag : Nat := 182
abbrev ty_abi_Kind : Nat := 183
abbrev ty_abi_NameOff : Nat := 185
abbrev ty_abi_TypeOff : Nat := 186
abbrev ty_abi_Type : Nat := 188
abbrev n_l_FnExactConstants : Nat := 3
abbrev n_l_FnExactEdited : Nat := 4
abbrev n_l_FnExactApply : Nat := 5
abbrev n_l_FnExactTreeOK : Nat := 6
abbrev n_l_FnExactTreeSize : Nat := 7
abbrev n_l_FnExactDfaRun : Nat := 8
abbrev n_l_FnExactTreeYield : Nat := 9
abbrev n_l_FnExactSgOK : Nat := 10
abbrev n_l_FnExactTermOK : Nat := 11
abbrev n_l_FnExactTreeAt : Nat := 12
abbrev n_l_FnExactLayoutOK : Nat := 13
abbrev n_l_FnExactTreePut : Nat := 14
/-- laws.FnExactLayoutOK -/
def sgl_FnExactLayoutOK : Sig := { i := { vs := [.ro false 4] }, o := { vs := [.bool] } }
/-- laws.szLNodeS -/
def sgl_szLNodeS : Sig := { i := { vs := [.ro false 4, .int .i64] }, o := { vs := [.int .i64] } }
/-- laws.toLNodeS -/
def sgl_toLNodeS : Sig := { i := { vs := [.ro false 4] }, o := { vs := [.own 4] } }
/-- spec.LayoutOK -/
def sgs_LayoutOK : Sig := { i := { vs := [.ro false 4] }, o := { vs := [.bool] } }
/-- impl.LayoutOK -/
def sgi_LayoutOK : Sig := { i := { vs := [.ro false 4] }, o := { vs := [.bool] } }
/-- laws.eqLNodeS -/
def sgl_eqLNodeS : Sig := { i := { vs := [.ro false 4, .ro false 4] }, o := { vs := [.bool] } }
/-- laws.szLNode -/
def sgl_szLNode : Sig := { i := { vs := [.agg [.int .i64, .str, .int .i64, .ro false 1], .int .i64] }, o := { vs := [.int .i64] } }
/-- laws.toLNode -/
def sgl_toLNode : Sig := { i := { vs := [.agg [.int .i64, .str, .int .i64, .ro false 1]] }, o := { vs := [.agg [.int .i64, .str, .int .i64, .own 1]] } }
/-- spec.l01Between -/
def sgs_l01Between : Sig := { i := { vs := [.int .i64, .int .i64, .int .i64] }, o := { vs := [.bool] } }
/-- spec.l14Groups -/
def sgs_l14Groups : Sig := { i := { vs := [.ro false 4] }, o := { vs := [.int .i64] } }
/-- spec.l02In -/
def sgs_l02In : Sig := { i := { vs := [.str, .int .u8] }, o := { vs := [.bool] } }
/-- impl.groups -/
def sgi_groups : Sig := { i := { vs := [.ro false 4] }, o := { vs := [.int .i64] } }
/-- impl.layoutNode -/
def sgi_layoutNode : Sig := { i := { vs := [.ro false 4, .int .i64, .ref 0 []], os := [(false, .mp (.int .i64))] }, o := { vs := [.bool], os := [(false, .mp (.int .i64))] } }
/-- laws.eqLNode -/
def sgl_eqLNode : Sig := { i := { vs := [.agg [.int .i64, .str, .int .i64, .ro false 1], .agg [.int .i64, .str, .int .i64, .ro false 1]] }, o := { vs := [.bool] } }
/-- laws.szIntS -/
def sgl_szIntS : Sig := { i := { vs := [.ro false 1, .int .i64] }, o := { vs := [.int .i64] } }
/-- laws.toIntS -/
def sgl_toIntS : Sig := { i := { vs := [.ro false 1] }, o := { vs := [.own 1] } }
/-- strings.Contains -/
def sgstrings_Contains : Sig := { i := { vs := [.str, .str] }, o := { vs := [.bool] } }
/-- laws.eqIntS -/
def sgl_eqIntS : Sig := { i := { vs := [.ro false 1, .ro false 1] }, o := { vs := [.bool] } }
/-- strings.Index -/
def sgstrings_Index : Sig := { i := { vs := [.str, .str] }, o := { vs := [.int .i64] } }
/-- stringslite.Index -/
def sginternal_stringslite_Index : Sig := { i := { vs := [.str, .str] }, o := { vs := [.int .i64] } }
/-- stringslite.IndexByte -/
def sginternal_stringslite_IndexByte : Sig := { i := { vs := [.str, .int .u8] }, o := { vs := [.int .i64] } }
def sigs : List (Nat × Sig) := [(13, sgl_FnExactLayoutOK), (54, sgl_szLNodeS), (56, sgl_toLNodeS), (55, sgs_LayoutOK), (57, sgi_LayoutOK), (58, sgl_eqLNodeS), (99, sgl_szLNode), (102, sgl_toLNode), (61, sgs_l01Between), (100, sgs_l14Groups), (101, sgs_l02In), (103, sgi_groups), (104, sgi_layoutNode), (105, sgl_eqLNode), (72, sgl_szIntS), (21, sgl_toIntS), (123, sgstrings_Contains), (24, sgl_eqIntS), (130, sgstrings_Index), (133, sginternal_stringslite_Index), (134, sginternal_stringslite_IndexByte)]
noncomputable def Fl_FnExactLayoutOK (x0 : List AVal) : Option (Bool) := FnV ctx 13 sgl_FnExactLayoutOK x0
def lsl_FnExactLayoutOK : List LSig := []
noncomputable def Fl_szLNodeS (x0 : List AVal) (x1 : Int) : Option (Int) := FnV ctx 54 sgl_szLNodeS (x0, x1)
def Xl_szLNodeS_0 : List Ex := [{ out := .ret, st := { env := [(4, .int .i64)] } }, { out := .exit 0, st := { env := [(1, .int .i64)] } }]
def Sl_szLNodeS_0 : SP := { env := [(0, .ro false 4), (1, .int .i64), (5, .int .i64)] }
noncomputable def Ll_szLNodeS_0 (x0 : List AVal) (x1 : Int) (x2 : Int) : Option ((Int) ⊕ (Int)) := LpV ctx fn54 0 0 Xl_szLNodeS_0 Sl_szLNodeS_0 (x0, x1, x2)
def lsl_szLNodeS : List LSig := [{ h := 0, X := Xl_szLNodeS_0, Ss := [Sl_szLNodeS_0] }]
noncomputable def Fl_toLNodeS (x0 : List AVal) : Option (List AVal) := FnV ctx 56 sgl_toLNodeS x0
def Xl_toLNodeS_0 : List Ex := [{ out := .exit 0, st := { env := [(3, .ref 3 [])], objs := [(3, false, .own 4)] } }]
def Sl_toLNodeS_0 : SP := { env := [(0, .ro false 4), (3, .ref 3 []), (4, .int .i64)], objs := [(3, false, .own 4)] }
noncomputable def Ll_toLNodeS_0 (x0 : List AVal) (x1 : Int) (x2 : List AVal) : Option (List AVal) := LpV ctx fn56 0 0 Xl_toLNodeS_0 Sl_toLNodeS_0 (x0, x1, x2)
def lsl_toLNodeS : List LSig := [{ h := 0, X := Xl_toLNodeS_0, Ss := [Sl_toLNodeS_0] }]
noncomputable def Fs_LayoutOK (x0 : List AVal) : Option (Bool) := FnV ctx 55 sgs_LayoutOK x0
def Xs_LayoutOK_0 : List Ex := [{ out := .ret, st := { env := [(2, .bool)] } }, { out := .exit 0, st := { env := [(0, .ro false 4), (3, .ref 3 [])], objs := [(3, false, .own 1)] } }]
def Ss_LayoutOK_0 : SP := { env := [(0, .ro false 4), (3, .ref 3 []), (4, .int .i64)], objs := [(3, false, .own 1)] }
noncomputable def Ls_LayoutOK_0 (x0 : List AVal) (x1 : Int) (x2 : List AVal) : Option ((Bool) ⊕ (List AVal × List AVal)) := LpV ctx fn55 0 0 Xs_LayoutOK_0 Ss_LayoutOK_0 (x0, x1, x2)
def Xs_LayoutOK_1 : List Ex := [{ out := .ret, st := { env := [(2, .bool)] } }, { out := .exit 3, st := { env := [(0, .ro false 4), (3, .ref 3 []), (4, .int .i64)], objs := [(3, false, .own 1)] } }]
def Ss_LayoutOK_1 : SP := { env := [(0, .ro false 4), (3, .ref 3 []), (4, .int .i64), (5, .ptr 5 [] none), (6, .int .i64), (7, .int .i64)], objs := [(3, false, .own 1), (5, true, .agg [.int .i64, .str, .int .i64, .ro false 1])] }
noncomputable def Ls_LayoutOK_1 (x0 : List AVal) (x1 : Int) (x2 : Int) (x3 : Int) (x4 : List AVal) (x5 : Int) (x6 : ByteArray) (x7 : Int) (x8 : List AVal) : Option ((Bool) ⊕ (List AVal × Int × List AVal)) := LpV ctx fn55 0 1 Xs_LayoutOK_1 Ss_LayoutOK_1 (x0, x1, x2, x3, x4, x5, x6, x7, x8)
def Xs_LayoutOK_2 : List Ex := [{ out := .ret, st := { env := [(2, .bool)] } }, { out := .exit 5, st := { env := [] } }]
def Ss_LayoutOK_2 : SP := { env := [(0, .ro false 4), (3, .ref 3 []), (8, .int .i64)], objs := [(3, false, .own 1)] }
noncomputable def Ls_LayoutOK_2 (x0 : List AVal) (x1 : Int) (x2 : List AVal) : Option ((Bool) ⊕ (Unit)) := LpV ctx fn55 0 2 Xs_LayoutOK_2 Ss_LayoutOK_2 (x0, x1, x2)
def lss_LayoutOK : List LSig := [{ h := 0, X := Xs_LayoutOK_0, Ss := [Ss_LayoutOK_0] }, { h := 1, X := Xs_LayoutOK_1, Ss := [Ss_LayoutOK_1] }, { h := 2, X := Xs_LayoutOK_2, Ss := [Ss_LayoutOK_2] }]
noncomputable def Fi_LayoutOK (x0 : List AVal) : Option (Bool) := FnV ctx 57 sgi_LayoutOK x0
def Xi_LayoutOK_0 : List Ex := [{ out := .ret, st := { env := [(2, .bool)] } }, { out := .exit 0, st := { env := [(0, .ro false 4), (3, .ref 3 [])], objs := [(3, false, .mp (.int .i64))] } }]
def Si_LayoutOK_0 : SP := { env := [(0, .ro false 4), (3, .ref 3 []), (20, .int .i64), (21, .int .i64)], objs := [(3, false, .mp (.int .i64))] }
noncomputable def Li_LayoutOK_0 (x0 : List AVal) (x1 : Int) (x2 : Int) (x3 : List AVal) : Option ((Bool) ⊕ (List AVal × List AVal)) := LpV ctx fn57 0 0 Xi_LayoutOK_0 Si_LayoutOK_0 (x0, x1, x2, x3)
def lsi_LayoutOK : List LSig := [{ h := 0, X := Xi_LayoutOK_0, Ss := [Si_LayoutOK_0] }]
noncomputable def Fl_eqLNodeS (x0 : List AVal) (x1 : List AVal) : Option (Bool) := FnV ctx 58 sgl_eqLNodeS (x0, x1)
def Xl_eqLNodeS_0 : List Ex := [{ out := .ret, st := { env := [(4, .bool)] } }, { out := .exit 0, st := { env := [] } }]
def Sl_eqLNodeS_0 : SP := { env := [(0, .ro false 4), (1, .ro false 4), (5, .int .i64)] }
noncomputable def Ll_eqLNodeS_0 (x0 : List AVal) (x1 : List AVal) (x2 : Int) : Option ((Bool) ⊕ (Unit)) := LpV ctx fn58 0 0 Xl_eqLNodeS_0 Sl_eqLNodeS_0 (x0, x1, x2)
def lsl_eqLNodeS : List LSig := [{ h := 0, X := Xl_eqLNodeS_0, Ss := [Sl_eqLNodeS_0] }]
noncomputable def Fl_szLNode (x0 : Int) (x1 : ByteArray) (x2 : Int) (x3 : List AVal) (x4 : Int) : Option (Int) := FnV ctx 99 sgl_szLNode (x0, x1, x2, x3, x4)
def lsl_szLNode : List LSig := []
noncomputable def Fl_toLNode (x0 : Int) (x1 : ByteArray) (x2 : Int) (x3 : List AVal) : Option (Int × ByteArray × Int × List AVal) := FnV ctx 102 sgl_toLNode (x0, x1, x2, x3)
def lsl_toLNode : List LSig := []
noncomputable def Fs_l01Between (x0 : Int) (x1 : Int) (x2 : Int) : Option (Bool) := FnV ctx 61 sgs_l01Between (x0, x1, x2)
def lss_l01Between : List LSig := []
noncomputable def Fs_l14Groups (x0 : List AVal) : Option (Int) := FnV ctx 100 sgs_l14Groups x0
def Xs_l14Groups_0 : List Ex := [{ out := .exit 0, st := { env := [(3, .int .i64)] } }]
def Ss_l14Groups_0 : SP := { env := [(0, .ro false 4), (3, .int .i64), (4, .int .i64)] }
noncomputable def Ls_l14Groups_0 (x0 : List AVal) (x1 : Int) (x2 : Int) : Option (Int) := LpV ctx fn100 0 0 Xs_l14Groups_0 Ss_l14Groups_0 (x0, x1, x2)
def lss_l14Groups : List LSig := [{ h := 0, X := Xs_l14Groups_0, Ss := [Ss_l14Groups_0] }]
noncomputable def Fs_l02In (x0 : ByteArray) (x1 : Int) : Option (Bool) := FnV ctx 101 sgs_l02In (x0, x1)
def Xs_l02In_0 : List Ex := [{ out := .ret, st := { env := [(4, .bool)] } }, { out := .exit 0, st := { env := [] } }]
def Ss_l02In_0 : SP := { env := [(0, .str), (1, .int .u8), (5, .int .i64)] }
noncomputable def Ls_l02In_0 (x0 : ByteArray) (x1 : Int) (x2 : Int) : Option ((Bool) ⊕ (Unit)) := LpV ctx fn101 0 0 Xs_l02In_0 Ss_l02In_0 (x0, x1, x2)
def lss_l02In : List LSig := [{ h := 0, X := Xs_l02In_0, Ss := [Ss_l02In_0] }]
noncomputable def Fi_groups (x0 : List AVal) : Option (Int) := FnV ctx 103 sgi_groups x0
def Xi_groups_0 : List Ex := [{ out := .exit 0, st := { env := [(3, .int .i64)] } }]
def Si_groups_0 : SP := { env := [(3, .int .i64), (6, .ro false 4), (7, .int .i64), (8, .int .i64)] }
noncomputable def Li_groups_0 (x0 : Int) (x1 : List AVal) (x2 : Int) (x3 : Int) : Option (Int) := LpV ctx fn103 0 0 Xi_groups_0 Si_groups_0 (x0, x1, x2, x3)
def lsi_groups : List LSig := [{ h := 0, X := Xi_groups_0, Ss := [Si_groups_0] }]
noncomputable def Fi_layoutNode (x0 : List AVal) (x1 : Int) (x2 : List AVal) : Option (Bool × List AVal) := FnV ctx 104 sgi_layoutNode (x0, x1, x2)
def Xi_layoutNode_0 : List Ex := [{ out := .ret, st := { env := [(6, .bool)], objs := [(2000000, false, .mp (.int .i64))] } }, { out := .exit 1, st := { env := [], objs := [(2000000, false, .mp (.int .i64))] } }]
def Si_layoutNode_0 : SP := { env := [(1, .int .i64), (2, .ref 2000000 []), (106, .ro false 1), (107, .int .i64), (108, .int .i64)], objs := [(2000000, false, .mp (.int .i64))] }
noncomputable def Li_layoutNode_0 (x0 : Int) (x1 : List AVal) (x2 : Int) (x3 : Int) (x4 : List AVal) : Option ((Bool × List AVal) ⊕ (List AVal)) := LpV ctx fn104 1 0 Xi_layoutNode_0 Si_layoutNode_0 (x0, x1, x2, x3, x4)
def lsi_layoutNode : List LSig := [{ h := 0, X := Xi_layoutNode_0, Ss := [Si_layoutNode_0] }]
noncomputable def Fl_eqLNode (x0 : Int) (x1 : ByteArray) (x2 : Int) (x3 : List AVal) (x4 : Int) (x5 : ByteArray) (x6 : Int) (x7 : List AVal) : Option (Bool) := FnV ctx 105 sgl_eqLNode (x0, x1, x2, x3, x4, x5, x6, x7)
def lsl_eqLNode : List LSig := []
noncomputable def Fl_szIntS (x0 : List AVal) (x1 : Int) : Option (Int) := FnV ctx 72 sgl_szIntS (x0, x1)
def lsl_szIntS : List LSig := []
noncomputable def Fl_toIntS (x0 : List AVal) : Option (List AVal) := FnV ctx 21 sgl_toIntS x0
def Xl_toIntS_0 : List Ex := [{ out := .exit 0, st := { env := [(3, .ref 3 [])], objs := [(3, false, .own 1)] } }]
def Sl_toIntS_0 : SP := { env := [(0, .ro false 1), (3, .ref 3 []), (4, .int .i64)], objs := [(3, false, .own 1)] }
noncomputable def Ll_toIntS_0 (x0 : List AVal) (x1 : Int) (x2 : List AVal) : Option (List AVal) := LpV ctx fn21 0 0 Xl_toIntS_0 Sl_toIntS_0 (x0, x1, x2)
def lsl_toIntS : List LSig := [{ h := 0, X := Xl_toIntS_0, Ss := [Sl_toIntS_0] }]
noncomputable def Fstrings_Contains (x0 : ByteArray) (x1 : ByteArray) : Option (Bool) := FnV ctx 123 sgstrings_Contains (x0, x1)
def lsstrings_Contains : List LSig := []
noncomputable def Fl_eqIntS (x0 : List AVal) (x1 : List AVal) : Option (Bool) := FnV ctx 24 sgl_eqIntS (x0, x1)
def Xl_eqIntS_0 : List Ex := [{ out := .ret, st := { env := [(4, .bool)] } }, { out := .exit 0, st := { env := [] } }]
def Sl_eqIntS_0 : SP := { env := [(0, .ro false 1), (1, .ro false 1), (5, .int .i64)] }
noncomputable def Ll_eqIntS_0 (x0 : List AVal) (x1 : List AVal) (x2 : Int) : Option ((Bool) ⊕ (Unit)) := LpV ctx fn24 0 0 Xl_eqIntS_0 Sl_eqIntS_0 (x0, x1, x2)
def lsl_eqIntS : List LSig := [{ h := 0, X := Xl_eqIntS_0, Ss := [Sl_eqIntS_0] }]
noncomputable def Fstrings_Index (x0 : ByteArray) (x1 : ByteArray) : Option (Int) := FnV ctx 130 sgstrings_Index (x0, x1)
def lsstrings_Index : List LSig := []
noncomputable def Finternal_stringslite_Index (x0 : ByteArray) (x1 : ByteArray) : Option (Int) := FnV ctx 133 sginternal_stringslite_Index (x0, x1)
def lsinternal_stringslite_Index : List LSig := []
noncomputable def Finternal_stringslite_IndexByte (x0 : ByteArray) (x1 : Int) : Option (Int) := FnV ctx 134 sginternal_stringslite_IndexByte (x0, x1)
def lsinternal_stringslite_IndexByte : List LSig := []
end Go.Proofs.Ytlaalinfmhiehaa
