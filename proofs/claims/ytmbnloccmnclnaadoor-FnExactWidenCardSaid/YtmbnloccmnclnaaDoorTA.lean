/- What the functions of the laws are given and give back, and their names on values; no condition. -/
import Derived.Test.YtmbnloccmnclnaaDoorVmd
import Derived.Test.YtmbnloccmnclnaaDoorVC
import Derived.Tactics
namespace Go.Proofs.YtmbnloccmnclnaaDoor
open Go.VK AVal

abbrev ty_int64 : Nat := 2
abbrev ty_int : Nat := 3
abbrev ty_bool : Nat := 4
abbrev ty_uint8 : Nat := 5
abbrev ty_abi_BoundsErrorCode : Nat := 6
abbrev ty_runtime_boundsError : Nat := 8
abbrev ty_string : Nat := 9
abbrev ty_runtime_errorString : Nat := 10
abbrev ty_runtime_plainError : Nat := 11
abbrev ty_uintptr : Nat := 12
abbrev ty_runtime_errorAddressString : Nat := 14
abbrev ty_P_runtime_TypeAssertionError : Nat := 15
abbrev ty_P_runtime_PanicNilError : Nat := 16
abbrev ty_P_abi_Type : Nat := 17
abbrev ty_maps_unhashableTypeError : Nat := 19
abbrev ty_int32 : Nat := 21
abbrev ty_S_S_laws_Act : Nat := 22
abbrev ty_S_S_int : Nat := 23
abbrev ty_laws_Table : Nat := 25
abbrev ty_S_int : Nat := 28
abbrev ty_S_laws_Tree : Nat := 41
abbrev ty_laws_Packed : Nat := 56
abbrev ty_S_laws_DagNode : Nat := 62
abbrev ty_laws_Dag : Nat := 64
abbrev ty_map_string_int : Nat := 77
abbrev ty_laws_Tree : Nat := 88
abbrev ty_S_laws_Act : Nat := 114
abbrev ty_P_strings_Builder : Nat := 119
abbrev ty_S_uint8 : Nat := 120
abbrev ty_strings_Builder : Nat := 122
abbrev ty_error : Nat := 124
abbrev ty_P_int : Nat := 133
abbrev ty_laws_DagNode : Nat := 136
abbrev ty_laws_Act : Nat := 139
abbrev ty_P_uint8 : Nat := 140
abbrev ty_uint64 : Nat := 149
abbrev ty_uint32 : Nat := 157
abbrev ty_uint : Nat := 160
abbrev ty_runtime_TypeAssertionError : Nat := 166
abbrev ty_abi_TFlag : Nat := 171
abbrev ty_abi_Kind : Nat := 172
abbrev ty_abi_NameOff : Nat := 174
abbrev ty_abi_TypeOff : Nat := 175
abbrev ty_abi_Type : Nat := 177
abbrev n_l_FnExactShrink : Nat := 3
abbrev n_l_FnExactShare : Nat := 4
abbrev n_l_FnExactWiden : Nat := 5
abbrev n_l_FnExactUnshare : Nat := 6
/-- laws.FnExactShrink -/
def sgl_FnExactShrink : Sig := { i := { vs := [.agg [.ro false 1, .ro false 1]] }, o := { vs := [.bool] } }
/-- laws.szTable -/
def sgl_szTable : Sig := { i := { vs := [.agg [.ro false 1, .ro false 1], .int .i64] }, o := { vs := [.int .i64] } }
/-- laws.toTable -/
def sgl_toTable : Sig := { i := { vs := [.agg [.ro false 1, .ro false 1]] }, o := { vs := [.agg [.own 1, .own 1]] } }
/-- spec.Shrink -/
def sgs_Shrink : Sig := { i := { vs := [.agg [.ro false 1, .ro false 1]] }, o := { vs := [.agg [.ro false 1, .ro false 1, .ro false 1, .ro false 1], .int .i64] } }
/-- impl.Shrink -/
def sgi_Shrink : Sig := { i := { vs := [.agg [.ro false 1, .ro false 1]] }, o := { vs := [.agg [.own 1, .own 1, .own 1, .own 1], .int .i64] } }
/-- laws.eqPacked -/
def sgl_eqPacked : Sig := { i := { vs := [.agg [.ro false 1, .ro false 1, .ro false 1, .ro false 1], .agg [.ro false 1, .ro false 1, .ro false 1, .ro false 1]] }, o := { vs := [.bool] } }
/-- laws.eqTable -/
def sgl_eqTable : Sig := { i := { vs := [.agg [.ro false 1, .ro false 1], .agg [.ro false 1, .ro false 1]] }, o := { vs := [.bool] } }
/-- laws.markTable -/
def sgl_markTable : Sig := { i := { vs := [.agg [.ref 0 [], .ref 1 []], .int .i64], os := [(false, .own 1), (false, .own 1)] }, o := { vs := [.int .i64], os := [(false, .own 1), (false, .own 1)] } }
/-- laws.markPacked -/
def sgl_markPacked : Sig := { i := { vs := [.agg [.ref 0 [], .ref 1 [], .ref 2 [], .ref 3 []], .int .i64], os := [(false, .own 1), (false, .own 1), (false, .own 1), (false, .own 1)] }, o := { vs := [.int .i64], os := [(false, .own 1), (false, .own 1), (false, .own 1), (false, .own 1)] } }
/-- laws.heldPacked -/
def sgl_heldPacked : Sig := { i := { vs := [.agg [.ro false 1, .ro false 1, .ro false 1, .ro false 1], .int .i64] }, o := { vs := [.int .i64] } }
/-- laws.szActSS -/
def sgl_szActSS : Sig := { i := { vs := [.ro false 1, .int .i64] }, o := { vs := [.int .i64] } }
/-- laws.szIntSS -/
def sgl_szIntSS : Sig := { i := { vs := [.ro false 1, .int .i64] }, o := { vs := [.int .i64] } }
/-- laws.toActSS -/
def sgl_toActSS : Sig := { i := { vs := [.ro false 1] }, o := { vs := [.own 1] } }
/-- laws.toIntSS -/
def sgl_toIntSS : Sig := { i := { vs := [.ro false 1] }, o := { vs := [.own 1] } }
/-- spec.l05Even -/
def sgs_l05Even : Sig := { i := { vs := [.agg [.ro false 1, .ro false 1]] }, o := { vs := [.bool] } }
/-- spec.l05Pack -/
def sgs_l05Pack : Sig := { i := { vs := [.agg [.ro false 1, .ro false 1]] }, o := { vs := [.agg [.ro false 1, .ro false 1, .ro false 1, .ro false 1]] } }
/-- impl.actsKey -/
def sgi_actsKey : Sig := { i := { vs := [.ro false 2] }, o := { vs := [.str] } }
/-- impl.key -/
def sgi_key : Sig := { i := { vs := [.ro false 1] }, o := { vs := [.str] } }
/-- laws.eqActSS -/
def sgl_eqActSS : Sig := { i := { vs := [.ro false 1, .ro false 1] }, o := { vs := [.bool] } }
/-- laws.eqIntSS -/
def sgl_eqIntSS : Sig := { i := { vs := [.ro false 1, .ro false 1] }, o := { vs := [.bool] } }
/-- laws.eqIntS -/
def sgl_eqIntS : Sig := { i := { vs := [.ro false 1, .ro false 1] }, o := { vs := [.bool] } }
/-- laws.markActSS -/
def sgl_markActSS : Sig := { i := { vs := [.ref 0 [], .int .i64], os := [(false, .own 1)] }, o := { vs := [.int .i64], os := [(false, .own 1)] } }
/-- laws.markIntSS -/
def sgl_markIntSS : Sig := { i := { vs := [.ref 0 [], .int .i64], os := [(false, .own 1)] }, o := { vs := [.int .i64], os := [(false, .own 1)] } }
/-- laws.markIntS -/
def sgl_markIntS : Sig := { i := { vs := [.ref 0 [], .int .i64], os := [(false, .own 1)] }, o := { vs := [.int .i64], os := [(false, .own 1)] } }
/-- laws.heldActSS -/
def sgl_heldActSS : Sig := { i := { vs := [.ro false 1, .int .i64] }, o := { vs := [.int .i64] } }
/-- laws.heldIntSS -/
def sgl_heldIntSS : Sig := { i := { vs := [.ro false 1, .int .i64] }, o := { vs := [.int .i64] } }
/-- laws.heldIntS -/
def sgl_heldIntS : Sig := { i := { vs := [.ro false 1, .int .i64] }, o := { vs := [.int .i64] } }
/-- laws.szActS -/
def sgl_szActS : Sig := { i := { vs := [.ro false 2, .int .i64] }, o := { vs := [.int .i64] } }
/-- laws.szIntS -/
def sgl_szIntS : Sig := { i := { vs := [.ro false 1, .int .i64] }, o := { vs := [.int .i64] } }
/-- laws.toActS -/
def sgl_toActS : Sig := { i := { vs := [.ro false 2] }, o := { vs := [.own 2] } }
/-- laws.toIntS -/
def sgl_toIntS : Sig := { i := { vs := [.ro false 1] }, o := { vs := [.own 1] } }
/-- spec.l05SameActs -/
def sgs_l05SameActs : Sig := { i := { vs := [.ro false 2, .ro false 2] }, o := { vs := [.bool] } }
/-- spec.l05SameInts -/
def sgs_l05SameInts : Sig := { i := { vs := [.ro false 1, .ro false 1] }, o := { vs := [.bool] } }
/-- impl.itoa -/
def sgi_itoa : Sig := { i := { vs := [.int .i64] }, o := { vs := [.str] } }
/-- (*strings.Builder).WriteString -/
def sgstrings_Builder_WriteString : Sig := { i := { vs := [.ref 0 [], .str], os := [(false, .mp .oth)] }, o := { vs := [.int .i64, .und], os := [(false, .mp .oth)] } }
/-- (*strings.Builder).WriteByte -/
def sgstrings_Builder_WriteByte : Sig := { i := { vs := [.ref 0 [], .int .u8], os := [(false, .mp .oth)] }, o := { vs := [.und], os := [(false, .mp .oth)] } }
/-- (*strings.Builder).String -/
def sgstrings_Builder_String : Sig := { i := { vs := [.ref 0 []], os := [(false, .mp .oth)] }, o := { vs := [.str], os := [(false, .und)] } }
/-- laws.eqActS -/
def sgl_eqActS : Sig := { i := { vs := [.ro false 2, .ro false 2] }, o := { vs := [.bool] } }
/-- laws.markActS -/
def sgl_markActS : Sig := { i := { vs := [.ref 0 [], .int .i64], os := [(false, .own 2)] }, o := { vs := [.int .i64], os := [(false, .own 2)] } }
/-- laws.heldActS -/
def sgl_heldActS : Sig := { i := { vs := [.ro false 2, .int .i64] }, o := { vs := [.int .i64] } }
/-- laws.toAct -/
def sgl_toAct : Sig := { i := { vs := [.agg [.int .i64, .int .i64]] }, o := { vs := [.agg [.int .i64, .int .i64]] } }
/-- strconv.Itoa -/
def sgstrconv_Itoa : Sig := { i := { vs := [.int .i64] }, o := { vs := [.str] } }
/-- laws.eqAct -/
def sgl_eqAct : Sig := { i := { vs := [.agg [.int .i64, .int .i64], .agg [.int .i64, .int .i64]] }, o := { vs := [.bool] } }
/-- laws.FnExactWiden -/
def sgl_FnExactWiden : Sig := { i := { vs := [.agg [.ro false 1, .ro false 1, .ro false 1, .ro false 1]] }, o := { vs := [.bool] } }
/-- laws.szPacked -/
def sgl_szPacked : Sig := { i := { vs := [.agg [.ro false 1, .ro false 1, .ro false 1, .ro false 1], .int .i64] }, o := { vs := [.int .i64] } }
/-- laws.toPacked -/
def sgl_toPacked : Sig := { i := { vs := [.agg [.ro false 1, .ro false 1, .ro false 1, .ro false 1]] }, o := { vs := [.agg [.own 1, .own 1, .own 1, .own 1]] } }
/-- spec.Widen -/
def sgs_Widen : Sig := { i := { vs := [.agg [.ro false 1, .ro false 1, .ro false 1, .ro false 1]] }, o := { vs := [.agg [.ro false 1, .ro false 1], .int .i64] } }
/-- impl.Widen -/
def sgi_Widen : Sig := { i := { vs := [.agg [.ro false 1, .ro false 1, .ro false 1, .ro false 1]] }, o := { vs := [.agg [.own 1, .own 1], .int .i64] } }
/-- laws.heldTable -/
def sgl_heldTable : Sig := { i := { vs := [.agg [.ro false 1, .ro false 1], .int .i64] }, o := { vs := [.int .i64] } }
/-- spec.l01Between -/
def sgs_l01Between : Sig := { i := { vs := [.int .i64, .int .i64, .int .i64] }, o := { vs := [.bool] } }
/-- impl.samePacked -/
def sgi_samePacked : Sig := { i := { vs := [.agg [.ro false 1, .ro false 1, .ro false 1, .ro false 1], .agg [.ro false 1, .ro false 1, .ro false 1, .ro false 1]] }, o := { vs := [.bool] } }
def sigs : List (Nat × Sig) := [(3, sgl_FnExactShrink), (7, sgl_szTable), (9, sgl_toTable), (8, sgs_Shrink), (10, sgi_Shrink), (11, sgl_eqPacked), (12, sgl_eqTable), (13, sgl_markTable), (14, sgl_markPacked), (15, sgl_heldPacked), (35, sgl_szActSS), (36, sgl_szIntSS), (39, sgl_toActSS), (40, sgl_toIntSS), (37, sgs_l05Even), (38, sgs_l05Pack), (41, sgi_actsKey), (42, sgi_key), (43, sgl_eqActSS), (44, sgl_eqIntSS), (45, sgl_eqIntS), (46, sgl_markActSS), (47, sgl_markIntSS), (48, sgl_markIntS), (49, sgl_heldActSS), (50, sgl_heldIntSS), (51, sgl_heldIntS), (74, sgl_szActS), (63, sgl_szIntS), (76, sgl_toActS), (66, sgl_toIntS), (75, sgs_l05SameActs), (65, sgs_l05SameInts), (78, sgi_itoa), (77, sgstrings_Builder_WriteString), (79, sgstrings_Builder_WriteByte), (80, sgstrings_Builder_String), (81, sgl_eqActS), (82, sgl_markActS), (83, sgl_heldActS), (91, sgl_toAct), (93, sgstrconv_Itoa), (94, sgl_eqAct), (5, sgl_FnExactWiden), (25, sgl_szPacked), (27, sgl_toPacked), (26, sgs_Widen), (28, sgi_Widen), (29, sgl_heldTable), (64, sgs_l01Between), (67, sgi_samePacked)]
noncomputable def Fl_FnExactShrink (x0 : List AVal) (x1 : List AVal) : Option (Bool) := FnV ctx 3 sgl_FnExactShrink (x0, x1)
def lsl_FnExactShrink : List LSig := []
noncomputable def Fl_szTable (x0 : List AVal) (x1 : List AVal) (x2 : Int) : Option (Int) := FnV ctx 7 sgl_szTable (x0, x1, x2)
def lsl_szTable : List LSig := []
noncomputable def Fl_toTable (x0 : List AVal) (x1 : List AVal) : Option (List AVal × List AVal) := FnV ctx 9 sgl_toTable (x0, x1)
def lsl_toTable : List LSig := []
noncomputable def Fs_Shrink (x0 : List AVal) (x1 : List AVal) : Option (List AVal × List AVal × List AVal × List AVal × Int) := FnV ctx 8 sgs_Shrink (x0, x1)
def lss_Shrink : List LSig := []
noncomputable def Fi_Shrink (x0 : List AVal) (x1 : List AVal) : Option (List AVal × List AVal × List AVal × List AVal × Int) := FnV ctx 10 sgi_Shrink (x0, x1)
def Xi_Shrink_0 : List Ex := [{ out := .ret, st := { env := [(2, .ptr 2 [] none), (3, .int .i64)], objs := [(2, true, .agg [.own 1, .own 1, .own 1, .own 1])] } }, { out := .exit 0, st := { env := [(1, .ptr 1 [] none), (2, .ptr 2 [] none)], objs := [(1, true, .agg [.ro false 1, .ro false 1]), (2, true, .agg [.own 1, .own 1, .own 1, .own 1])] } }]
def Si_Shrink_0 : SP := { env := [(1, .ptr 1 [] none), (2, .ptr 2 [] none), (28, .int .i64), (29, .int .i64)], objs := [(1, true, .agg [.ro false 1, .ro false 1]), (2, true, .agg [.own 1, .own 1, .own 1, .own 1])] }
noncomputable def Li_Shrink_0 (x0 : Int) (x1 : Int) (x2 : List AVal) (x3 : List AVal) (x4 : List AVal) (x5 : List AVal) (x6 : List AVal) (x7 : List AVal) : Option ((Int × List AVal × List AVal × List AVal × List AVal) ⊕ (List AVal × List AVal × List AVal × List AVal × List AVal × List AVal)) := LpV ctx fn10 0 0 Xi_Shrink_0 Si_Shrink_0 (x0, x1, x2, x3, x4, x5, x6, x7)
def Xi_Shrink_1 : List Ex := [{ out := .exit 2, st := { env := [(2, .ptr 2 [] none), (5, .ptr 5 [] none)], objs := [(2, true, .agg [.own 1, .own 1, .own 1, .own 1]), (5, true, .agg [.own 1, .own 1, .own 1, .own 1])] } }]
def Si_Shrink_1 : SP := { env := [(1, .ptr 1 [] none), (2, .ptr 2 [] none), (5, .ptr 5 [] none), (6, .ref 6 []), (7, .ref 7 []), (64, .int .i64), (65, .int .i64)], objs := [(1, true, .agg [.ro false 1, .ro false 1]), (2, true, .agg [.own 1, .own 1, .own 1, .own 1]), (5, true, .agg [.own 1, .own 1, .own 1, .own 1]), (6, false, .mp .str), (7, false, .mp .str)] }
noncomputable def Li_Shrink_1 (x0 : Int) (x1 : Int) (x2 : List AVal) (x3 : List AVal) (x4 : List AVal) (x5 : List AVal) (x6 : List AVal) (x7 : List AVal) (x8 : List AVal) (x9 : List AVal) (x10 : List AVal) (x11 : List AVal) (x12 : List AVal) (x13 : List AVal) : Option (List AVal × List AVal × List AVal × List AVal × List AVal × List AVal × List AVal × List AVal) := LpV ctx fn10 0 1 Xi_Shrink_1 Si_Shrink_1 (x0, x1, x2, x3, x4, x5, x6, x7, x8, x9, x10, x11, x12, x13)
def lsi_Shrink : List LSig := [{ h := 0, X := Xi_Shrink_0, Ss := [Si_Shrink_0] }, { h := 1, X := Xi_Shrink_1, Ss := [Si_Shrink_1] }]
noncomputable def Fl_eqPacked (x0 : List AVal) (x1 : List AVal) (x2 : List AVal) (x3 : List AVal) (x4 : List AVal) (x5 : List AVal) (x6 : List AVal) (x7 : List AVal) : Option (Bool) := FnV ctx 11 sgl_eqPacked (x0, x1, x2, x3, x4, x5, x6, x7)
def lsl_eqPacked : List LSig := []
noncomputable def Fl_eqTable (x0 : List AVal) (x1 : List AVal) (x2 : List AVal) (x3 : List AVal) : Option (Bool) := FnV ctx 12 sgl_eqTable (x0, x1, x2, x3)
def lsl_eqTable : List LSig := []
noncomputable def Fl_markTable (x0 : Int) (x1 : List AVal) (x2 : List AVal) : Option (Int × List AVal × List AVal) := FnV ctx 13 sgl_markTable (x0, x1, x2)
def lsl_markTable : List LSig := []
noncomputable def Fl_markPacked (x0 : Int) (x1 : List AVal) (x2 : List AVal) (x3 : List AVal) (x4 : List AVal) : Option (Int × List AVal × List AVal × List AVal × List AVal) := FnV ctx 14 sgl_markPacked (x0, x1, x2, x3, x4)
def lsl_markPacked : List LSig := []
noncomputable def Fl_heldPacked (x0 : List AVal) (x1 : List AVal) (x2 : List AVal) (x3 : List AVal) (x4 : Int) : Option (Int) := FnV ctx 15 sgl_heldPacked (x0, x1, x2, x3, x4)
def lsl_heldPacked : List LSig := []
noncomputable def Fl_szActSS (x0 : List AVal) (x1 : Int) : Option (Int) := FnV ctx 35 sgl_szActSS (x0, x1)
def Xl_szActSS_0 : List Ex := [{ out := .ret, st := { env := [(4, .int .i64)] } }, { out := .exit 0, st := { env := [(1, .int .i64)] } }]
def Sl_szActSS_0 : SP := { env := [(0, .ro false 1), (1, .int .i64), (5, .int .i64)] }
noncomputable def Ll_szActSS_0 (x0 : List AVal) (x1 : Int) (x2 : Int) : Option ((Int) ⊕ (Int)) := LpV ctx fn35 0 0 Xl_szActSS_0 Sl_szActSS_0 (x0, x1, x2)
def lsl_szActSS : List LSig := [{ h := 0, X := Xl_szActSS_0, Ss := [Sl_szActSS_0] }]
noncomputable def Fl_szIntSS (x0 : List AVal) (x1 : Int) : Option (Int) := FnV ctx 36 sgl_szIntSS (x0, x1)
def Xl_szIntSS_0 : List Ex := [{ out := .ret, st := { env := [(4, .int .i64)] } }, { out := .exit 0, st := { env := [(1, .int .i64)] } }]
def Sl_szIntSS_0 : SP := { env := [(0, .ro false 1), (1, .int .i64), (5, .int .i64)] }
noncomputable def Ll_szIntSS_0 (x0 : List AVal) (x1 : Int) (x2 : Int) : Option ((Int) ⊕ (Int)) := LpV ctx fn36 0 0 Xl_szIntSS_0 Sl_szIntSS_0 (x0, x1, x2)
def lsl_szIntSS : List LSig := [{ h := 0, X := Xl_szIntSS_0, Ss := [Sl_szIntSS_0] }]
noncomputable def Fl_toActSS (x0 : List AVal) : Option (List AVal) := FnV ctx 39 sgl_toActSS x0
def Xl_toActSS_0 : List Ex := [{ out := .exit 0, st := { env := [(3, .ref 3 [])], objs := [(3, false, .own 1)] } }]
def Sl_toActSS_0 : SP := { env := [(0, .ro false 1), (3, .ref 3 []), (4, .int .i64)], objs := [(3, false, .own 1)] }
noncomputable def Ll_toActSS_0 (x0 : List AVal) (x1 : Int) (x2 : List AVal) : Option (List AVal) := LpV ctx fn39 0 0 Xl_toActSS_0 Sl_toActSS_0 (x0, x1, x2)
def lsl_toActSS : List LSig := [{ h := 0, X := Xl_toActSS_0, Ss := [Sl_toActSS_0] }]
noncomputable def Fl_toIntSS (x0 : List AVal) : Option (List AVal) := FnV ctx 40 sgl_toIntSS x0
def Xl_toIntSS_0 : List Ex := [{ out := .exit 0, st := { env := [(3, .ref 3 [])], objs := [(3, false, .own 1)] } }]
def Sl_toIntSS_0 : SP := { env := [(0, .ro false 1), (3, .ref 3 []), (4, .int .i64)], objs := [(3, false, .own 1)] }
noncomputable def Ll_toIntSS_0 (x0 : List AVal) (x1 : Int) (x2 : List AVal) : Option (List AVal) := LpV ctx fn40 0 0 Xl_toIntSS_0 Sl_toIntSS_0 (x0, x1, x2)
def lsl_toIntSS : List LSig := [{ h := 0, X := Xl_toIntSS_0, Ss := [Sl_toIntSS_0] }]
noncomputable def Fs_l05Even (x0 : List AVal) (x1 : List AVal) : Option (Bool) := FnV ctx 37 sgs_l05Even (x0, x1)
def Xs_l05Even_0 : List Ex := [{ out := .ret, st := { env := [(2, .bool)] } }, { out := .exit 0, st := { env := [] } }]
def Ss_l05Even_0 : SP := { env := [(1, .ptr 1 [] none), (3, .int .i64)], objs := [(1, true, .agg [.ro false 1, .ro false 1])] }
noncomputable def Ls_l05Even_0 (x0 : Int) (x1 : List AVal) (x2 : List AVal) : Option ((Bool) ⊕ (Unit)) := LpV ctx fn37 0 0 Xs_l05Even_0 Ss_l05Even_0 (x0, x1, x2)
def lss_l05Even : List LSig := [{ h := 0, X := Xs_l05Even_0, Ss := [Ss_l05Even_0] }]
noncomputable def Fs_l05Pack (x0 : List AVal) (x1 : List AVal) : Option (List AVal × List AVal × List AVal × List AVal) := FnV ctx 38 sgs_l05Pack (x0, x1)
def Xs_l05Pack_0 : List Ex := [{ out := .exit 0, st := { env := [(2, .ptr 2 [] none), (3, .ptr 3 [] none)], objs := [(2, true, .agg [.own 1, .own 1, .own 1, .own 1]), (3, true, .agg [.own 1, .own 1, .own 1, .own 1])] } }]
def Ss_l05Pack_0 : SP := { env := [(1, .ptr 1 [] none), (2, .ptr 2 [] none), (3, .ptr 3 [] none), (4, .int .i64)], objs := [(1, true, .agg [.ro false 1, .ro false 1]), (2, true, .agg [.own 1, .own 1, .own 1, .own 1]), (3, true, .agg [.own 1, .own 1, .own 1, .own 1])] }
noncomputable def Ls_l05Pack_0 (x0 : Int) (x1 : List AVal) (x2 : List AVal) (x3 : List AVal) (x4 : List AVal) (x5 : List AVal) (x6 : List AVal) (x7 : List AVal) (x8 : List AVal) (x9 : List AVal) (x10 : List AVal) : Option (List AVal × List AVal × List AVal × List AVal × List AVal × List AVal × List AVal × List AVal) := LpV ctx fn38 0 0 Xs_l05Pack_0 Ss_l05Pack_0 (x0, x1, x2, x3, x4, x5, x6, x7, x8, x9, x10)
def Xs_l05Pack_1 : List Ex := [{ out := .exit 2, st := { env := [(1, .ptr 1 [] none), (2, .ptr 2 [] none), (3, .ptr 3 [] none), (4, .int .i64), (5, .int .i64)], objs := [(1, true, .agg [.ro false 1, .ro false 1]), (2, true, .agg [.own 1, .own 1, .own 1, .own 1]), (3, true, .agg [.own 1, .own 1, .own 1, .own 1])] } }]
def Ss_l05Pack_1 : SP := { env := [(1, .ptr 1 [] none), (2, .ptr 2 [] none), (3, .ptr 3 [] none), (4, .int .i64), (5, .int .i64)], objs := [(1, true, .agg [.ro false 1, .ro false 1]), (2, true, .agg [.own 1, .own 1, .own 1, .own 1]), (3, true, .agg [.own 1, .own 1, .own 1, .own 1])] }
noncomputable def Ls_l05Pack_1 (x0 : Int) (x1 : Int) (x2 : List AVal) (x3 : List AVal) (x4 : List AVal) (x5 : List AVal) (x6 : List AVal) (x7 : List AVal) (x8 : List AVal) (x9 : List AVal) (x10 : List AVal) (x11 : List AVal) : Option (Int × Int × List AVal × List AVal × List AVal × List AVal × List AVal × List AVal × List AVal × List AVal × List AVal × List AVal) := LpV ctx fn38 0 1 Xs_l05Pack_1 Ss_l05Pack_1 (x0, x1, x2, x3, x4, x5, x6, x7, x8, x9, x10, x11)
def Xs_l05Pack_2 : List Ex := [{ out := .exit 4, st := { env := [(1, .ptr 1 [] none), (2, .ptr 2 [] none), (3, .ptr 3 [] none), (4, .int .i64), (5, .int .i64)], objs := [(1, true, .agg [.ro false 1, .ro false 1]), (2, true, .agg [.own 1, .own 1, .own 1, .own 1]), (3, true, .agg [.own 1, .own 1, .own 1, .own 1])] } }]
def Ss_l05Pack_2 : SP := { env := [(1, .ptr 1 [] none), (2, .ptr 2 [] none), (3, .ptr 3 [] none), (4, .int .i64), (5, .int .i64)], objs := [(1, true, .agg [.ro false 1, .ro false 1]), (2, true, .agg [.own 1, .own 1, .own 1, .own 1]), (3, true, .agg [.own 1, .own 1, .own 1, .own 1])] }
noncomputable def Ls_l05Pack_2 (x0 : Int) (x1 : Int) (x2 : List AVal) (x3 : List AVal) (x4 : List AVal) (x5 : List AVal) (x6 : List AVal) (x7 : List AVal) (x8 : List AVal) (x9 : List AVal) (x10 : List AVal) (x11 : List AVal) : Option (Int × Int × List AVal × List AVal × List AVal × List AVal × List AVal × List AVal × List AVal × List AVal × List AVal × List AVal) := LpV ctx fn38 0 2 Xs_l05Pack_2 Ss_l05Pack_2 (x0, x1, x2, x3, x4, x5, x6, x7, x8, x9, x10, x11)
def lss_l05Pack : List LSig := [{ h := 0, X := Xs_l05Pack_0, Ss := [Ss_l05Pack_0] }, { h := 1, X := Xs_l05Pack_1, Ss := [Ss_l05Pack_1] }, { h := 2, X := Xs_l05Pack_2, Ss := [Ss_l05Pack_2] }]
noncomputable def Fi_actsKey (x0 : List AVal) : Option (ByteArray) := FnV ctx 41 sgi_actsKey x0
def Xi_actsKey_0 : List Ex := [{ out := .exit 0, st := { env := [(3, .ref 3 [])], objs := [(3, false, .own 1)] } }]
def Si_actsKey_0 : SP := { env := [(3, .ref 3 []), (6, .ro false 2), (7, .int .i64), (8, .int .i64)], objs := [(3, false, .own 1)] }
noncomputable def Li_actsKey_0 (x0 : List AVal) (x1 : Int) (x2 : Int) (x3 : List AVal) : Option (List AVal) := LpV ctx fn41 0 0 Xi_actsKey_0 Si_actsKey_0 (x0, x1, x2, x3)
def lsi_actsKey : List LSig := [{ h := 0, X := Xi_actsKey_0, Ss := [Si_actsKey_0] }]
noncomputable def Fi_key (x0 : List AVal) : Option (ByteArray) := FnV ctx 42 sgi_key x0
def Xi_key_0 : List Ex := [{ out := .exit 0, st := { env := [(3, .ref 3 [])], objs := [(3, false, .mp .oth)] } }]
def Si_key_0 : SP := { env := [(3, .ref 3 []), (6, .ro false 1), (7, .int .i64), (8, .int .i64)], objs := [(3, false, .mp .oth)] }
noncomputable def Li_key_0 (x0 : List AVal) (x1 : Int) (x2 : Int) (x3 : List AVal) : Option (List AVal) := LpV ctx fn42 0 0 Xi_key_0 Si_key_0 (x0, x1, x2, x3)
def lsi_key : List LSig := [{ h := 0, X := Xi_key_0, Ss := [Si_key_0] }]
noncomputable def Fl_eqActSS (x0 : List AVal) (x1 : List AVal) : Option (Bool) := FnV ctx 43 sgl_eqActSS (x0, x1)
def Xl_eqActSS_0 : List Ex := [{ out := .ret, st := { env := [(4, .bool)] } }, { out := .exit 0, st := { env := [] } }]
def Sl_eqActSS_0 : SP := { env := [(0, .ro false 1), (1, .ro false 1), (5, .int .i64)] }
noncomputable def Ll_eqActSS_0 (x0 : List AVal) (x1 : List AVal) (x2 : Int) : Option ((Bool) ⊕ (Unit)) := LpV ctx fn43 0 0 Xl_eqActSS_0 Sl_eqActSS_0 (x0, x1, x2)
def lsl_eqActSS : List LSig := [{ h := 0, X := Xl_eqActSS_0, Ss := [Sl_eqActSS_0] }]
noncomputable def Fl_eqIntSS (x0 : List AVal) (x1 : List AVal) : Option (Bool) := FnV ctx 44 sgl_eqIntSS (x0, x1)
def Xl_eqIntSS_0 : List Ex := [{ out := .ret, st := { env := [(4, .bool)] } }, { out := .exit 0, st := { env := [] } }]
def Sl_eqIntSS_0 : SP := { env := [(0, .ro false 1), (1, .ro false 1), (5, .int .i64)] }
noncomputable def Ll_eqIntSS_0 (x0 : List AVal) (x1 : List AVal) (x2 : Int) : Option ((Bool) ⊕ (Unit)) := LpV ctx fn44 0 0 Xl_eqIntSS_0 Sl_eqIntSS_0 (x0, x1, x2)
def lsl_eqIntSS : List LSig := [{ h := 0, X := Xl_eqIntSS_0, Ss := [Sl_eqIntSS_0] }]
noncomputable def Fl_eqIntS (x0 : List AVal) (x1 : List AVal) : Option (Bool) := FnV ctx 45 sgl_eqIntS (x0, x1)
def Xl_eqIntS_0 : List Ex := [{ out := .ret, st := { env := [(4, .bool)] } }, { out := .exit 0, st := { env := [] } }]
def Sl_eqIntS_0 : SP := { env := [(0, .ro false 1), (1, .ro false 1), (5, .int .i64)] }
noncomputable def Ll_eqIntS_0 (x0 : List AVal) (x1 : List AVal) (x2 : Int) : Option ((Bool) ⊕ (Unit)) := LpV ctx fn45 0 0 Xl_eqIntS_0 Sl_eqIntS_0 (x0, x1, x2)
def lsl_eqIntS : List LSig := [{ h := 0, X := Xl_eqIntS_0, Ss := [Sl_eqIntS_0] }]
noncomputable def Fl_markActSS (x0 : Int) (x1 : List AVal) : Option (Int × List AVal) := FnV ctx 46 sgl_markActSS (x0, x1)
def Xl_markActSS_0 : List Ex := [{ out := .exit 0, st := { env := [(1, .int .i64)], objs := [(2000000, false, .own 1)] } }]
def Sl_markActSS_0 : SP := { env := [(0, .ref 2000000 []), (1, .int .i64), (5, .int .i64)], objs := [(2000000, false, .own 1)] }
noncomputable def Ll_markActSS_0 (x0 : Int) (x1 : Int) (x2 : List AVal) : Option (Int × List AVal) := LpV ctx fn46 1 0 Xl_markActSS_0 Sl_markActSS_0 (x0, x1, x2)
def lsl_markActSS : List LSig := [{ h := 0, X := Xl_markActSS_0, Ss := [Sl_markActSS_0] }]
noncomputable def Fl_markIntSS (x0 : Int) (x1 : List AVal) : Option (Int × List AVal) := FnV ctx 47 sgl_markIntSS (x0, x1)
def Xl_markIntSS_0 : List Ex := [{ out := .exit 0, st := { env := [(1, .int .i64)], objs := [(2000000, false, .own 1)] } }]
def Sl_markIntSS_0 : SP := { env := [(0, .ref 2000000 []), (1, .int .i64), (5, .int .i64)], objs := [(2000000, false, .own 1)] }
noncomputable def Ll_markIntSS_0 (x0 : Int) (x1 : Int) (x2 : List AVal) : Option (Int × List AVal) := LpV ctx fn47 1 0 Xl_markIntSS_0 Sl_markIntSS_0 (x0, x1, x2)
def lsl_markIntSS : List LSig := [{ h := 0, X := Xl_markIntSS_0, Ss := [Sl_markIntSS_0] }]
noncomputable def Fl_markIntS (x0 : Int) (x1 : List AVal) : Option (Int × List AVal) := FnV ctx 48 sgl_markIntS (x0, x1)
def Xl_markIntS_0 : List Ex := [{ out := .exit 0, st := { env := [(1, .int .i64)], objs := [(2000000, false, .own 1)] } }]
def Sl_markIntS_0 : SP := { env := [(0, .ref 2000000 []), (1, .int .i64), (5, .int .i64)], objs := [(2000000, false, .own 1)] }
noncomputable def Ll_markIntS_0 (x0 : Int) (x1 : Int) (x2 : List AVal) : Option (Int × List AVal) := LpV ctx fn48 1 0 Xl_markIntS_0 Sl_markIntS_0 (x0, x1, x2)
def lsl_markIntS : List LSig := [{ h := 0, X := Xl_markIntS_0, Ss := [Sl_markIntS_0] }]
noncomputable def Fl_heldActSS (x0 : List AVal) (x1 : Int) : Option (Int) := FnV ctx 49 sgl_heldActSS (x0, x1)
def Xl_heldActSS_0 : List Ex := [{ out := .ret, st := { env := [(4, .int .i64)] } }, { out := .exit 0, st := { env := [(1, .int .i64)] } }]
def Sl_heldActSS_0 : SP := { env := [(0, .ro false 1), (1, .int .i64), (5, .int .i64)] }
noncomputable def Ll_heldActSS_0 (x0 : List AVal) (x1 : Int) (x2 : Int) : Option ((Int) ⊕ (Int)) := LpV ctx fn49 0 0 Xl_heldActSS_0 Sl_heldActSS_0 (x0, x1, x2)
def lsl_heldActSS : List LSig := [{ h := 0, X := Xl_heldActSS_0, Ss := [Sl_heldActSS_0] }]
noncomputable def Fl_heldIntSS (x0 : List AVal) (x1 : Int) : Option (Int) := FnV ctx 50 sgl_heldIntSS (x0, x1)
def Xl_heldIntSS_0 : List Ex := [{ out := .ret, st := { env := [(4, .int .i64)] } }, { out := .exit 0, st := { env := [(1, .int .i64)] } }]
def Sl_heldIntSS_0 : SP := { env := [(0, .ro false 1), (1, .int .i64), (5, .int .i64)] }
noncomputable def Ll_heldIntSS_0 (x0 : List AVal) (x1 : Int) (x2 : Int) : Option ((Int) ⊕ (Int)) := LpV ctx fn50 0 0 Xl_heldIntSS_0 Sl_heldIntSS_0 (x0, x1, x2)
def lsl_heldIntSS : List LSig := [{ h := 0, X := Xl_heldIntSS_0, Ss := [Sl_heldIntSS_0] }]
noncomputable def Fl_heldIntS (x0 : List AVal) (x1 : Int) : Option (Int) := FnV ctx 51 sgl_heldIntS (x0, x1)
def Xl_heldIntS_0 : List Ex := [{ out := .ret, st := { env := [(4, .int .i64)] } }, { out := .exit 0, st := { env := [(1, .int .i64)] } }]
def Sl_heldIntS_0 : SP := { env := [(0, .ro false 1), (1, .int .i64), (5, .int .i64)] }
noncomputable def Ll_heldIntS_0 (x0 : List AVal) (x1 : Int) (x2 : Int) : Option ((Int) ⊕ (Int)) := LpV ctx fn51 0 0 Xl_heldIntS_0 Sl_heldIntS_0 (x0, x1, x2)
def lsl_heldIntS : List LSig := [{ h := 0, X := Xl_heldIntS_0, Ss := [Sl_heldIntS_0] }]
noncomputable def Fl_szActS (x0 : List AVal) (x1 : Int) : Option (Int) := FnV ctx 74 sgl_szActS (x0, x1)
def lsl_szActS : List LSig := []
noncomputable def Fl_szIntS (x0 : List AVal) (x1 : Int) : Option (Int) := FnV ctx 63 sgl_szIntS (x0, x1)
def lsl_szIntS : List LSig := []
noncomputable def Fl_toActS (x0 : List AVal) : Option (List AVal) := FnV ctx 76 sgl_toActS x0
def Xl_toActS_0 : List Ex := [{ out := .exit 0, st := { env := [(3, .ref 3 [])], objs := [(3, false, .own 2)] } }]
def Sl_toActS_0 : SP := { env := [(0, .ro false 2), (3, .ref 3 []), (4, .int .i64)], objs := [(3, false, .own 2)] }
noncomputable def Ll_toActS_0 (x0 : List AVal) (x1 : Int) (x2 : List AVal) : Option (List AVal) := LpV ctx fn76 0 0 Xl_toActS_0 Sl_toActS_0 (x0, x1, x2)
def lsl_toActS : List LSig := [{ h := 0, X := Xl_toActS_0, Ss := [Sl_toActS_0] }]
noncomputable def Fl_toIntS (x0 : List AVal) : Option (List AVal) := FnV ctx 66 sgl_toIntS x0
def Xl_toIntS_0 : List Ex := [{ out := .exit 0, st := { env := [(3, .ref 3 [])], objs := [(3, false, .own 1)] } }]
def Sl_toIntS_0 : SP := { env := [(0, .ro false 1), (3, .ref 3 []), (4, .int .i64)], objs := [(3, false, .own 1)] }
noncomputable def Ll_toIntS_0 (x0 : List AVal) (x1 : Int) (x2 : List AVal) : Option (List AVal) := LpV ctx fn66 0 0 Xl_toIntS_0 Sl_toIntS_0 (x0, x1, x2)
def lsl_toIntS : List LSig := [{ h := 0, X := Xl_toIntS_0, Ss := [Sl_toIntS_0] }]
noncomputable def Fs_l05SameActs (x0 : List AVal) (x1 : List AVal) : Option (Bool) := FnV ctx 75 sgs_l05SameActs (x0, x1)
def Xs_l05SameActs_0 : List Ex := [{ out := .ret, st := { env := [(4, .bool)] } }, { out := .exit 0, st := { env := [] } }]
def Ss_l05SameActs_0 : SP := { env := [(0, .ro false 2), (1, .ro false 2), (5, .int .i64)] }
noncomputable def Ls_l05SameActs_0 (x0 : List AVal) (x1 : List AVal) (x2 : Int) : Option ((Bool) ⊕ (Unit)) := LpV ctx fn75 0 0 Xs_l05SameActs_0 Ss_l05SameActs_0 (x0, x1, x2)
def lss_l05SameActs : List LSig := [{ h := 0, X := Xs_l05SameActs_0, Ss := [Ss_l05SameActs_0] }]
noncomputable def Fs_l05SameInts (x0 : List AVal) (x1 : List AVal) : Option (Bool) := FnV ctx 65 sgs_l05SameInts (x0, x1)
def Xs_l05SameInts_0 : List Ex := [{ out := .ret, st := { env := [(4, .bool)] } }, { out := .exit 0, st := { env := [] } }]
def Ss_l05SameInts_0 : SP := { env := [(0, .ro false 1), (1, .ro false 1), (5, .int .i64)] }
noncomputable def Ls_l05SameInts_0 (x0 : List AVal) (x1 : List AVal) (x2 : Int) : Option ((Bool) ⊕ (Unit)) := LpV ctx fn65 0 0 Xs_l05SameInts_0 Ss_l05SameInts_0 (x0, x1, x2)
def lss_l05SameInts : List LSig := [{ h := 0, X := Xs_l05SameInts_0, Ss := [Ss_l05SameInts_0] }]
noncomputable def Fi_itoa (x0 : Int) : Option (ByteArray) := FnV ctx 78 sgi_itoa x0
def lsi_itoa : List LSig := []
noncomputable def Fstrings_Builder_WriteString (x0 : ByteArray) (x1 : List AVal) : Option (Int × List AVal) := FnV ctx 77 sgstrings_Builder_WriteString (x0, x1)
def lsstrings_Builder_WriteString : List LSig := []
noncomputable def Fstrings_Builder_WriteByte (x0 : Int) (x1 : List AVal) : Option (List AVal) := FnV ctx 79 sgstrings_Builder_WriteByte (x0, x1)
def lsstrings_Builder_WriteByte : List LSig := []
noncomputable def Fstrings_Builder_String (x0 : List AVal) : Option (ByteArray) := FnV ctx 80 sgstrings_Builder_String x0
def lsstrings_Builder_String : List LSig := []
noncomputable def Fl_eqActS (x0 : List AVal) (x1 : List AVal) : Option (Bool) := FnV ctx 81 sgl_eqActS (x0, x1)
def Xl_eqActS_0 : List Ex := [{ out := .ret, st := { env := [(4, .bool)] } }, { out := .exit 0, st := { env := [] } }]
def Sl_eqActS_0 : SP := { env := [(0, .ro false 2), (1, .ro false 2), (5, .int .i64)] }
noncomputable def Ll_eqActS_0 (x0 : List AVal) (x1 : List AVal) (x2 : Int) : Option ((Bool) ⊕ (Unit)) := LpV ctx fn81 0 0 Xl_eqActS_0 Sl_eqActS_0 (x0, x1, x2)
def lsl_eqActS : List LSig := [{ h := 0, X := Xl_eqActS_0, Ss := [Sl_eqActS_0] }]
noncomputable def Fl_markActS (x0 : Int) (x1 : List AVal) : Option (Int × List AVal) := FnV ctx 82 sgl_markActS (x0, x1)
def Xl_markActS_0 : List Ex := [{ out := .exit 0, st := { env := [(1, .int .i64)], objs := [(2000000, false, .own 2)] } }]
def Sl_markActS_0 : SP := { env := [(0, .ref 2000000 []), (1, .int .i64), (5, .int .i64)], objs := [(2000000, false, .own 2)] }
noncomputable def Ll_markActS_0 (x0 : Int) (x1 : Int) (x2 : List AVal) : Option (Int × List AVal) := LpV ctx fn82 1 0 Xl_markActS_0 Sl_markActS_0 (x0, x1, x2)
def lsl_markActS : List LSig := [{ h := 0, X := Xl_markActS_0, Ss := [Sl_markActS_0] }]
noncomputable def Fl_heldActS (x0 : List AVal) (x1 : Int) : Option (Int) := FnV ctx 83 sgl_heldActS (x0, x1)
def Xl_heldActS_0 : List Ex := [{ out := .ret, st := { env := [(4, .int .i64)] } }, { out := .exit 0, st := { env := [(1, .int .i64)] } }]
def Sl_heldActS_0 : SP := { env := [(0, .ro false 2), (1, .int .i64), (5, .int .i64)] }
noncomputable def Ll_heldActS_0 (x0 : List AVal) (x1 : Int) (x2 : Int) : Option ((Int) ⊕ (Int)) := LpV ctx fn83 0 0 Xl_heldActS_0 Sl_heldActS_0 (x0, x1, x2)
def lsl_heldActS : List LSig := [{ h := 0, X := Xl_heldActS_0, Ss := [Sl_heldActS_0] }]
noncomputable def Fl_toAct (x0 : Int) (x1 : Int) : Option (Int × Int) := FnV ctx 91 sgl_toAct (x0, x1)
def lsl_toAct : List LSig := []
noncomputable def Fstrconv_Itoa (x0 : Int) : Option (ByteArray) := FnV ctx 93 sgstrconv_Itoa x0
def lsstrconv_Itoa : List LSig := []
noncomputable def Fl_eqAct (x0 : Int) (x1 : Int) (x2 : Int) (x3 : Int) : Option (Bool) := FnV ctx 94 sgl_eqAct (x0, x1, x2, x3)
def lsl_eqAct : List LSig := []
noncomputable def Fl_FnExactWiden (x0 : List AVal) (x1 : List AVal) (x2 : List AVal) (x3 : List AVal) : Option (Bool) := FnV ctx 5 sgl_FnExactWiden (x0, x1, x2, x3)
def lsl_FnExactWiden : List LSig := []
noncomputable def Fl_szPacked (x0 : List AVal) (x1 : List AVal) (x2 : List AVal) (x3 : List AVal) (x4 : Int) : Option (Int) := FnV ctx 25 sgl_szPacked (x0, x1, x2, x3, x4)
def lsl_szPacked : List LSig := []
noncomputable def Fl_toPacked (x0 : List AVal) (x1 : List AVal) (x2 : List AVal) (x3 : List AVal) : Option (List AVal × List AVal × List AVal × List AVal) := FnV ctx 27 sgl_toPacked (x0, x1, x2, x3)
def lsl_toPacked : List LSig := []
noncomputable def Fs_Widen (x0 : List AVal) (x1 : List AVal) (x2 : List AVal) (x3 : List AVal) : Option (List AVal × List AVal × Int) := FnV ctx 26 sgs_Widen (x0, x1, x2, x3)
def Xs_Widen_0 : List Ex := [{ out := .ret, st := { env := [(2, .ptr 2 [] none), (3, .int .i64)], objs := [(2, true, .agg [.own 1, .own 1])] } }, { out := .exit 0, st := { env := [(1, .ptr 1 [] none), (2, .ptr 2 [] none), (4, .ptr 4 [] none)], objs := [(1, true, .agg [.ro false 1, .ro false 1, .ro false 1, .ro false 1]), (2, true, .agg [.own 1, .own 1]), (4, true, .agg [.own 1, .own 1])] } }]
def Ss_Widen_0 : SP := { env := [(1, .ptr 1 [] none), (2, .ptr 2 [] none), (4, .ptr 4 [] none), (5, .int .i64)], objs := [(1, true, .agg [.ro false 1, .ro false 1, .ro false 1, .ro false 1]), (2, true, .agg [.own 1, .own 1]), (4, true, .agg [.own 1, .own 1])] }
noncomputable def Ls_Widen_0 (x0 : Int) (x1 : List AVal) (x2 : List AVal) (x3 : List AVal) (x4 : List AVal) (x5 : List AVal) (x6 : List AVal) (x7 : List AVal) (x8 : List AVal) : Option ((Int × List AVal × List AVal) ⊕ (List AVal × List AVal × List AVal × List AVal × List AVal × List AVal × List AVal × List AVal)) := LpV ctx fn26 0 0 Xs_Widen_0 Ss_Widen_0 (x0, x1, x2, x3, x4, x5, x6, x7, x8)
def lss_Widen : List LSig := [{ h := 0, X := Xs_Widen_0, Ss := [Ss_Widen_0] }]
noncomputable def Fi_Widen (x0 : List AVal) (x1 : List AVal) (x2 : List AVal) (x3 : List AVal) : Option (List AVal × List AVal × Int) := FnV ctx 28 sgi_Widen (x0, x1, x2, x3)
def Xi_Widen_0 : List Ex := [{ out := .ret, st := { env := [(2, .ptr 2 [] none), (3, .int .i64)], objs := [(2, true, .agg [.own 1, .own 1])] } }, { out := .exit 0, st := { env := [(1, .ptr 1 [] none), (2, .ptr 2 [] none), (4, .ptr 4 [] none)], objs := [(1, true, .agg [.ro false 1, .ro false 1, .ro false 1, .ro false 1]), (2, true, .agg [.own 1, .own 1]), (4, true, .agg [.own 1, .own 1])] } }]
def Si_Widen_0 : SP := { env := [(1, .ptr 1 [] none), (2, .ptr 2 [] none), (4, .ptr 4 [] none), (26, .int .i64), (27, .int .i64)], objs := [(1, true, .agg [.ro false 1, .ro false 1, .ro false 1, .ro false 1]), (2, true, .agg [.own 1, .own 1]), (4, true, .agg [.own 1, .own 1])] }
noncomputable def Li_Widen_0 (x0 : Int) (x1 : Int) (x2 : List AVal) (x3 : List AVal) (x4 : List AVal) (x5 : List AVal) (x6 : List AVal) (x7 : List AVal) (x8 : List AVal) (x9 : List AVal) : Option ((Int × List AVal × List AVal) ⊕ (List AVal × List AVal × List AVal × List AVal × List AVal × List AVal × List AVal × List AVal)) := LpV ctx fn28 0 0 Xi_Widen_0 Si_Widen_0 (x0, x1, x2, x3, x4, x5, x6, x7, x8, x9)
def lsi_Widen : List LSig := [{ h := 0, X := Xi_Widen_0, Ss := [Si_Widen_0] }]
noncomputable def Fl_heldTable (x0 : List AVal) (x1 : List AVal) (x2 : Int) : Option (Int) := FnV ctx 29 sgl_heldTable (x0, x1, x2)
def lsl_heldTable : List LSig := []
noncomputable def Fs_l01Between (x0 : Int) (x1 : Int) (x2 : Int) : Option (Bool) := FnV ctx 64 sgs_l01Between (x0, x1, x2)
def lss_l01Between : List LSig := []
noncomputable def Fi_samePacked (x0 : List AVal) (x1 : List AVal) (x2 : List AVal) (x3 : List AVal) (x4 : List AVal) (x5 : List AVal) (x6 : List AVal) (x7 : List AVal) : Option (Bool) := FnV ctx 67 sgi_samePacked (x0, x1, x2, x3, x4, x5, x6, x7)
def Xi_samePacked_0 : List Ex := [{ out := .ret, st := { env := [(4, .bool)] } }, { out := .exit 0, st := { env := [(2, .ptr 2 [] none), (3, .ptr 3 [] none)], objs := [(2, true, .agg [.ro false 1, .ro false 1, .ro false 1, .ro false 1]), (3, true, .agg [.ro false 1, .ro false 1, .ro false 1, .ro false 1])] } }]
def Si_samePacked_0 : SP := { env := [(2, .ptr 2 [] none), (3, .ptr 3 [] none), (43, .int .i64), (44, .int .i64)], objs := [(2, true, .agg [.ro false 1, .ro false 1, .ro false 1, .ro false 1]), (3, true, .agg [.ro false 1, .ro false 1, .ro false 1, .ro false 1])] }
noncomputable def Li_samePacked_0 (x0 : Int) (x1 : Int) (x2 : List AVal) (x3 : List AVal) (x4 : List AVal) (x5 : List AVal) (x6 : List AVal) (x7 : List AVal) (x8 : List AVal) (x9 : List AVal) : Option ((Bool) ⊕ (List AVal × List AVal × List AVal × List AVal × List AVal × List AVal × List AVal × List AVal)) := LpV ctx fn67 0 0 Xi_samePacked_0 Si_samePacked_0 (x0, x1, x2, x3, x4, x5, x6, x7, x8, x9)
def Xi_samePacked_1 : List Ex := [{ out := .ret, st := { env := [(4, .bool)] } }, { out := .exit 2, st := { env := [] } }]
def Si_samePacked_1 : SP := { env := [(2, .ptr 2 [] none), (3, .ptr 3 [] none), (63, .int .i64), (64, .int .i64)], objs := [(2, true, .agg [.ro false 1, .ro false 1, .ro false 1, .ro false 1]), (3, true, .agg [.ro false 1, .ro false 1, .ro false 1, .ro false 1])] }
noncomputable def Li_samePacked_1 (x0 : Int) (x1 : Int) (x2 : List AVal) (x3 : List AVal) (x4 : List AVal) (x5 : List AVal) (x6 : List AVal) (x7 : List AVal) (x8 : List AVal) (x9 : List AVal) : Option ((Bool) ⊕ (Unit)) := LpV ctx fn67 0 1 Xi_samePacked_1 Si_samePacked_1 (x0, x1, x2, x3, x4, x5, x6, x7, x8, x9)
def lsi_samePacked : List LSig := [{ h := 0, X := Xi_samePacked_0, Ss := [Si_samePacked_0] }, { h := 1, X := Xi_samePacked_1, Ss := [Si_samePacked_1] }]
end Go.Proofs.YtmbnloccmnclnaaDoor
