/- What the functions of the laws are given and give back, and their names on values; no condition. -/
import Derived.Test.YtmbnloccmnclnaaVmd
import Derived.Test.YtmbnloccmnclnaaVC
import Derived.Tactics
namespace Go.Proofs.Ytmbnloccmnclnaa
open Go.VK AVal

abbrev ty_int64 : Nat := 2
abbrev ty_int : Nat := 3
abbrev ty_bool : Nat := 4
abbrev ty_uint8 : Nat := 5
abbrev ty_abi_BoundsErrorCode : Nat := 6
abbrev ty_runtime_boundsError : Nat := 8
abbrev ty_string : Nat := 9
abbrev ty_runtime_errorString : Nat := 10
abbrev ty_runtime_plainError : Nat := 11
abbrev ty_uintptr : Nat := 12
abbrev ty_runtime_errorAddressString : Nat := 14
abbrev ty_P_runtime_TypeAssertionError : Nat := 15
abbrev ty_P_runtime_PanicNilError : Nat := 16
abbrev ty_P_abi_Type : Nat := 17
abbrev ty_maps_unhashableTypeError : Nat := 19
abbrev ty_int32 : Nat := 21
abbrev ty_S_laws_Term : Nat := 22
abbrev ty_S_string : Nat := 23
abbrev ty_S_laws_Prod : Nat := 24
abbrev ty_laws_Bnf : Nat := 26
abbrev ty_S_laws_LNode : Nat := 37
abbrev ty_S_bool : Nat := 38
abbrev ty_S_laws_Word : Nat := 48
abbrev ty_S_int : Nat := 50
abbrev ty_S_laws_Tree : Nat := 61
abbrev ty_laws_Tree : Nat := 63
abbrev ty_S_S_int : Nat := 69
abbrev ty_S_laws_Token : Nat := 86
abbrev ty_S_laws_Level : Nat := 87
abbrev ty_S_laws_GRule : Nat := 88
abbrev ty_S_laws_Part : Nat := 89
abbrev ty_laws_Grammar : Nat := 91
abbrev ty_S_laws_Same : Nat := 106
abbrev ty_laws_LNode : Nat := 133
abbrev ty_laws_Word : Nat := 142
abbrev ty_map_string_int : Nat := 149
abbrev ty_P_int : Nat := 207
abbrev ty_S_S_bool : Nat := 218
abbrev ty_laws_Same : Nat := 225
abbrev ty_laws_Term : Nat := 254
abbrev ty_laws_Prod : Nat := 256
abbrev ty_S_uint8 : Nat := 269
abbrev ty_map_int_int : Nat := 273
abbrev ty_P_strings_Builder : Nat := 275
abbrev ty_strings_Builder : Nat := 277
abbrev ty_error : Nat := 279
abbrev ty_laws_Token : Nat := 296
abbrev ty_laws_Level : Nat := 298
abbrev ty_S_laws_GAlt : Nat := 300
abbrev ty_laws_GRule : Nat := 302
abbrev ty_laws_Part : Nat := 305
abbrev ty_S_S_string : Nat := 319
abbrev ty_uint : Nat := 339
abbrev ty_P_uint8 : Nat := 343
abbrev ty_uint32 : Nat := 356
abbrev ty_uint64 : Nat := 359
abbrev ty_laws_GAlt : Nat := 364
abbrev ty_runtime_TypeAssertionError : Nat := 375
abbrev ty_abi_TFlag : Nat := 379
abbrev ty_abi_Kind : Nat := 380
abbrev ty_abi_NameOff : Nat := 382
abbrev ty_abi_TypeOff : Nat := 383
abbrev ty_abi_Type : Nat := 385
abbrev n_l_FnExactCyclic : Nat := 3
abbrev n_l_FnExactSet : Nat := 4
abbrev n_l_FnExactTerminals : Nat := 5
abbrev n_l_FnExactScopesOf : Nat := 6
abbrev n_l_FnExactLayout : Nat := 7
abbrev n_l_FnExactGrammarOK : Nat := 8
abbrev n_l_FnExactShortest : Nat := 9
abbrev n_l_FnExactUnify : Nat := 10
/-- laws.FnExactScopesOf -/
def sgl_FnExactScopesOf : Sig := { i := { vs := [.agg [.str, .str, .bool, .ro false 4]] }, o := { vs := [.bool] } }
/-- laws.szTree -/
def sgl_szTree : Sig := { i := { vs := [.agg [.str, .str, .bool, .ro false 4], .int .i64] }, o := { vs := [.int .i64] } }
/-- laws.toTree -/
def sgl_toTree : Sig := { i := { vs := [.agg [.str, .str, .bool, .ro false 4]] }, o := { vs := [.agg [.str, .str, .bool, .own 4]] } }
/-- spec.ScopesOf -/
def sgs_ScopesOf : Sig := { i := { vs := [.agg [.str, .str, .bool, .ro false 4]] }, o := { vs := [.agg [.int .i64, .ro false 3, .ro false 2, .ro false 2], .ro false 1, .ro false 1, .int .i64] } }
/-- impl.ScopesOf -/
def sgi_ScopesOf : Sig := { i := { vs := [.agg [.str, .str, .bool, .ro false 4]] }, o := { vs := [.agg [.int .i64, .own 3, .own 2, .own 2], .own 1, .own 1, .int .i64] } }
/-- laws.eqSg -/
def sgl_eqSg : Sig := { i := { vs := [.agg [.int .i64, .ro false 3, .ro false 2, .ro false 2], .agg [.int .i64, .ro false 3, .ro false 2, .ro false 2]] }, o := { vs := [.bool] } }
/-- laws.eqIntSS -/
def sgl_eqIntSS : Sig := { i := { vs := [.ro false 1, .ro false 1] }, o := { vs := [.bool] } }
/-- laws.eqTree -/
def sgl_eqTree : Sig := { i := { vs := [.agg [.str, .str, .bool, .ro false 4], .agg [.str, .str, .bool, .ro false 4]] }, o := { vs := [.bool] } }
/-- laws.markTree -/
def sgl_markTree : Sig := { i := { vs := [.agg [.str, .str, .bool, .ref 0 []], .int .i64], os := [(false, .own 4)] }, o := { vs := [.int .i64], os := [(false, .own 4)] } }
/-- laws.markSg -/
def sgl_markSg : Sig := { i := { vs := [.agg [.int .i64, .ref 0 [], .ref 1 [], .ref 2 []], .int .i64], os := [(false, .own 3), (false, .own 2), (false, .own 2)] }, o := { vs := [.int .i64], os := [(false, .own 3), (false, .own 2), (false, .own 2)] } }
/-- laws.markIntSS -/
def sgl_markIntSS : Sig := { i := { vs := [.ref 0 [], .int .i64], os := [(false, .own 1)] }, o := { vs := [.int .i64], os := [(false, .own 1)] } }
/-- laws.heldSg -/
def sgl_heldSg : Sig := { i := { vs := [.agg [.int .i64, .ro false 3, .ro false 2, .ro false 2], .int .i64] }, o := { vs := [.int .i64] } }
/-- laws.heldIntSS -/
def sgl_heldIntSS : Sig := { i := { vs := [.ro false 1, .int .i64] }, o := { vs := [.int .i64] } }
/-- laws.szTreeS -/
def sgl_szTreeS : Sig := { i := { vs := [.ro false 4, .int .i64] }, o := { vs := [.int .i64] } }
/-- laws.toTreeS -/
def sgl_toTreeS : Sig := { i := { vs := [.ro false 4] }, o := { vs := [.own 4] } }
/-- spec.TermOK -/
def sgs_TermOK : Sig := { i := { vs := [.agg [.str, .str, .bool, .ro false 4]] }, o := { vs := [.bool] } }
/-- spec.l12Scoper).walk -/
def sgs_l12Scoper_walk : Sig := { i := { vs := [.ptr 0 [] none, .agg [.str, .str, .bool, .ro false 4], .ro false 1, .int .i64], os := [(true, .agg [.int .i64, .own 3, .own 2, .own 2, .own 1, .own 1])] }, o := { vs := [], os := [(true, .agg [.int .i64, .own 3, .own 2, .own 2, .own 1, .own 1])] } }
/-- spec.SgOK -/
def sgs_SgOK : Sig := { i := { vs := [.agg [.int .i64, .ro false 3, .ro false 2, .ro false 2]] }, o := { vs := [.bool] } }
/-- impl.TermOK -/
def sgi_TermOK : Sig := { i := { vs := [.agg [.str, .str, .bool, .ro false 4]] }, o := { vs := [.bool] } }
/-- impl.scoper).walk -/
def sgi_scoper_walk : Sig := { i := { vs := [.ptr 0 [] none, .agg [.str, .str, .bool, .ro false 4], .ro false 1, .int .i64], os := [(true, .agg [.int .i64, .own 3, .own 2, .own 2, .own 1, .own 1])] }, o := { vs := [], os := [(true, .agg [.int .i64, .own 3, .own 2, .own 2, .own 1, .own 1])] } }
/-- impl.SgOK -/
def sgi_SgOK : Sig := { i := { vs := [.agg [.int .i64, .ro false 3, .ro false 2, .ro false 2]] }, o := { vs := [.bool] } }
/-- laws.eqSEdgeS -/
def sgl_eqSEdgeS : Sig := { i := { vs := [.ro false 3, .ro false 3] }, o := { vs := [.bool] } }
/-- laws.eqSpotS -/
def sgl_eqSpotS : Sig := { i := { vs := [.ro false 2, .ro false 2] }, o := { vs := [.bool] } }
/-- laws.eqIntS -/
def sgl_eqIntS : Sig := { i := { vs := [.ro false 1, .ro false 1] }, o := { vs := [.bool] } }
/-- laws.eqTreeS -/
def sgl_eqTreeS : Sig := { i := { vs := [.ro false 4, .ro false 4] }, o := { vs := [.bool] } }
/-- laws.markTreeS -/
def sgl_markTreeS : Sig := { i := { vs := [.ref 0 [], .int .i64], os := [(false, .own 4)] }, o := { vs := [.int .i64], os := [(false, .own 4)] } }
/-- laws.markSEdgeS -/
def sgl_markSEdgeS : Sig := { i := { vs := [.ref 0 [], .int .i64], os := [(false, .own 3)] }, o := { vs := [.int .i64], os := [(false, .own 3)] } }
/-- laws.markSpotS -/
def sgl_markSpotS : Sig := { i := { vs := [.ref 0 [], .int .i64], os := [(false, .own 2)] }, o := { vs := [.int .i64], os := [(false, .own 2)] } }
/-- laws.markIntS -/
def sgl_markIntS : Sig := { i := { vs := [.ref 0 [], .int .i64], os := [(false, .own 1)] }, o := { vs := [.int .i64], os := [(false, .own 1)] } }
/-- laws.heldSEdgeS -/
def sgl_heldSEdgeS : Sig := { i := { vs := [.ro false 3, .int .i64] }, o := { vs := [.int .i64] } }
/-- laws.heldSpotS -/
def sgl_heldSpotS : Sig := { i := { vs := [.ro false 2, .int .i64] }, o := { vs := [.int .i64] } }
/-- laws.heldIntS -/
def sgl_heldIntS : Sig := { i := { vs := [.ro false 1, .int .i64] }, o := { vs := [.int .i64] } }
/-- spec.TreeOK -/
def sgs_TreeOK : Sig := { i := { vs := [.agg [.str, .str, .bool, .ro false 4]] }, o := { vs := [.bool] } }
/-- spec.l12Term -/
def sgs_l12Term : Sig := { i := { vs := [.agg [.str, .str, .bool, .ro false 4]] }, o := { vs := [.bool] } }
/-- spec.l12Down -/
def sgs_l12Down : Sig := { i := { vs := [.ro false 1, .int .i64] }, o := { vs := [.ro false 1] } }
/-- spec.l01Between -/
def sgs_l01Between : Sig := { i := { vs := [.int .i64, .int .i64, .int .i64] }, o := { vs := [.bool] } }
/-- spec.l12Spots -/
def sgs_l12Spots : Sig := { i := { vs := [.ro false 2, .int .i64] }, o := { vs := [.bool] } }
/-- impl.TreeOK -/
def sgi_TreeOK : Sig := { i := { vs := [.agg [.str, .str, .bool, .ro false 4]] }, o := { vs := [.bool] } }
/-- impl.termForm -/
def sgi_termForm : Sig := { i := { vs := [.agg [.str, .str, .bool, .ro false 4]] }, o := { vs := [.bool] } }
/-- impl.binds -/
def sgi_binds : Sig := { i := { vs := [.agg [.str, .str, .bool, .ro false 4]] }, o := { vs := [.bool] } }
/-- impl.inScope -/
def sgi_inScope : Sig := { i := { vs := [.agg [.str, .str, .bool, .ro false 4], .int .i64] }, o := { vs := [.bool] } }
/-- impl.SgOK$1 -/
def sgi_SgOK_1 : Sig := { i := { vs := [.int .i64, .ptr 0 [] none], os := [(true, .agg [.int .i64, .ro false 3, .ro false 2, .ro false 2])] }, o := { vs := [.bool], os := [(true, .agg [.int .i64, .ro false 3, .ro false 2, .ro false 2])] } }
/-- impl.nameOK -/
def sgi_nameOK : Sig := { i := { vs := [.str] }, o := { vs := [.bool] } }
/-- laws.eqSEdge -/
def sgl_eqSEdge : Sig := { i := { vs := [.agg [.int .i64, .int .i64, .int .i64], .agg [.int .i64, .int .i64, .int .i64]] }, o := { vs := [.bool] } }
/-- laws.eqSpot -/
def sgl_eqSpot : Sig := { i := { vs := [.agg [.int .i64, .str], .agg [.int .i64, .str]] }, o := { vs := [.bool] } }
/-- laws.markText -/
def sgl_markText : Sig := { i := { vs := [.int .i64] }, o := { vs := [.str] } }
/-- spec.l01Room -/
def sgs_l01Room : Sig := { i := { vs := [.agg [.str, .str, .bool, .ro false 4], .int .i64, .int .i64] }, o := { vs := [.int .i64] } }
/-- spec.l01Right -/
def sgs_l01Right : Sig := { i := { vs := [.agg [.str, .str, .bool, .ro false 4]] }, o := { vs := [.bool] } }
/-- spec.l01Name -/
def sgs_l01Name : Sig := { i := { vs := [.str] }, o := { vs := [.bool] } }
/-- spec.l12Num -/
def sgs_l12Num : Sig := { i := { vs := [.str] }, o := { vs := [.bool] } }
/-- impl.measure -/
def sgi_measure : Sig := { i := { vs := [.agg [.str, .str, .bool, .ro false 4], .int .i64, .ptr 0 [] none, .ptr 1 [] none], os := [(true, .int .i64), (true, .int .i64)] }, o := { vs := [.bool], os := [(true, .int .i64), (true, .int .i64)] } }
/-- impl.numOK -/
def sgi_numOK : Sig := { i := { vs := [.str] }, o := { vs := [.bool] } }
/-- impl.isId -/
def sgi_isId : Sig := { i := { vs := [.agg [.str, .str, .bool, .ro false 4]] }, o := { vs := [.bool] } }
/-- impl.isLetter -/
def sgi_isLetter : Sig := { i := { vs := [.int .u8] }, o := { vs := [.bool] } }
/-- impl.inName -/
def sgi_inName : Sig := { i := { vs := [.int .u8] }, o := { vs := [.bool] } }
/-- spec.l01Letter -/
def sgs_l01Letter : Sig := { i := { vs := [.int .u8] }, o := { vs := [.bool] } }
/-- spec.l01NameByte -/
def sgs_l01NameByte : Sig := { i := { vs := [.int .u8] }, o := { vs := [.bool] } }
/-- spec.l03Bytes -/
def sgs_l03Bytes : Sig := { i := { vs := [.str, .int .u8, .int .u8] }, o := { vs := [.bool] } }
/-- impl.isDigit -/
def sgi_isDigit : Sig := { i := { vs := [.int .u8] }, o := { vs := [.bool] } }
/-- impl.leafOK -/
def sgi_leafOK : Sig := { i := { vs := [.agg [.str, .str, .bool, .ro false 4], .str] }, o := { vs := [.bool] } }
/-- spec.l01Digit -/
def sgs_l01Digit : Sig := { i := { vs := [.int .u8] }, o := { vs := [.bool] } }
def sigs : List (Nat × Sig) := [(6, sgl_FnExactScopesOf), (33, sgl_szTree), (35, sgl_toTree), (34, sgs_ScopesOf), (36, sgi_ScopesOf), (37, sgl_eqSg), (38, sgl_eqIntSS), (39, sgl_eqTree), (40, sgl_markTree), (41, sgl_markSg), (42, sgl_markIntSS), (43, sgl_heldSg), (44, sgl_heldIntSS), (94, sgl_szTreeS), (98, sgl_toTreeS), (95, sgs_TermOK), (96, sgs_l12Scoper_walk), (97, sgs_SgOK), (99, sgi_TermOK), (100, sgi_scoper_walk), (101, sgi_SgOK), (102, sgl_eqSEdgeS), (103, sgl_eqSpotS), (27, sgl_eqIntS), (104, sgl_eqTreeS), (105, sgl_markTreeS), (106, sgl_markSEdgeS), (107, sgl_markSpotS), (31, sgl_markIntS), (108, sgl_heldSEdgeS), (109, sgl_heldSpotS), (32, sgl_heldIntS), (190, sgs_TreeOK), (191, sgs_l12Term), (192, sgs_l12Down), (110, sgs_l01Between), (193, sgs_l12Spots), (194, sgi_TreeOK), (195, sgi_termForm), (196, sgi_binds), (197, sgi_inScope), (198, sgi_SgOK_1), (171, sgi_nameOK), (199, sgl_eqSEdge), (200, sgl_eqSpot), (93, sgl_markText), (241, sgs_l01Room), (242, sgs_l01Right), (166, sgs_l01Name), (243, sgs_l12Num), (244, sgi_measure), (245, sgi_numOK), (246, sgi_isId), (230, sgi_isLetter), (231, sgi_inName), (226, sgs_l01Letter), (227, sgs_l01NameByte), (206, sgs_l03Bytes), (259, sgi_isDigit), (267, sgi_leafOK), (258, sgs_l01Digit)]
noncomputable def Fl_FnExactScopesOf (x0 : ByteArray) (x1 : ByteArray) (x2 : Bool) (x3 : List AVal) : Option (Bool) := FnV ctx 6 sgl_FnExactScopesOf (x0, x1, x2, x3)
def lsl_FnExactScopesOf : List LSig := []
noncomputable def Fl_szTree (x0 : ByteArray) (x1 : ByteArray) (x2 : Bool) (x3 : List AVal) (x4 : Int) : Option (Int) := FnV ctx 33 sgl_szTree (x0, x1, x2, x3, x4)
def lsl_szTree : List LSig := []
noncomputable def Fl_toTree (x0 : ByteArray) (x1 : ByteArray) (x2 : Bool) (x3 : List AVal) : Option (ByteArray × ByteArray × Bool × List AVal) := FnV ctx 35 sgl_toTree (x0, x1, x2, x3)
def lsl_toTree : List LSig := []
noncomputable def Fs_ScopesOf (x0 : ByteArray) (x1 : ByteArray) (x2 : Bool) (x3 : List AVal) : Option (Int × List AVal × List AVal × List AVal × List AVal × List AVal × Int) := FnV ctx 34 sgs_ScopesOf (x0, x1, x2, x3)
def lss_ScopesOf : List LSig := []
noncomputable def Fi_ScopesOf (x0 : ByteArray) (x1 : ByteArray) (x2 : Bool) (x3 : List AVal) : Option (Int × List AVal × List AVal × List AVal × List AVal × List AVal × Int) := FnV ctx 36 sgi_ScopesOf (x0, x1, x2, x3)
def lsi_ScopesOf : List LSig := []
noncomputable def Fl_eqSg (x0 : Int) (x1 : List AVal) (x2 : List AVal) (x3 : List AVal) (x4 : Int) (x5 : List AVal) (x6 : List AVal) (x7 : List AVal) : Option (Bool) := FnV ctx 37 sgl_eqSg (x0, x1, x2, x3, x4, x5, x6, x7)
def lsl_eqSg : List LSig := []
noncomputable def Fl_eqIntSS (x0 : List AVal) (x1 : List AVal) : Option (Bool) := FnV ctx 38 sgl_eqIntSS (x0, x1)
def Xl_eqIntSS_0 : List Ex := [{ out := .ret, st := { env := [(4, .bool)] } }, { out := .exit 0, st := { env := [] } }]
def Sl_eqIntSS_0 : SP := { env := [(0, .ro false 1), (1, .ro false 1), (5, .int .i64)] }
noncomputable def Ll_eqIntSS_0 (x0 : List AVal) (x1 : List AVal) (x2 : Int) : Option ((Bool) ⊕ (Unit)) := LpV ctx fn38 0 0 Xl_eqIntSS_0 Sl_eqIntSS_0 (x0, x1, x2)
def lsl_eqIntSS : List LSig := [{ h := 0, X := Xl_eqIntSS_0, Ss := [Sl_eqIntSS_0] }]
noncomputable def Fl_eqTree (x0 : ByteArray) (x1 : ByteArray) (x2 : Bool) (x3 : List AVal) (x4 : ByteArray) (x5 : ByteArray) (x6 : Bool) (x7 : List AVal) : Option (Bool) := FnV ctx 39 sgl_eqTree (x0, x1, x2, x3, x4, x5, x6, x7)
def lsl_eqTree : List LSig := []
noncomputable def Fl_markTree (x0 : ByteArray) (x1 : ByteArray) (x2 : Bool) (x3 : Int) (x4 : List AVal) : Option (Int × List AVal) := FnV ctx 40 sgl_markTree (x0, x1, x2, x3, x4)
def lsl_markTree : List LSig := []
noncomputable def Fl_markSg (x0 : Int) (x1 : Int) (x2 : List AVal) (x3 : List AVal) (x4 : List AVal) : Option (Int × List AVal × List AVal × List AVal) := FnV ctx 41 sgl_markSg (x0, x1, x2, x3, x4)
def lsl_markSg : List LSig := []
noncomputable def Fl_markIntSS (x0 : Int) (x1 : List AVal) : Option (Int × List AVal) := FnV ctx 42 sgl_markIntSS (x0, x1)
def Xl_markIntSS_0 : List Ex := [{ out := .exit 0, st := { env := [(1, .int .i64)], objs := [(2000000, false, .own 1)] } }]
def Sl_markIntSS_0 : SP := { env := [(0, .ref 2000000 []), (1, .int .i64), (5, .int .i64)], objs := [(2000000, false, .own 1)] }
noncomputable def Ll_markIntSS_0 (x0 : Int) (x1 : Int) (x2 : List AVal) : Option (Int × List AVal) := LpV ctx fn42 1 0 Xl_markIntSS_0 Sl_markIntSS_0 (x0, x1, x2)
def lsl_markIntSS : List LSig := [{ h := 0, X := Xl_markIntSS_0, Ss := [Sl_markIntSS_0] }]
noncomputable def Fl_heldSg (x0 : Int) (x1 : List AVal) (x2 : List AVal) (x3 : List AVal) (x4 : Int) : Option (Int) := FnV ctx 43 sgl_heldSg (x0, x1, x2, x3, x4)
def lsl_heldSg : List LSig := []
noncomputable def Fl_heldIntSS (x0 : List AVal) (x1 : Int) : Option (Int) := FnV ctx 44 sgl_heldIntSS (x0, x1)
def Xl_heldIntSS_0 : List Ex := [{ out := .ret, st := { env := [(4, .int .i64)] } }, { out := .exit 0, st := { env := [(1, .int .i64)] } }]
def Sl_heldIntSS_0 : SP := { env := [(0, .ro false 1), (1, .int .i64), (5, .int .i64)] }
noncomputable def Ll_heldIntSS_0 (x0 : List AVal) (x1 : Int) (x2 : Int) : Option ((Int) ⊕ (Int)) := LpV ctx fn44 0 0 Xl_heldIntSS_0 Sl_heldIntSS_0 (x0, x1, x2)
def lsl_heldIntSS : List LSig := [{ h := 0, X := Xl_heldIntSS_0, Ss := [Sl_heldIntSS_0] }]
noncomputable def Fl_szTreeS (x0 : List AVal) (x1 : Int) : Option (Int) := FnV ctx 94 sgl_szTreeS (x0, x1)
def Xl_szTreeS_0 : List Ex := [{ out := .ret, st := { env := [(4, .int .i64)] } }, { out := .exit 0, st := { env := [(1, .int .i64)] } }]
def Sl_szTreeS_0 : SP := { env := [(0, .ro false 4), (1, .int .i64), (5, .int .i64)] }
noncomputable def Ll_szTreeS_0 (x0 : List AVal) (x1 : Int) (x2 : Int) : Option ((Int) ⊕ (Int)) := LpV ctx fn94 0 0 Xl_szTreeS_0 Sl_szTreeS_0 (x0, x1, x2)
def lsl_szTreeS : List LSig := [{ h := 0, X := Xl_szTreeS_0, Ss := [Sl_szTreeS_0] }]
noncomputable def Fl_toTreeS (x0 : List AVal) : Option (List AVal) := FnV ctx 98 sgl_toTreeS x0
def Xl_toTreeS_0 : List Ex := [{ out := .exit 0, st := { env := [(3, .ref 3 [])], objs := [(3, false, .own 4)] } }]
def Sl_toTreeS_0 : SP := { env := [(0, .ro false 4), (3, .ref 3 []), (4, .int .i64)], objs := [(3, false, .own 4)] }
noncomputable def Ll_toTreeS_0 (x0 : List AVal) (x1 : Int) (x2 : List AVal) : Option (List AVal) := LpV ctx fn98 0 0 Xl_toTreeS_0 Sl_toTreeS_0 (x0, x1, x2)
def lsl_toTreeS : List LSig := [{ h := 0, X := Xl_toTreeS_0, Ss := [Sl_toTreeS_0] }]
noncomputable def Fs_TermOK (x0 : ByteArray) (x1 : ByteArray) (x2 : Bool) (x3 : List AVal) : Option (Bool) := FnV ctx 95 sgs_TermOK (x0, x1, x2, x3)
def lss_TermOK : List LSig := []
noncomputable def Fs_l12Scoper_walk (x0 : ByteArray) (x1 : ByteArray) (x2 : Bool) (x3 : List AVal) (x4 : List AVal) (x5 : Int) (x6 : Int) (x7 : List AVal) (x8 : List AVal) (x9 : List AVal) (x10 : List AVal) (x11 : List AVal) : Option (Int × List AVal × List AVal × List AVal × List AVal × List AVal) := FnV ctx 96 sgs_l12Scoper_walk (x0, x1, x2, x3, x4, x5, x6, x7, x8, x9, x10, x11)
def Xs_l12Scoper_walk_0 : List Ex := [{ out := .exit 0, st := { env := [], objs := [(2000000, true, .agg [.int .i64, .own 3, .own 2, .own 2, .own 1, .own 1])] } }]
def Ss_l12Scoper_walk_0 : SP := { env := [(0, .ptr 2000000 [] none), (2, .ro false 1), (3, .int .i64), (5, .ptr 5 [] none), (8, .int .i64)], objs := [(2000000, true, .agg [.int .i64, .own 3, .own 2, .own 2, .own 1, .own 1]), (5, true, .agg [.str, .str, .bool, .ro false 4])] }
noncomputable def Ls_l12Scoper_walk_0 (x0 : List AVal) (x1 : Int) (x2 : Int) (x3 : Int) (x4 : List AVal) (x5 : List AVal) (x6 : List AVal) (x7 : List AVal) (x8 : List AVal) (x9 : ByteArray) (x10 : ByteArray) (x11 : Bool) (x12 : List AVal) : Option (Int × List AVal × List AVal × List AVal × List AVal × List AVal) := LpV ctx fn96 1 0 Xs_l12Scoper_walk_0 Ss_l12Scoper_walk_0 (x0, x1, x2, x3, x4, x5, x6, x7, x8, x9, x10, x11, x12)
def lss_l12Scoper_walk : List LSig := [{ h := 0, X := Xs_l12Scoper_walk_0, Ss := [Ss_l12Scoper_walk_0] }]
noncomputable def Fs_SgOK (x0 : Int) (x1 : List AVal) (x2 : List AVal) (x3 : List AVal) : Option (Bool) := FnV ctx 97 sgs_SgOK (x0, x1, x2, x3)
def Xs_SgOK_0 : List Ex := [{ out := .ret, st := { env := [(2, .bool)] } }, { out := .exit 0, st := { env := [] } }]
def Ss_SgOK_0 : SP := { env := [(1, .ptr 1 [] none), (3, .int .i64)], objs := [(1, true, .agg [.int .i64, .ro false 3, .ro false 2, .ro false 2])] }
noncomputable def Ls_SgOK_0 (x0 : Int) (x1 : Int) (x2 : List AVal) (x3 : List AVal) (x4 : List AVal) : Option ((Bool) ⊕ (Unit)) := LpV ctx fn97 0 0 Xs_SgOK_0 Ss_SgOK_0 (x0, x1, x2, x3, x4)
def lss_SgOK : List LSig := [{ h := 0, X := Xs_SgOK_0, Ss := [Ss_SgOK_0] }]
noncomputable def Fi_TermOK (x0 : ByteArray) (x1 : ByteArray) (x2 : Bool) (x3 : List AVal) : Option (Bool) := FnV ctx 99 sgi_TermOK (x0, x1, x2, x3)
def lsi_TermOK : List LSig := []
noncomputable def Fi_scoper_walk (x0 : ByteArray) (x1 : ByteArray) (x2 : Bool) (x3 : List AVal) (x4 : List AVal) (x5 : Int) (x6 : Int) (x7 : List AVal) (x8 : List AVal) (x9 : List AVal) (x10 : List AVal) (x11 : List AVal) : Option (Int × List AVal × List AVal × List AVal × List AVal × List AVal) := FnV ctx 100 sgi_scoper_walk (x0, x1, x2, x3, x4, x5, x6, x7, x8, x9, x10, x11)
def Xi_scoper_walk_0 : List Ex := [{ out := .exit 0, st := { env := [], objs := [(2000000, true, .agg [.int .i64, .own 3, .own 2, .own 2, .own 1, .own 1])] } }]
def Si_scoper_walk_0 : SP := { env := [(0, .ptr 2000000 [] none), (2, .ro false 1), (3, .int .i64), (5, .ptr 5 [] none), (8, .int .i64), (76, .ro false 4), (77, .int .i64), (78, .int .i64)], objs := [(2000000, true, .agg [.int .i64, .own 3, .own 2, .own 2, .own 1, .own 1]), (5, true, .agg [.str, .str, .bool, .ro false 4])] }
noncomputable def Li_scoper_walk_0 (x0 : List AVal) (x1 : Int) (x2 : Int) (x3 : List AVal) (x4 : Int) (x5 : Int) (x6 : Int) (x7 : List AVal) (x8 : List AVal) (x9 : List AVal) (x10 : List AVal) (x11 : List AVal) (x12 : ByteArray) (x13 : ByteArray) (x14 : Bool) (x15 : List AVal) : Option (Int × List AVal × List AVal × List AVal × List AVal × List AVal) := LpV ctx fn100 1 0 Xi_scoper_walk_0 Si_scoper_walk_0 (x0, x1, x2, x3, x4, x5, x6, x7, x8, x9, x10, x11, x12, x13, x14, x15)
def lsi_scoper_walk : List LSig := [{ h := 0, X := Xi_scoper_walk_0, Ss := [Si_scoper_walk_0] }]
noncomputable def Fi_SgOK (x0 : Int) (x1 : List AVal) (x2 : List AVal) (x3 : List AVal) : Option (Bool) := FnV ctx 101 sgi_SgOK (x0, x1, x2, x3)
def Xi_SgOK_0 : List Ex := [{ out := .ret, st := { env := [(2, .bool)] } }, { out := .exit 0, st := { env := [(1, .ptr 1 [] none), (3, .clo 198 [.ptr 1 [] none])], objs := [(1, true, .agg [.int .i64, .ro false 3, .ro false 2, .ro false 2])] } }]
def Si_SgOK_0 : SP := { env := [(1, .ptr 1 [] none), (3, .clo 198 [.ptr 1 [] none]), (38, .ro false 3), (39, .int .i64), (40, .int .i64)], objs := [(1, true, .agg [.int .i64, .ro false 3, .ro false 2, .ro false 2])] }
noncomputable def Li_SgOK_0 (x0 : List AVal) (x1 : Int) (x2 : Int) (x3 : Int) (x4 : List AVal) (x5 : List AVal) (x6 : List AVal) : Option ((Bool) ⊕ (Int × List AVal × List AVal × List AVal)) := LpV ctx fn101 0 0 Xi_SgOK_0 Si_SgOK_0 (x0, x1, x2, x3, x4, x5, x6)
def Xi_SgOK_1 : List Ex := [{ out := .ret, st := { env := [(2, .bool)] } }, { out := .exit 2, st := { env := [] } }]
def Si_SgOK_1 : SP := { env := [(3, .clo 198 [.ptr 1 [] none]), (71, .ref 71 []), (72, .int .i64), (73, .int .i64)], objs := [(1, true, .agg [.int .i64, .ro false 3, .ro false 2, .ro false 2]), (71, false, .own 1)] }
noncomputable def Li_SgOK_1 (x0 : Int) (x1 : Int) (x2 : Int) (x3 : List AVal) (x4 : List AVal) (x5 : List AVal) (x6 : List AVal) : Option ((Bool) ⊕ (Unit)) := LpV ctx fn101 0 1 Xi_SgOK_1 Si_SgOK_1 (x0, x1, x2, x3, x4, x5, x6)
def Xi_SgOK_2 : List Ex := [{ out := .ret, st := { env := [(2, .bool)] } }, { out := .exit 4, st := { env := [(3, .clo 198 [.ptr 1 [] none]), (71, .ref 71 []), (72, .int .i64), (73, .int .i64)], objs := [(1, true, .agg [.int .i64, .ro false 3, .ro false 2, .ro false 2]), (71, false, .own 1)] } }]
def Si_SgOK_2 : SP := { env := [(3, .clo 198 [.ptr 1 [] none]), (71, .ref 71 []), (72, .int .i64), (73, .int .i64), (77, .ref 71 [none]), (78, .int .i64), (79, .int .i64)], objs := [(1, true, .agg [.int .i64, .ro false 3, .ro false 2, .ro false 2]), (71, false, .own 1)] }
noncomputable def Li_SgOK_2 (x0 : Int) (x1 : Int) (x2 : Int) (x3 : Int) (x4 : Int) (x5 : Int) (x6 : List AVal) (x7 : List AVal) (x8 : List AVal) (x9 : List AVal) : Option ((Bool) ⊕ (Int × Int × Int × List AVal × List AVal × List AVal × List AVal)) := LpV ctx fn101 0 2 Xi_SgOK_2 Si_SgOK_2 (x0, x1, x2, x3, x4, x5, x6, x7, x8, x9)
def lsi_SgOK : List LSig := [{ h := 0, X := Xi_SgOK_0, Ss := [Si_SgOK_0] }, { h := 1, X := Xi_SgOK_1, Ss := [Si_SgOK_1] }, { h := 2, X := Xi_SgOK_2, Ss := [Si_SgOK_2] }]
noncomputable def Fl_eqSEdgeS (x0 : List AVal) (x1 : List AVal) : Option (Bool) := FnV ctx 102 sgl_eqSEdgeS (x0, x1)
def Xl_eqSEdgeS_0 : List Ex := [{ out := .ret, st := { env := [(4, .bool)] } }, { out := .exit 0, st := { env := [] } }]
def Sl_eqSEdgeS_0 : SP := { env := [(0, .ro false 3), (1, .ro false 3), (5, .int .i64)] }
noncomputable def Ll_eqSEdgeS_0 (x0 : List AVal) (x1 : List AVal) (x2 : Int) : Option ((Bool) ⊕ (Unit)) := LpV ctx fn102 0 0 Xl_eqSEdgeS_0 Sl_eqSEdgeS_0 (x0, x1, x2)
def lsl_eqSEdgeS : List LSig := [{ h := 0, X := Xl_eqSEdgeS_0, Ss := [Sl_eqSEdgeS_0] }]
noncomputable def Fl_eqSpotS (x0 : List AVal) (x1 : List AVal) : Option (Bool) := FnV ctx 103 sgl_eqSpotS (x0, x1)
def Xl_eqSpotS_0 : List Ex := [{ out := .ret, st := { env := [(4, .bool)] } }, { out := .exit 0, st := { env := [] } }]
def Sl_eqSpotS_0 : SP := { env := [(0, .ro false 2), (1, .ro false 2), (5, .int .i64)] }
noncomputable def Ll_eqSpotS_0 (x0 : List AVal) (x1 : List AVal) (x2 : Int) : Option ((Bool) ⊕ (Unit)) := LpV ctx fn103 0 0 Xl_eqSpotS_0 Sl_eqSpotS_0 (x0, x1, x2)
def lsl_eqSpotS : List LSig := [{ h := 0, X := Xl_eqSpotS_0, Ss := [Sl_eqSpotS_0] }]
noncomputable def Fl_eqIntS (x0 : List AVal) (x1 : List AVal) : Option (Bool) := FnV ctx 27 sgl_eqIntS (x0, x1)
def Xl_eqIntS_0 : List Ex := [{ out := .ret, st := { env := [(4, .bool)] } }, { out := .exit 0, st := { env := [] } }]
def Sl_eqIntS_0 : SP := { env := [(0, .ro false 1), (1, .ro false 1), (5, .int .i64)] }
noncomputable def Ll_eqIntS_0 (x0 : List AVal) (x1 : List AVal) (x2 : Int) : Option ((Bool) ⊕ (Unit)) := LpV ctx fn27 0 0 Xl_eqIntS_0 Sl_eqIntS_0 (x0, x1, x2)
def lsl_eqIntS : List LSig := [{ h := 0, X := Xl_eqIntS_0, Ss := [Sl_eqIntS_0] }]
noncomputable def Fl_eqTreeS (x0 : List AVal) (x1 : List AVal) : Option (Bool) := FnV ctx 104 sgl_eqTreeS (x0, x1)
def Xl_eqTreeS_0 : List Ex := [{ out := .ret, st := { env := [(4, .bool)] } }, { out := .exit 0, st := { env := [] } }]
def Sl_eqTreeS_0 : SP := { env := [(0, .ro false 4), (1, .ro false 4), (5, .int .i64)] }
noncomputable def Ll_eqTreeS_0 (x0 : List AVal) (x1 : List AVal) (x2 : Int) : Option ((Bool) ⊕ (Unit)) := LpV ctx fn104 0 0 Xl_eqTreeS_0 Sl_eqTreeS_0 (x0, x1, x2)
def lsl_eqTreeS : List LSig := [{ h := 0, X := Xl_eqTreeS_0, Ss := [Sl_eqTreeS_0] }]
noncomputable def Fl_markTreeS (x0 : Int) (x1 : List AVal) : Option (Int × List AVal) := FnV ctx 105 sgl_markTreeS (x0, x1)
def Xl_markTreeS_0 : List Ex := [{ out := .exit 0, st := { env := [(1, .int .i64)], objs := [(2000000, false, .own 4)] } }]
def Sl_markTreeS_0 : SP := { env := [(0, .ref 2000000 []), (1, .int .i64), (5, .int .i64)], objs := [(2000000, false, .own 4)] }
noncomputable def Ll_markTreeS_0 (x0 : Int) (x1 : Int) (x2 : List AVal) : Option (Int × List AVal) := LpV ctx fn105 1 0 Xl_markTreeS_0 Sl_markTreeS_0 (x0, x1, x2)
def lsl_markTreeS : List LSig := [{ h := 0, X := Xl_markTreeS_0, Ss := [Sl_markTreeS_0] }]
noncomputable def Fl_markSEdgeS (x0 : Int) (x1 : List AVal) : Option (Int × List AVal) := FnV ctx 106 sgl_markSEdgeS (x0, x1)
def Xl_markSEdgeS_0 : List Ex := [{ out := .exit 0, st := { env := [(1, .int .i64)], objs := [(2000000, false, .own 3)] } }]
def Sl_markSEdgeS_0 : SP := { env := [(0, .ref 2000000 []), (1, .int .i64), (5, .int .i64)], objs := [(2000000, false, .own 3)] }
noncomputable def Ll_markSEdgeS_0 (x0 : Int) (x1 : Int) (x2 : List AVal) : Option (Int × List AVal) := LpV ctx fn106 1 0 Xl_markSEdgeS_0 Sl_markSEdgeS_0 (x0, x1, x2)
def lsl_markSEdgeS : List LSig := [{ h := 0, X := Xl_markSEdgeS_0, Ss := [Sl_markSEdgeS_0] }]
noncomputable def Fl_markSpotS (x0 : Int) (x1 : List AVal) : Option (Int × List AVal) := FnV ctx 107 sgl_markSpotS (x0, x1)
def Xl_markSpotS_0 : List Ex := [{ out := .exit 0, st := { env := [(1, .int .i64)], objs := [(2000000, false, .own 2)] } }]
def Sl_markSpotS_0 : SP := { env := [(0, .ref 2000000 []), (1, .int .i64), (5, .int .i64)], objs := [(2000000, false, .own 2)] }
noncomputable def Ll_markSpotS_0 (x0 : Int) (x1 : Int) (x2 : List AVal) : Option (Int × List AVal) := LpV ctx fn107 1 0 Xl_markSpotS_0 Sl_markSpotS_0 (x0, x1, x2)
def lsl_markSpotS : List LSig := [{ h := 0, X := Xl_markSpotS_0, Ss := [Sl_markSpotS_0] }]
noncomputable def Fl_markIntS (x0 : Int) (x1 : List AVal) : Option (Int × List AVal) := FnV ctx 31 sgl_markIntS (x0, x1)
def Xl_markIntS_0 : List Ex := [{ out := .exit 0, st := { env := [(1, .int .i64)], objs := [(2000000, false, .own 1)] } }]
def Sl_markIntS_0 : SP := { env := [(0, .ref 2000000 []), (1, .int .i64), (5, .int .i64)], objs := [(2000000, false, .own 1)] }
noncomputable def Ll_markIntS_0 (x0 : Int) (x1 : Int) (x2 : List AVal) : Option (Int × List AVal) := LpV ctx fn31 1 0 Xl_markIntS_0 Sl_markIntS_0 (x0, x1, x2)
def lsl_markIntS : List LSig := [{ h := 0, X := Xl_markIntS_0, Ss := [Sl_markIntS_0] }]
noncomputable def Fl_heldSEdgeS (x0 : List AVal) (x1 : Int) : Option (Int) := FnV ctx 108 sgl_heldSEdgeS (x0, x1)
def Xl_heldSEdgeS_0 : List Ex := [{ out := .ret, st := { env := [(4, .int .i64)] } }, { out := .exit 0, st := { env := [(1, .int .i64)] } }]
def Sl_heldSEdgeS_0 : SP := { env := [(0, .ro false 3), (1, .int .i64), (5, .int .i64)] }
noncomputable def Ll_heldSEdgeS_0 (x0 : List AVal) (x1 : Int) (x2 : Int) : Option ((Int) ⊕ (Int)) := LpV ctx fn108 0 0 Xl_heldSEdgeS_0 Sl_heldSEdgeS_0 (x0, x1, x2)
def lsl_heldSEdgeS : List LSig := [{ h := 0, X := Xl_heldSEdgeS_0, Ss := [Sl_heldSEdgeS_0] }]
noncomputable def Fl_heldSpotS (x0 : List AVal) (x1 : Int) : Option (Int) := FnV ctx 109 sgl_heldSpotS (x0, x1)
def Xl_heldSpotS_0 : List Ex := [{ out := .ret, st := { env := [(4, .int .i64)] } }, { out := .exit 0, st := { env := [(1, .int .i64)] } }]
def Sl_heldSpotS_0 : SP := { env := [(0, .ro false 2), (1, .int .i64), (5, .int .i64)] }
noncomputable def Ll_heldSpotS_0 (x0 : List AVal) (x1 : Int) (x2 : Int) : Option ((Int) ⊕ (Int)) := LpV ctx fn109 0 0 Xl_heldSpotS_0 Sl_heldSpotS_0 (x0, x1, x2)
def lsl_heldSpotS : List LSig := [{ h := 0, X := Xl_heldSpotS_0, Ss := [Sl_heldSpotS_0] }]
noncomputable def Fl_heldIntS (x0 : List AVal) (x1 : Int) : Option (Int) := FnV ctx 32 sgl_heldIntS (x0, x1)
def Xl_heldIntS_0 : List Ex := [{ out := .ret, st := { env := [(4, .int .i64)] } }, { out := .exit 0, st := { env := [(1, .int .i64)] } }]
def Sl_heldIntS_0 : SP := { env := [(0, .ro false 1), (1, .int .i64), (5, .int .i64)] }
noncomputable def Ll_heldIntS_0 (x0 : List AVal) (x1 : Int) (x2 : Int) : Option ((Int) ⊕ (Int)) := LpV ctx fn32 0 0 Xl_heldIntS_0 Sl_heldIntS_0 (x0, x1, x2)
def lsl_heldIntS : List LSig := [{ h := 0, X := Xl_heldIntS_0, Ss := [Sl_heldIntS_0] }]
noncomputable def Fs_TreeOK (x0 : ByteArray) (x1 : ByteArray) (x2 : Bool) (x3 : List AVal) : Option (Bool) := FnV ctx 190 sgs_TreeOK (x0, x1, x2, x3)
def lss_TreeOK : List LSig := []
noncomputable def Fs_l12Term (x0 : ByteArray) (x1 : ByteArray) (x2 : Bool) (x3 : List AVal) : Option (Bool) := FnV ctx 191 sgs_l12Term (x0, x1, x2, x3)
def Xs_l12Term_0 : List Ex := [{ out := .ret, st := { env := [(2, .bool)] } }, { out := .exit 2, st := { env := [] } }]
def Ss_l12Term_0 : SP := { env := [(1, .ptr 1 [] none), (4, .int .i64), (5, .int .i64)], objs := [(1, true, .agg [.str, .str, .bool, .ro false 4])] }
noncomputable def Ls_l12Term_0 (x0 : Int) (x1 : Int) (x2 : ByteArray) (x3 : ByteArray) (x4 : Bool) (x5 : List AVal) : Option ((Bool) ⊕ (Unit)) := LpV ctx fn191 0 0 Xs_l12Term_0 Ss_l12Term_0 (x0, x1, x2, x3, x4, x5)
def lss_l12Term : List LSig := [{ h := 0, X := Xs_l12Term_0, Ss := [Ss_l12Term_0] }]
noncomputable def Fs_l12Down (x0 : List AVal) (x1 : Int) : Option (List AVal) := FnV ctx 192 sgs_l12Down (x0, x1)
def lss_l12Down : List LSig := []
noncomputable def Fs_l01Between (x0 : Int) (x1 : Int) (x2 : Int) : Option (Bool) := FnV ctx 110 sgs_l01Between (x0, x1, x2)
def lss_l01Between : List LSig := []
noncomputable def Fs_l12Spots (x0 : List AVal) (x1 : Int) : Option (Bool) := FnV ctx 193 sgs_l12Spots (x0, x1)
def Xs_l12Spots_0 : List Ex := [{ out := .ret, st := { env := [(4, .bool)] } }, { out := .exit 0, st := { env := [] } }]
def Ss_l12Spots_0 : SP := { env := [(0, .ro false 2), (1, .int .i64), (5, .int .i64)] }
noncomputable def Ls_l12Spots_0 (x0 : List AVal) (x1 : Int) (x2 : Int) : Option ((Bool) ⊕ (Unit)) := LpV ctx fn193 0 0 Xs_l12Spots_0 Ss_l12Spots_0 (x0, x1, x2)
def lss_l12Spots : List LSig := [{ h := 0, X := Xs_l12Spots_0, Ss := [Ss_l12Spots_0] }]
noncomputable def Fi_TreeOK (x0 : ByteArray) (x1 : ByteArray) (x2 : Bool) (x3 : List AVal) : Option (Bool) := FnV ctx 194 sgi_TreeOK (x0, x1, x2, x3)
def lsi_TreeOK : List LSig := []
noncomputable def Fi_termForm (x0 : ByteArray) (x1 : ByteArray) (x2 : Bool) (x3 : List AVal) : Option (Bool) := FnV ctx 195 sgi_termForm (x0, x1, x2, x3)
def Xi_termForm_0 : List Ex := [{ out := .ret, st := { env := [(2, .bool)] } }, { out := .exit 1, st := { env := [] } }]
def Si_termForm_0 : SP := { env := [(1, .ptr 1 [] none), (41, .ro false 4), (42, .int .i64), (43, .int .i64)], objs := [(1, true, .agg [.str, .str, .bool, .ro false 4])] }
noncomputable def Li_termForm_0 (x0 : List AVal) (x1 : Int) (x2 : Int) (x3 : ByteArray) (x4 : ByteArray) (x5 : Bool) (x6 : List AVal) : Option ((Bool) ⊕ (Unit)) := LpV ctx fn195 0 0 Xi_termForm_0 Si_termForm_0 (x0, x1, x2, x3, x4, x5, x6)
def lsi_termForm : List LSig := [{ h := 0, X := Xi_termForm_0, Ss := [Si_termForm_0] }]
noncomputable def Fi_binds (x0 : ByteArray) (x1 : ByteArray) (x2 : Bool) (x3 : List AVal) : Option (Bool) := FnV ctx 196 sgi_binds (x0, x1, x2, x3)
def lsi_binds : List LSig := []
noncomputable def Fi_inScope (x0 : ByteArray) (x1 : ByteArray) (x2 : Bool) (x3 : List AVal) (x4 : Int) : Option (Bool) := FnV ctx 197 sgi_inScope (x0, x1, x2, x3, x4)
def lsi_inScope : List LSig := []
noncomputable def Fi_SgOK_1 (x0 : Int) (x1 : Int) (x2 : List AVal) (x3 : List AVal) (x4 : List AVal) : Option (Bool × Int × List AVal × List AVal × List AVal) := FnV ctx 198 sgi_SgOK_1 (x0, x1, x2, x3, x4)
def lsi_SgOK_1 : List LSig := []
noncomputable def Fi_nameOK (x0 : ByteArray) : Option (Bool) := FnV ctx 171 sgi_nameOK x0
def Xi_nameOK_0 : List Ex := [{ out := .ret, st := { env := [(2, .bool)] } }, { out := .exit 0, st := { env := [] } }]
def Si_nameOK_0 : SP := { env := [(0, .str), (3, .int .i64)] }
noncomputable def Li_nameOK_0 (x0 : ByteArray) (x1 : Int) : Option ((Bool) ⊕ (Unit)) := LpV ctx fn171 0 0 Xi_nameOK_0 Si_nameOK_0 (x0, x1)
def lsi_nameOK : List LSig := [{ h := 0, X := Xi_nameOK_0, Ss := [Si_nameOK_0] }]
noncomputable def Fl_eqSEdge (x0 : Int) (x1 : Int) (x2 : Int) (x3 : Int) (x4 : Int) (x5 : Int) : Option (Bool) := FnV ctx 199 sgl_eqSEdge (x0, x1, x2, x3, x4, x5)
def lsl_eqSEdge : List LSig := []
noncomputable def Fl_eqSpot (x0 : Int) (x1 : ByteArray) (x2 : Int) (x3 : ByteArray) : Option (Bool) := FnV ctx 200 sgl_eqSpot (x0, x1, x2, x3)
def lsl_eqSpot : List LSig := []
noncomputable def Fl_markText (x0 : Int) : Option (ByteArray) := FnV ctx 93 sgl_markText x0
def Xl_markText_0 : List Ex := [{ out := .exit 0, st := { env := [(3, .str)] } }]
def Sl_markText_0 : SP := { env := [(0, .int .i64), (3, .str)] }
noncomputable def Ll_markText_0 (x0 : Int) (x1 : ByteArray) : Option (ByteArray) := LpV ctx fn93 0 0 Xl_markText_0 Sl_markText_0 (x0, x1)
def lsl_markText : List LSig := [{ h := 0, X := Xl_markText_0, Ss := [Sl_markText_0] }]
noncomputable def Fs_l01Room (x0 : ByteArray) (x1 : ByteArray) (x2 : Bool) (x3 : List AVal) (x4 : Int) (x5 : Int) : Option (Int) := FnV ctx 241 sgs_l01Room (x0, x1, x2, x3, x4, x5)
def Xs_l01Room_0 : List Ex := [{ out := .exit 0, st := { env := [(1, .int .i64)] } }]
def Ss_l01Room_0 : SP := { env := [(1, .int .i64), (2, .int .i64), (3, .ptr 3 [] none), (7, .int .i64)], objs := [(3, true, .agg [.str, .str, .bool, .ro false 4])] }
noncomputable def Ls_l01Room_0 (x0 : Int) (x1 : Int) (x2 : Int) (x3 : ByteArray) (x4 : ByteArray) (x5 : Bool) (x6 : List AVal) : Option (Int) := LpV ctx fn241 0 0 Xs_l01Room_0 Ss_l01Room_0 (x0, x1, x2, x3, x4, x5, x6)
def lss_l01Room : List LSig := [{ h := 0, X := Xs_l01Room_0, Ss := [Ss_l01Room_0] }]
noncomputable def Fs_l01Right (x0 : ByteArray) (x1 : ByteArray) (x2 : Bool) (x3 : List AVal) : Option (Bool) := FnV ctx 242 sgs_l01Right (x0, x1, x2, x3)
def Xs_l01Right_0 : List Ex := [{ out := .ret, st := { env := [(2, .bool)] } }, { out := .exit 0, st := { env := [] } }]
def Ss_l01Right_0 : SP := { env := [(1, .ptr 1 [] none), (3, .int .i64)], objs := [(1, true, .agg [.str, .str, .bool, .ro false 4])] }
noncomputable def Ls_l01Right_0 (x0 : Int) (x1 : ByteArray) (x2 : ByteArray) (x3 : Bool) (x4 : List AVal) : Option ((Bool) ⊕ (Unit)) := LpV ctx fn242 0 0 Xs_l01Right_0 Ss_l01Right_0 (x0, x1, x2, x3, x4)
def lss_l01Right : List LSig := [{ h := 0, X := Xs_l01Right_0, Ss := [Ss_l01Right_0] }]
noncomputable def Fs_l01Name (x0 : ByteArray) : Option (Bool) := FnV ctx 166 sgs_l01Name x0
def Xs_l01Name_0 : List Ex := [{ out := .ret, st := { env := [(2, .bool)] } }, { out := .exit 0, st := { env := [] } }]
def Ss_l01Name_0 : SP := { env := [(0, .str), (3, .int .i64)] }
noncomputable def Ls_l01Name_0 (x0 : ByteArray) (x1 : Int) : Option ((Bool) ⊕ (Unit)) := LpV ctx fn166 0 0 Xs_l01Name_0 Ss_l01Name_0 (x0, x1)
def lss_l01Name : List LSig := [{ h := 0, X := Xs_l01Name_0, Ss := [Ss_l01Name_0] }]
noncomputable def Fs_l12Num (x0 : ByteArray) : Option (Bool) := FnV ctx 243 sgs_l12Num x0
def lss_l12Num : List LSig := []
noncomputable def Fi_measure (x0 : ByteArray) (x1 : ByteArray) (x2 : Bool) (x3 : List AVal) (x4 : Int) (x5 : Int) (x6 : Int) : Option (Bool × Int × Int) := FnV ctx 244 sgi_measure (x0, x1, x2, x3, x4, x5, x6)
def Xi_measure_0 : List Ex := [{ out := .ret, st := { env := [(8, .bool)], objs := [(2000000, true, .int .i64), (2000001, true, .int .i64)] } }, { out := .exit 0, st := { env := [], objs := [(2000000, true, .int .i64), (2000001, true, .int .i64)] } }]
def Si_measure_0 : SP := { env := [(1, .int .i64), (2, .ptr 2000000 [] none), (3, .ptr 2000001 [] none), (53, .ro false 4), (54, .int .i64), (55, .int .i64)], objs := [(2000000, true, .int .i64), (2000001, true, .int .i64)] }
noncomputable def Li_measure_0 (x0 : Int) (x1 : List AVal) (x2 : Int) (x3 : Int) (x4 : Int) (x5 : Int) : Option ((Bool × Int × Int) ⊕ (Int × Int)) := LpV ctx fn244 2 0 Xi_measure_0 Si_measure_0 (x0, x1, x2, x3, x4, x5)
def lsi_measure : List LSig := [{ h := 0, X := Xi_measure_0, Ss := [Si_measure_0] }]
noncomputable def Fi_numOK (x0 : ByteArray) : Option (Bool) := FnV ctx 245 sgi_numOK x0
def Xi_numOK_0 : List Ex := [{ out := .ret, st := { env := [(2, .bool)] } }, { out := .exit 0, st := { env := [] } }]
def Si_numOK_0 : SP := { env := [(0, .str), (23, .int .i64), (24, .int .i64)] }
noncomputable def Li_numOK_0 (x0 : ByteArray) (x1 : Int) (x2 : Int) : Option ((Bool) ⊕ (Unit)) := LpV ctx fn245 0 0 Xi_numOK_0 Si_numOK_0 (x0, x1, x2)
def lsi_numOK : List LSig := [{ h := 0, X := Xi_numOK_0, Ss := [Si_numOK_0] }]
noncomputable def Fi_isId (x0 : ByteArray) (x1 : ByteArray) (x2 : Bool) (x3 : List AVal) : Option (Bool) := FnV ctx 246 sgi_isId (x0, x1, x2, x3)
def lsi_isId : List LSig := []
noncomputable def Fi_isLetter (x0 : Int) : Option (Bool) := FnV ctx 230 sgi_isLetter x0
def lsi_isLetter : List LSig := []
noncomputable def Fi_inName (x0 : Int) : Option (Bool) := FnV ctx 231 sgi_inName x0
def lsi_inName : List LSig := []
noncomputable def Fs_l01Letter (x0 : Int) : Option (Bool) := FnV ctx 226 sgs_l01Letter x0
def lss_l01Letter : List LSig := []
noncomputable def Fs_l01NameByte (x0 : Int) : Option (Bool) := FnV ctx 227 sgs_l01NameByte x0
def lss_l01NameByte : List LSig := []
noncomputable def Fs_l03Bytes (x0 : ByteArray) (x1 : Int) (x2 : Int) : Option (Bool) := FnV ctx 206 sgs_l03Bytes (x0, x1, x2)
def Xs_l03Bytes_0 : List Ex := [{ out := .ret, st := { env := [(6, .bool)] } }, { out := .exit 0, st := { env := [] } }]
def Ss_l03Bytes_0 : SP := { env := [(0, .str), (1, .int .u8), (2, .int .u8), (7, .int .i64)] }
noncomputable def Ls_l03Bytes_0 (x0 : ByteArray) (x1 : Int) (x2 : Int) (x3 : Int) : Option ((Bool) ⊕ (Unit)) := LpV ctx fn206 0 0 Xs_l03Bytes_0 Ss_l03Bytes_0 (x0, x1, x2, x3)
def lss_l03Bytes : List LSig := [{ h := 0, X := Xs_l03Bytes_0, Ss := [Ss_l03Bytes_0] }]
noncomputable def Fi_isDigit (x0 : Int) : Option (Bool) := FnV ctx 259 sgi_isDigit x0
def lsi_isDigit : List LSig := []
noncomputable def Fi_leafOK (x0 : ByteArray) (x1 : ByteArray) (x2 : Bool) (x3 : List AVal) (x4 : ByteArray) : Option (Bool) := FnV ctx 267 sgi_leafOK (x0, x1, x2, x3, x4)
def lsi_leafOK : List LSig := []
noncomputable def Fs_l01Digit (x0 : Int) : Option (Bool) := FnV ctx 258 sgs_l01Digit x0
def lss_l01Digit : List LSig := []
end Go.Proofs.Ytmbnloccmnclnaa
