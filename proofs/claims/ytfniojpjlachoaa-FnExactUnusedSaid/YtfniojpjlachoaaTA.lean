/- What the functions of the laws are given and give back, and their names on values; no condition. -/
import Derived.Test.YtfniojpjlachoaaVmd
import Derived.Test.YtfniojpjlachoaaVC
import Derived.Tactics
namespace Go.Proofs.Ytfniojpjlachoaa
open Go.VK AVal

abbrev ty_int64 : Nat := 2
abbrev ty_int : Nat := 3
abbrev ty_bool : Nat := 4
abbrev ty_uint8 : Nat := 5
abbrev ty_abi_BoundsErrorCode : Nat := 6
abbrev ty_runtime_boundsError : Nat := 8
abbrev ty_string : Nat := 9
abbrev ty_runtime_errorString : Nat := 10
abbrev ty_runtime_plainError : Nat := 11
abbrev ty_uintptr : Nat := 12
abbrev ty_runtime_errorAddressString : Nat := 14
abbrev ty_P_runtime_TypeAssertionError : Nat := 15
abbrev ty_P_runtime_PanicNilError : Nat := 16
abbrev ty_P_abi_Type : Nat := 17
abbrev ty_maps_unhashableTypeError : Nat := 19
abbrev ty_int32 : Nat := 21
abbrev ty_S_laws_Term : Nat := 25
abbrev ty_S_string : Nat := 26
abbrev ty_S_laws_Prod : Nat := 27
abbrev ty_laws_Bnf : Nat := 29
abbrev ty_S_laws_SEdge : Nat := 39
abbrev ty_S_laws_Spot : Nat := 40
abbrev ty_laws_Sg : Nat := 42
abbrev ty_S_int : Nat := 44
abbrev ty_S_laws_Tree : Nat := 59
abbrev ty_laws_Tree : Nat := 61
abbrev ty_S_laws_Bind : Nat := 62
abbrev ty_S_laws_Delta : Nat := 78
abbrev ty_laws_Delta : Nat := 80
abbrev ty_S_laws_RwRule : Nat := 93
abbrev ty_S_S_int : Nat := 100
abbrev ty_S_S_laws_Act : Nat := 109
abbrev ty_laws_Table : Nat := 111
abbrev ty_map_string_int : Nat := 140
abbrev ty_map_int_int : Nat := 158
abbrev ty_laws_Bind : Nat := 162
abbrev ty_laws_RwRule : Nat := 186
abbrev ty_map_2_int_int : Nat := 213
abbrev ty_laws_Term : Nat := 242
abbrev ty_laws_Prod : Nat := 244
abbrev ty_laws_Spot : Nat := 251
abbrev ty_S_bool : Nat := 255
abbrev ty_laws_SEdge : Nat := 259
abbrev ty_P_int : Nat := 267
abbrev ty_S_uint8 : Nat := 269
abbrev ty_S_laws_Act : Nat := 295
abbrev ty_S_S_bool : Nat := 312
abbrev ty_laws_Act : Nat := 315
abbrev ty_runtime_TypeAssertionError : Nat := 329
abbrev ty_uint32 : Nat := 333
abbrev ty_abi_TFlag : Nat := 334
abbrev ty_abi_Kind : Nat := 335
abbrev ty_P_uint8 : Nat := 337
abbrev ty_abi_NameOff : Nat := 338
abbrev ty_abi_TypeOff : Nat := 339
abbrev ty_abi_Type : Nat := 341
abbrev n_l_FnExactRxOK : Nat := 3
abbrev n_l_FnExactBnfOK : Nat := 4
abbrev n_l_FnExactResolve : Nat := 5
abbrev n_l_FnExactUnused : Nat := 6
abbrev n_l_FnExactFill : Nat := 7
abbrev n_l_FnExactPatch : Nat := 8
abbrev n_l_FnExactRename : Nat := 9
abbrev n_l_FnExactPlanOK : Nat := 10
abbrev n_l_FnExactMerge : Nat := 11
abbrev n_l_FnExactDiff : Nat := 12
abbrev n_l_FnExactTableOK : Nat := 13
/-- laws.FnExactBnfOK -/
def sgl_FnExactBnfOK : Sig := { i := { vs := [.agg [.ro false 3, .ro false 1, .int .i64, .ro false 5]] }, o := { vs := [.bool] } }
/-- laws.szBnf -/
def sgl_szBnf : Sig := { i := { vs := [.agg [.ro false 3, .ro false 1, .int .i64, .ro false 5], .int .i64] }, o := { vs := [.int .i64] } }
/-- laws.toBnf -/
def sgl_toBnf : Sig := { i := { vs := [.agg [.ro false 3, .ro false 1, .int .i64, .ro false 5]] }, o := { vs := [.agg [.own 3, .own 1, .int .i64, .own 5]] } }
/-- spec.BnfOK -/
def sgs_BnfOK : Sig := { i := { vs := [.agg [.ro false 3, .ro false 1, .int .i64, .ro false 5]] }, o := { vs := [.bool] } }
/-- impl.BnfOK -/
def sgi_BnfOK : Sig := { i := { vs := [.agg [.ro false 3, .ro false 1, .int .i64, .ro false 5]] }, o := { vs := [.bool] } }
/-- laws.eqBnf -/
def sgl_eqBnf : Sig := { i := { vs := [.agg [.ro false 3, .ro false 1, .int .i64, .ro false 5], .agg [.ro false 3, .ro false 1, .int .i64, .ro false 5]] }, o := { vs := [.bool] } }
/-- laws.szTermS -/
def sgl_szTermS : Sig := { i := { vs := [.ro false 3, .int .i64] }, o := { vs := [.int .i64] } }
/-- laws.szStringS -/
def sgl_szStringS : Sig := { i := { vs := [.ro false 1, .int .i64] }, o := { vs := [.int .i64] } }
/-- laws.szProdS -/
def sgl_szProdS : Sig := { i := { vs := [.ro false 5, .int .i64] }, o := { vs := [.int .i64] } }
/-- laws.toTermS -/
def sgl_toTermS : Sig := { i := { vs := [.ro false 3] }, o := { vs := [.own 3] } }
/-- laws.toStringS -/
def sgl_toStringS : Sig := { i := { vs := [.ro false 1] }, o := { vs := [.own 1] } }
/-- laws.toProdS -/
def sgl_toProdS : Sig := { i := { vs := [.ro false 5] }, o := { vs := [.own 5] } }
/-- spec.l01Between -/
def sgs_l01Between : Sig := { i := { vs := [.int .i64, .int .i64, .int .i64] }, o := { vs := [.bool] } }
/-- spec.l04Strength -/
def sgs_l04Strength : Sig := { i := { vs := [.int .i64, .int .i64] }, o := { vs := [.bool] } }
/-- spec.l03At -/
def sgs_l03At : Sig := { i := { vs := [.ro false 1, .str] }, o := { vs := [.int .i64] } }
/-- spec.l01Name -/
def sgs_l01Name : Sig := { i := { vs := [.str] }, o := { vs := [.bool] } }
/-- impl.levelOK -/
def sgi_levelOK : Sig := { i := { vs := [.int .i64, .int .i64] }, o := { vs := [.bool] } }
/-- impl.nameOK -/
def sgi_nameOK : Sig := { i := { vs := [.str] }, o := { vs := [.bool] } }
/-- laws.eqTermS -/
def sgl_eqTermS : Sig := { i := { vs := [.ro false 3, .ro false 3] }, o := { vs := [.bool] } }
/-- laws.eqStringS -/
def sgl_eqStringS : Sig := { i := { vs := [.ro false 1, .ro false 1] }, o := { vs := [.bool] } }
/-- laws.eqProdS -/
def sgl_eqProdS : Sig := { i := { vs := [.ro false 5, .ro false 5] }, o := { vs := [.bool] } }
/-- laws.szTerm -/
def sgl_szTerm : Sig := { i := { vs := [.agg [.str, .int .i64, .int .i64], .int .i64] }, o := { vs := [.int .i64] } }
/-- laws.szProd -/
def sgl_szProd : Sig := { i := { vs := [.agg [.int .i64, .ro false 1, .str, .int .i64, .int .i64], .int .i64] }, o := { vs := [.int .i64] } }
/-- laws.toTerm -/
def sgl_toTerm : Sig := { i := { vs := [.agg [.str, .int .i64, .int .i64]] }, o := { vs := [.agg [.str, .int .i64, .int .i64]] } }
/-- laws.toProd -/
def sgl_toProd : Sig := { i := { vs := [.agg [.int .i64, .ro false 1, .str, .int .i64, .int .i64]] }, o := { vs := [.agg [.int .i64, .own 1, .str, .int .i64, .int .i64]] } }
/-- spec.l01Letter -/
def sgs_l01Letter : Sig := { i := { vs := [.int .u8] }, o := { vs := [.bool] } }
/-- spec.l01NameByte -/
def sgs_l01NameByte : Sig := { i := { vs := [.int .u8] }, o := { vs := [.bool] } }
/-- impl.isLetter -/
def sgi_isLetter : Sig := { i := { vs := [.int .u8] }, o := { vs := [.bool] } }
/-- impl.inName -/
def sgi_inName : Sig := { i := { vs := [.int .u8] }, o := { vs := [.bool] } }
/-- laws.eqTerm -/
def sgl_eqTerm : Sig := { i := { vs := [.agg [.str, .int .i64, .int .i64], .agg [.str, .int .i64, .int .i64]] }, o := { vs := [.bool] } }
/-- laws.eqProd -/
def sgl_eqProd : Sig := { i := { vs := [.agg [.int .i64, .ro false 1, .str, .int .i64, .int .i64], .agg [.int .i64, .ro false 1, .str, .int .i64, .int .i64]] }, o := { vs := [.bool] } }
/-- laws.szIntS -/
def sgl_szIntS : Sig := { i := { vs := [.ro false 1, .int .i64] }, o := { vs := [.int .i64] } }
/-- laws.toIntS -/
def sgl_toIntS : Sig := { i := { vs := [.ro false 1] }, o := { vs := [.own 1] } }
/-- spec.l01Digit -/
def sgs_l01Digit : Sig := { i := { vs := [.int .u8] }, o := { vs := [.bool] } }
/-- impl.isDigit -/
def sgi_isDigit : Sig := { i := { vs := [.int .u8] }, o := { vs := [.bool] } }
/-- laws.eqIntS -/
def sgl_eqIntS : Sig := { i := { vs := [.ro false 1, .ro false 1] }, o := { vs := [.bool] } }
/-- laws.FnExactTableOK -/
def sgl_FnExactTableOK : Sig := { i := { vs := [.agg [.ro false 3, .ro false 1, .int .i64, .ro false 5], .agg [.ro false 1, .ro false 1]] }, o := { vs := [.bool] } }
/-- laws.szTable -/
def sgl_szTable : Sig := { i := { vs := [.agg [.ro false 1, .ro false 1], .int .i64] }, o := { vs := [.int .i64] } }
/-- laws.toTable -/
def sgl_toTable : Sig := { i := { vs := [.agg [.ro false 1, .ro false 1]] }, o := { vs := [.agg [.own 1, .own 1]] } }
/-- spec.TableOK -/
def sgs_TableOK : Sig := { i := { vs := [.agg [.ro false 3, .ro false 1, .int .i64, .ro false 5], .agg [.ro false 1, .ro false 1]] }, o := { vs := [.bool] } }
/-- impl.TableOK -/
def sgi_TableOK : Sig := { i := { vs := [.agg [.ro false 3, .ro false 1, .int .i64, .ro false 5], .agg [.ro false 1, .ro false 1]] }, o := { vs := [.bool] } }
/-- laws.eqTable -/
def sgl_eqTable : Sig := { i := { vs := [.agg [.ro false 1, .ro false 1], .agg [.ro false 1, .ro false 1]] }, o := { vs := [.bool] } }
/-- laws.szActSS -/
def sgl_szActSS : Sig := { i := { vs := [.ro false 1, .int .i64] }, o := { vs := [.int .i64] } }
/-- laws.szIntSS -/
def sgl_szIntSS : Sig := { i := { vs := [.ro false 1, .int .i64] }, o := { vs := [.int .i64] } }
/-- laws.toActSS -/
def sgl_toActSS : Sig := { i := { vs := [.ro false 1] }, o := { vs := [.own 1] } }
/-- laws.toIntSS -/
def sgl_toIntSS : Sig := { i := { vs := [.ro false 1] }, o := { vs := [.own 1] } }
/-- laws.eqActSS -/
def sgl_eqActSS : Sig := { i := { vs := [.ro false 1, .ro false 1] }, o := { vs := [.bool] } }
/-- laws.eqIntSS -/
def sgl_eqIntSS : Sig := { i := { vs := [.ro false 1, .ro false 1] }, o := { vs := [.bool] } }
/-- laws.szActS -/
def sgl_szActS : Sig := { i := { vs := [.ro false 2, .int .i64] }, o := { vs := [.int .i64] } }
/-- laws.toActS -/
def sgl_toActS : Sig := { i := { vs := [.ro false 2] }, o := { vs := [.own 2] } }
/-- laws.eqActS -/
def sgl_eqActS : Sig := { i := { vs := [.ro false 2, .ro false 2] }, o := { vs := [.bool] } }
/-- laws.toAct -/
def sgl_toAct : Sig := { i := { vs := [.agg [.int .i64, .int .i64]] }, o := { vs := [.agg [.int .i64, .int .i64]] } }
/-- laws.eqAct -/
def sgl_eqAct : Sig := { i := { vs := [.agg [.int .i64, .int .i64], .agg [.int .i64, .int .i64]] }, o := { vs := [.bool] } }
/-- laws.FnExactUnused -/
def sgl_FnExactUnused : Sig := { i := { vs := [.agg [.int .i64, .ro false 3, .ro false 2, .ro false 2]] }, o := { vs := [.bool] } }
/-- laws.szSg -/
def sgl_szSg : Sig := { i := { vs := [.agg [.int .i64, .ro false 3, .ro false 2, .ro false 2], .int .i64] }, o := { vs := [.int .i64] } }
/-- laws.toSg -/
def sgl_toSg : Sig := { i := { vs := [.agg [.int .i64, .ro false 3, .ro false 2, .ro false 2]] }, o := { vs := [.agg [.int .i64, .own 3, .own 2, .own 2]] } }
/-- spec.Unused -/
def sgs_Unused : Sig := { i := { vs := [.agg [.int .i64, .ro false 3, .ro false 2, .ro false 2]] }, o := { vs := [.ro false 1, .int .i64] } }
/-- impl.Unused -/
def sgi_Unused : Sig := { i := { vs := [.agg [.int .i64, .ro false 3, .ro false 2, .ro false 2]] }, o := { vs := [.own 1, .int .i64] } }
/-- laws.eqSg -/
def sgl_eqSg : Sig := { i := { vs := [.agg [.int .i64, .ro false 3, .ro false 2, .ro false 2], .agg [.int .i64, .ro false 3, .ro false 2, .ro false 2]] }, o := { vs := [.bool] } }
/-- laws.markSg -/
def sgl_markSg : Sig := { i := { vs := [.agg [.int .i64, .ref 0 [], .ref 1 [], .ref 2 []], .int .i64], os := [(false, .own 3), (false, .own 2), (false, .own 2)] }, o := { vs := [.int .i64], os := [(false, .own 3), (false, .own 2), (false, .own 2)] } }
/-- laws.markIntS -/
def sgl_markIntS : Sig := { i := { vs := [.ref 0 [], .int .i64], os := [(false, .own 1)] }, o := { vs := [.int .i64], os := [(false, .own 1)] } }
/-- laws.heldIntS -/
def sgl_heldIntS : Sig := { i := { vs := [.ro false 1, .int .i64] }, o := { vs := [.int .i64] } }
/-- laws.szSEdgeS -/
def sgl_szSEdgeS : Sig := { i := { vs := [.ro false 3, .int .i64] }, o := { vs := [.int .i64] } }
/-- laws.szSpotS -/
def sgl_szSpotS : Sig := { i := { vs := [.ro false 2, .int .i64] }, o := { vs := [.int .i64] } }
/-- laws.toSEdgeS -/
def sgl_toSEdgeS : Sig := { i := { vs := [.ro false 3] }, o := { vs := [.own 3] } }
/-- laws.toSpotS -/
def sgl_toSpotS : Sig := { i := { vs := [.ro false 2] }, o := { vs := [.own 2] } }
/-- spec.SgOK -/
def sgs_SgOK : Sig := { i := { vs := [.agg [.int .i64, .ro false 3, .ro false 2, .ro false 2]] }, o := { vs := [.bool] } }
/-- spec.l12Resolve -/
def sgs_l12Resolve : Sig := { i := { vs := [.agg [.int .i64, .ro false 3, .ro false 2, .ro false 2], .agg [.int .i64, .str]] }, o := { vs := [.ro false 1] } }
/-- spec.l12Has -/
def sgs_l12Has : Sig := { i := { vs := [.ro false 1, .int .i64] }, o := { vs := [.bool] } }
/-- impl.SgOK -/
def sgi_SgOK : Sig := { i := { vs := [.agg [.int .i64, .ro false 3, .ro false 2, .ro false 2]] }, o := { vs := [.bool] } }
/-- impl.Sg).resolve -/
def sgi_Sg_resolve : Sig := { i := { vs := [.agg [.int .i64, .ro false 3, .ro false 2, .ro false 2], .int .i64] }, o := { vs := [.own 1] } }
/-- laws.eqSEdgeS -/
def sgl_eqSEdgeS : Sig := { i := { vs := [.ro false 3, .ro false 3] }, o := { vs := [.bool] } }
/-- laws.eqSpotS -/
def sgl_eqSpotS : Sig := { i := { vs := [.ro false 2, .ro false 2] }, o := { vs := [.bool] } }
/-- laws.markSEdgeS -/
def sgl_markSEdgeS : Sig := { i := { vs := [.ref 0 [], .int .i64], os := [(false, .own 3)] }, o := { vs := [.int .i64], os := [(false, .own 3)] } }
/-- laws.markSpotS -/
def sgl_markSpotS : Sig := { i := { vs := [.ref 0 [], .int .i64], os := [(false, .own 2)] }, o := { vs := [.int .i64], os := [(false, .own 2)] } }
/-- laws.szSpot -/
def sgl_szSpot : Sig := { i := { vs := [.agg [.int .i64, .str], .int .i64] }, o := { vs := [.int .i64] } }
/-- laws.toSEdge -/
def sgl_toSEdge : Sig := { i := { vs := [.agg [.int .i64, .int .i64, .int .i64]] }, o := { vs := [.agg [.int .i64, .int .i64, .int .i64]] } }
/-- laws.toSpot -/
def sgl_toSpot : Sig := { i := { vs := [.agg [.int .i64, .str]] }, o := { vs := [.agg [.int .i64, .str]] } }
/-- spec.l12Spots -/
def sgs_l12Spots : Sig := { i := { vs := [.ro false 2, .int .i64] }, o := { vs := [.bool] } }
/-- spec.l12In -/
def sgs_l12In : Sig := { i := { vs := [.agg [.int .i64, .ro false 3, .ro false 2, .ro false 2], .ro false 1, .str] }, o := { vs := [.ro false 1] } }
/-- spec.l12Behind -/
def sgs_l12Behind : Sig := { i := { vs := [.agg [.int .i64, .ro false 3, .ro false 2, .ro false 2], .ro false 1, .int .i64] }, o := { vs := [.ro false 1] } }
/-- impl.SgOK$1 -/
def sgi_SgOK_1 : Sig := { i := { vs := [.int .i64, .ptr 0 [] none], os := [(true, .agg [.int .i64, .ro false 3, .ro false 2, .ro false 2])] }, o := { vs := [.bool], os := [(true, .agg [.int .i64, .ro false 3, .ro false 2, .ro false 2])] } }
/-- impl.Sg).steps -/
def sgi_Sg_steps : Sig := { i := { vs := [.agg [.int .i64, .ro false 3, .ro false 2, .ro false 2], .int .i64] }, o := { vs := [.ro false 1] } }
/-- laws.eqSEdge -/
def sgl_eqSEdge : Sig := { i := { vs := [.agg [.int .i64, .int .i64, .int .i64], .agg [.int .i64, .int .i64, .int .i64]] }, o := { vs := [.bool] } }
/-- laws.eqSpot -/
def sgl_eqSpot : Sig := { i := { vs := [.agg [.int .i64, .str], .agg [.int .i64, .str]] }, o := { vs := [.bool] } }
/-- laws.markText -/
def sgl_markText : Sig := { i := { vs := [.int .i64] }, o := { vs := [.str] } }
/-- impl.Sg).steps$1 -/
def sgi_Sg_steps_1 : Sig := { i := { vs := [.int .i64, .int .i64, .ptr 0 [] none], os := [(true, .own 1)] }, o := { vs := [], os := [(true, .own 1)] } }
def sigs : List (Nat × Sig) := [(4, sgl_FnExactBnfOK), (16, sgl_szBnf), (18, sgl_toBnf), (17, sgs_BnfOK), (19, sgi_BnfOK), (20, sgl_eqBnf), (72, sgl_szTermS), (73, sgl_szStringS), (74, sgl_szProdS), (79, sgl_toTermS), (80, sgl_toStringS), (81, sgl_toProdS), (75, sgs_l01Between), (76, sgs_l04Strength), (77, sgs_l03At), (78, sgs_l01Name), (82, sgi_levelOK), (83, sgi_nameOK), (84, sgl_eqTermS), (85, sgl_eqStringS), (86, sgl_eqProdS), (158, sgl_szTerm), (159, sgl_szProd), (162, sgl_toTerm), (163, sgl_toProd), (160, sgs_l01Letter), (161, sgs_l01NameByte), (164, sgi_isLetter), (165, sgi_inName), (166, sgl_eqTerm), (167, sgl_eqProd), (211, sgl_szIntS), (213, sgl_toIntS), (219, sgs_l01Digit), (220, sgi_isDigit), (25, sgl_eqIntS), (13, sgl_FnExactTableOK), (65, sgl_szTable), (67, sgl_toTable), (66, sgs_TableOK), (68, sgi_TableOK), (69, sgl_eqTable), (147, sgl_szActSS), (148, sgl_szIntSS), (149, sgl_toActSS), (150, sgl_toIntSS), (151, sgl_eqActSS), (59, sgl_eqIntSS), (210, sgl_szActS), (212, sgl_toActS), (214, sgl_eqActS), (232, sgl_toAct), (233, sgl_eqAct), (6, sgl_FnExactUnused), (21, sgl_szSg), (23, sgl_toSg), (30, sgs_Unused), (31, sgi_Unused), (26, sgl_eqSg), (27, sgl_markSg), (28, sgl_markIntS), (29, sgl_heldIntS), (87, sgl_szSEdgeS), (88, sgl_szSpotS), (91, sgl_toSEdgeS), (92, sgl_toSpotS), (89, sgs_SgOK), (90, sgs_l12Resolve), (99, sgs_l12Has), (93, sgi_SgOK), (94, sgi_Sg_resolve), (95, sgl_eqSEdgeS), (96, sgl_eqSpotS), (97, sgl_markSEdgeS), (98, sgl_markSpotS), (168, sgl_szSpot), (172, sgl_toSEdge), (173, sgl_toSpot), (169, sgs_l12Spots), (170, sgs_l12In), (171, sgs_l12Behind), (174, sgi_SgOK_1), (175, sgi_Sg_steps), (176, sgl_eqSEdge), (177, sgl_eqSpot), (117, sgl_markText), (221, sgi_Sg_steps_1)]
noncomputable def Fl_FnExactBnfOK (x0 : List AVal) (x1 : List AVal) (x2 : Int) (x3 : List AVal) : Option (Bool) := FnV ctx 4 sgl_FnExactBnfOK (x0, x1, x2, x3)
def lsl_FnExactBnfOK : List LSig := []
noncomputable def Fl_szBnf (x0 : List AVal) (x1 : List AVal) (x2 : Int) (x3 : List AVal) (x4 : Int) : Option (Int) := FnV ctx 16 sgl_szBnf (x0, x1, x2, x3, x4)
def lsl_szBnf : List LSig := []
noncomputable def Fl_toBnf (x0 : List AVal) (x1 : List AVal) (x2 : Int) (x3 : List AVal) : Option (List AVal × List AVal × Int × List AVal) := FnV ctx 18 sgl_toBnf (x0, x1, x2, x3)
def lsl_toBnf : List LSig := []
noncomputable def Fs_BnfOK (x0 : List AVal) (x1 : List AVal) (x2 : Int) (x3 : List AVal) : Option (Bool) := FnV ctx 17 sgs_BnfOK (x0, x1, x2, x3)
def Xs_BnfOK_0 : List Ex := [{ out := .ret, st := { env := [(2, .bool)] } }, { out := .exit 0, st := { env := [(1, .ptr 1 [] none)], objs := [(1, true, .agg [.ro false 3, .ro false 1, .int .i64, .ro false 5])] } }]
def Ss_BnfOK_0 : SP := { env := [(1, .ptr 1 [] none), (3, .int .i64)], objs := [(1, true, .agg [.ro false 3, .ro false 1, .int .i64, .ro false 5])] }
noncomputable def Ls_BnfOK_0 (x0 : Int) (x1 : List AVal) (x2 : List AVal) (x3 : Int) (x4 : List AVal) : Option ((Bool) ⊕ (List AVal × List AVal × Int × List AVal)) := LpV ctx fn17 0 0 Xs_BnfOK_0 Ss_BnfOK_0 (x0, x1, x2, x3, x4)
def Xs_BnfOK_1 : List Ex := [{ out := .ret, st := { env := [(2, .bool)] } }, { out := .exit 2, st := { env := [(1, .ptr 1 [] none), (3, .int .i64)], objs := [(1, true, .agg [.ro false 3, .ro false 1, .int .i64, .ro false 5])] } }]
def Ss_BnfOK_1 : SP := { env := [(1, .ptr 1 [] none), (3, .int .i64), (4, .int .i64)], objs := [(1, true, .agg [.ro false 3, .ro false 1, .int .i64, .ro false 5])] }
noncomputable def Ls_BnfOK_1 (x0 : Int) (x1 : Int) (x2 : List AVal) (x3 : List AVal) (x4 : Int) (x5 : List AVal) : Option ((Bool) ⊕ (Int × List AVal × List AVal × Int × List AVal)) := LpV ctx fn17 0 1 Xs_BnfOK_1 Ss_BnfOK_1 (x0, x1, x2, x3, x4, x5)
def Xs_BnfOK_2 : List Ex := [{ out := .ret, st := { env := [(2, .bool)] } }, { out := .exit 4, st := { env := [(1, .ptr 1 [] none)], objs := [(1, true, .agg [.ro false 3, .ro false 1, .int .i64, .ro false 5])] } }]
def Ss_BnfOK_2 : SP := { env := [(1, .ptr 1 [] none), (5, .int .i64)], objs := [(1, true, .agg [.ro false 3, .ro false 1, .int .i64, .ro false 5])] }
noncomputable def Ls_BnfOK_2 (x0 : Int) (x1 : List AVal) (x2 : List AVal) (x3 : Int) (x4 : List AVal) : Option ((Bool) ⊕ (List AVal × List AVal × Int × List AVal)) := LpV ctx fn17 0 2 Xs_BnfOK_2 Ss_BnfOK_2 (x0, x1, x2, x3, x4)
def Xs_BnfOK_3 : List Ex := [{ out := .ret, st := { env := [(2, .bool)] } }, { out := .exit 6, st := { env := [] } }]
def Ss_BnfOK_3 : SP := { env := [(1, .ptr 1 [] none), (6, .int .i64), (7, .int .i64)], objs := [(1, true, .agg [.ro false 3, .ro false 1, .int .i64, .ro false 5])] }
noncomputable def Ls_BnfOK_3 (x0 : Int) (x1 : Int) (x2 : List AVal) (x3 : List AVal) (x4 : Int) (x5 : List AVal) : Option ((Bool) ⊕ (Unit)) := LpV ctx fn17 0 3 Xs_BnfOK_3 Ss_BnfOK_3 (x0, x1, x2, x3, x4, x5)
def Xs_BnfOK_4 : List Ex := [{ out := .ret, st := { env := [(2, .bool)] } }, { out := .exit 8, st := { env := [(1, .ptr 1 [] none), (6, .int .i64), (7, .int .i64)], objs := [(1, true, .agg [.ro false 3, .ro false 1, .int .i64, .ro false 5])] } }]
def Ss_BnfOK_4 : SP := { env := [(1, .ptr 1 [] none), (6, .int .i64), (7, .int .i64), (8, .ptr 8 [] none), (9, .int .i64)], objs := [(1, true, .agg [.ro false 3, .ro false 1, .int .i64, .ro false 5]), (8, true, .agg [.int .i64, .ro false 1, .str, .int .i64, .int .i64])] }
noncomputable def Ls_BnfOK_4 (x0 : Int) (x1 : Int) (x2 : Int) (x3 : List AVal) (x4 : List AVal) (x5 : Int) (x6 : List AVal) (x7 : Int) (x8 : List AVal) (x9 : ByteArray) (x10 : Int) (x11 : Int) : Option ((Bool) ⊕ (Int × Int × List AVal × List AVal × Int × List AVal)) := LpV ctx fn17 0 4 Xs_BnfOK_4 Ss_BnfOK_4 (x0, x1, x2, x3, x4, x5, x6, x7, x8, x9, x10, x11)
def lss_BnfOK : List LSig := [{ h := 0, X := Xs_BnfOK_0, Ss := [Ss_BnfOK_0] }, { h := 1, X := Xs_BnfOK_1, Ss := [Ss_BnfOK_1] }, { h := 2, X := Xs_BnfOK_2, Ss := [Ss_BnfOK_2] }, { h := 3, X := Xs_BnfOK_3, Ss := [Ss_BnfOK_3] }, { h := 4, X := Xs_BnfOK_4, Ss := [Ss_BnfOK_4] }]
noncomputable def Fi_BnfOK (x0 : List AVal) (x1 : List AVal) (x2 : Int) (x3 : List AVal) : Option (Bool) := FnV ctx 19 sgi_BnfOK (x0, x1, x2, x3)
def Xi_BnfOK_0 : List Ex := [{ out := .ret, st := { env := [(2, .bool)] } }, { out := .exit 0, st := { env := [(1, .ptr 1 [] none)], objs := [(1, true, .agg [.ro false 3, .ro false 1, .int .i64, .ro false 5])] } }]
def Si_BnfOK_0 : SP := { env := [(1, .ptr 1 [] none), (3, .ref 3 []), (51, .ro false 3), (52, .int .i64), (53, .int .i64)], objs := [(1, true, .agg [.ro false 3, .ro false 1, .int .i64, .ro false 5]), (3, false, .mp .str)] }
noncomputable def Li_BnfOK_0 (x0 : List AVal) (x1 : Int) (x2 : Int) (x3 : List AVal) (x4 : List AVal) (x5 : Int) (x6 : List AVal) (x7 : List AVal) : Option ((Bool) ⊕ (List AVal × List AVal × Int × List AVal)) := LpV ctx fn19 0 0 Xi_BnfOK_0 Si_BnfOK_0 (x0, x1, x2, x3, x4, x5, x6, x7)
def Xi_BnfOK_1 : List Ex := [{ out := .ret, st := { env := [(2, .bool)] } }, { out := .exit 2, st := { env := [(1, .ptr 1 [] none)], objs := [(1, true, .agg [.ro false 3, .ro false 1, .int .i64, .ro false 5])] } }]
def Si_BnfOK_1 : SP := { env := [(1, .ptr 1 [] none), (6, .ref 6 []), (76, .ro false 1), (77, .int .i64), (78, .int .i64)], objs := [(1, true, .agg [.ro false 3, .ro false 1, .int .i64, .ro false 5]), (6, false, .mp .str)] }
noncomputable def Li_BnfOK_1 (x0 : List AVal) (x1 : Int) (x2 : Int) (x3 : List AVal) (x4 : List AVal) (x5 : Int) (x6 : List AVal) (x7 : List AVal) : Option ((Bool) ⊕ (List AVal × List AVal × Int × List AVal)) := LpV ctx fn19 0 1 Xi_BnfOK_1 Si_BnfOK_1 (x0, x1, x2, x3, x4, x5, x6, x7)
def Xi_BnfOK_2 : List Ex := [{ out := .ret, st := { env := [(2, .bool)] } }, { out := .exit 4, st := { env := [] } }]
def Si_BnfOK_2 : SP := { env := [(1, .ptr 1 [] none), (9, .int .i64), (97, .ro false 5), (98, .int .i64), (99, .int .i64)], objs := [(1, true, .agg [.ro false 3, .ro false 1, .int .i64, .ro false 5])] }
noncomputable def Li_BnfOK_2 (x0 : Int) (x1 : List AVal) (x2 : Int) (x3 : Int) (x4 : List AVal) (x5 : List AVal) (x6 : Int) (x7 : List AVal) : Option ((Bool) ⊕ (Unit)) := LpV ctx fn19 0 2 Xi_BnfOK_2 Si_BnfOK_2 (x0, x1, x2, x3, x4, x5, x6, x7)
def Xi_BnfOK_3 : List Ex := [{ out := .ret, st := { env := [(2, .bool)] } }, { out := .exit 6, st := { env := [(1, .ptr 1 [] none), (9, .int .i64), (97, .ro false 5), (98, .int .i64), (99, .int .i64)], objs := [(1, true, .agg [.ro false 3, .ro false 1, .int .i64, .ro false 5])] } }]
def Si_BnfOK_3 : SP := { env := [(1, .ptr 1 [] none), (9, .int .i64), (97, .ro false 5), (98, .int .i64), (99, .int .i64), (141, .ro false 1), (142, .int .i64), (143, .int .i64)], objs := [(1, true, .agg [.ro false 3, .ro false 1, .int .i64, .ro false 5])] }
noncomputable def Li_BnfOK_3 (x0 : Int) (x1 : List AVal) (x2 : Int) (x3 : Int) (x4 : List AVal) (x5 : Int) (x6 : Int) (x7 : List AVal) (x8 : List AVal) (x9 : Int) (x10 : List AVal) : Option ((Bool) ⊕ (Int × List AVal × Int × Int × List AVal × List AVal × Int × List AVal)) := LpV ctx fn19 0 3 Xi_BnfOK_3 Si_BnfOK_3 (x0, x1, x2, x3, x4, x5, x6, x7, x8, x9, x10)
def lsi_BnfOK : List LSig := [{ h := 0, X := Xi_BnfOK_0, Ss := [Si_BnfOK_0] }, { h := 1, X := Xi_BnfOK_1, Ss := [Si_BnfOK_1] }, { h := 2, X := Xi_BnfOK_2, Ss := [Si_BnfOK_2] }, { h := 3, X := Xi_BnfOK_3, Ss := [Si_BnfOK_3] }]
noncomputable def Fl_eqBnf (x0 : List AVal) (x1 : List AVal) (x2 : Int) (x3 : List AVal) (x4 : List AVal) (x5 : List AVal) (x6 : Int) (x7 : List AVal) : Option (Bool) := FnV ctx 20 sgl_eqBnf (x0, x1, x2, x3, x4, x5, x6, x7)
def lsl_eqBnf : List LSig := []
noncomputable def Fl_szTermS (x0 : List AVal) (x1 : Int) : Option (Int) := FnV ctx 72 sgl_szTermS (x0, x1)
def Xl_szTermS_0 : List Ex := [{ out := .ret, st := { env := [(4, .int .i64)] } }, { out := .exit 0, st := { env := [(1, .int .i64)] } }]
def Sl_szTermS_0 : SP := { env := [(0, .ro false 3), (1, .int .i64), (5, .int .i64)] }
noncomputable def Ll_szTermS_0 (x0 : List AVal) (x1 : Int) (x2 : Int) : Option ((Int) ⊕ (Int)) := LpV ctx fn72 0 0 Xl_szTermS_0 Sl_szTermS_0 (x0, x1, x2)
def lsl_szTermS : List LSig := [{ h := 0, X := Xl_szTermS_0, Ss := [Sl_szTermS_0] }]
noncomputable def Fl_szStringS (x0 : List AVal) (x1 : Int) : Option (Int) := FnV ctx 73 sgl_szStringS (x0, x1)
def Xl_szStringS_0 : List Ex := [{ out := .ret, st := { env := [(4, .int .i64)] } }, { out := .exit 0, st := { env := [(1, .int .i64)] } }]
def Sl_szStringS_0 : SP := { env := [(0, .ro false 1), (1, .int .i64), (5, .int .i64)] }
noncomputable def Ll_szStringS_0 (x0 : List AVal) (x1 : Int) (x2 : Int) : Option ((Int) ⊕ (Int)) := LpV ctx fn73 0 0 Xl_szStringS_0 Sl_szStringS_0 (x0, x1, x2)
def lsl_szStringS : List LSig := [{ h := 0, X := Xl_szStringS_0, Ss := [Sl_szStringS_0] }]
noncomputable def Fl_szProdS (x0 : List AVal) (x1 : Int) : Option (Int) := FnV ctx 74 sgl_szProdS (x0, x1)
def Xl_szProdS_0 : List Ex := [{ out := .ret, st := { env := [(4, .int .i64)] } }, { out := .exit 0, st := { env := [(1, .int .i64)] } }]
def Sl_szProdS_0 : SP := { env := [(0, .ro false 5), (1, .int .i64), (5, .int .i64)] }
noncomputable def Ll_szProdS_0 (x0 : List AVal) (x1 : Int) (x2 : Int) : Option ((Int) ⊕ (Int)) := LpV ctx fn74 0 0 Xl_szProdS_0 Sl_szProdS_0 (x0, x1, x2)
def lsl_szProdS : List LSig := [{ h := 0, X := Xl_szProdS_0, Ss := [Sl_szProdS_0] }]
noncomputable def Fl_toTermS (x0 : List AVal) : Option (List AVal) := FnV ctx 79 sgl_toTermS x0
def Xl_toTermS_0 : List Ex := [{ out := .exit 0, st := { env := [(3, .ref 3 [])], objs := [(3, false, .own 3)] } }]
def Sl_toTermS_0 : SP := { env := [(0, .ro false 3), (3, .ref 3 []), (4, .int .i64)], objs := [(3, false, .own 3)] }
noncomputable def Ll_toTermS_0 (x0 : List AVal) (x1 : Int) (x2 : List AVal) : Option (List AVal) := LpV ctx fn79 0 0 Xl_toTermS_0 Sl_toTermS_0 (x0, x1, x2)
def lsl_toTermS : List LSig := [{ h := 0, X := Xl_toTermS_0, Ss := [Sl_toTermS_0] }]
noncomputable def Fl_toStringS (x0 : List AVal) : Option (List AVal) := FnV ctx 80 sgl_toStringS x0
def Xl_toStringS_0 : List Ex := [{ out := .exit 0, st := { env := [(3, .ref 3 [])], objs := [(3, false, .own 1)] } }]
def Sl_toStringS_0 : SP := { env := [(0, .ro false 1), (3, .ref 3 []), (4, .int .i64)], objs := [(3, false, .own 1)] }
noncomputable def Ll_toStringS_0 (x0 : List AVal) (x1 : Int) (x2 : List AVal) : Option (List AVal) := LpV ctx fn80 0 0 Xl_toStringS_0 Sl_toStringS_0 (x0, x1, x2)
def lsl_toStringS : List LSig := [{ h := 0, X := Xl_toStringS_0, Ss := [Sl_toStringS_0] }]
noncomputable def Fl_toProdS (x0 : List AVal) : Option (List AVal) := FnV ctx 81 sgl_toProdS x0
def Xl_toProdS_0 : List Ex := [{ out := .exit 0, st := { env := [(3, .ref 3 [])], objs := [(3, false, .own 5)] } }]
def Sl_toProdS_0 : SP := { env := [(0, .ro false 5), (3, .ref 3 []), (4, .int .i64)], objs := [(3, false, .own 5)] }
noncomputable def Ll_toProdS_0 (x0 : List AVal) (x1 : Int) (x2 : List AVal) : Option (List AVal) := LpV ctx fn81 0 0 Xl_toProdS_0 Sl_toProdS_0 (x0, x1, x2)
def lsl_toProdS : List LSig := [{ h := 0, X := Xl_toProdS_0, Ss := [Sl_toProdS_0] }]
noncomputable def Fs_l01Between (x0 : Int) (x1 : Int) (x2 : Int) : Option (Bool) := FnV ctx 75 sgs_l01Between (x0, x1, x2)
def lss_l01Between : List LSig := []
noncomputable def Fs_l04Strength (x0 : Int) (x1 : Int) : Option (Bool) := FnV ctx 76 sgs_l04Strength (x0, x1)
def lss_l04Strength : List LSig := []
noncomputable def Fs_l03At (x0 : List AVal) (x1 : ByteArray) : Option (Int) := FnV ctx 77 sgs_l03At (x0, x1)
def Xs_l03At_0 : List Ex := [{ out := .ret, st := { env := [(4, .int .i64)] } }, { out := .exit 0, st := { env := [] } }]
def Ss_l03At_0 : SP := { env := [(0, .ro false 1), (1, .str), (5, .int .i64)] }
noncomputable def Ls_l03At_0 (x0 : List AVal) (x1 : ByteArray) (x2 : Int) : Option ((Int) ⊕ (Unit)) := LpV ctx fn77 0 0 Xs_l03At_0 Ss_l03At_0 (x0, x1, x2)
def lss_l03At : List LSig := [{ h := 0, X := Xs_l03At_0, Ss := [Ss_l03At_0] }]
noncomputable def Fs_l01Name (x0 : ByteArray) : Option (Bool) := FnV ctx 78 sgs_l01Name x0
def Xs_l01Name_0 : List Ex := [{ out := .ret, st := { env := [(2, .bool)] } }, { out := .exit 0, st := { env := [] } }]
def Ss_l01Name_0 : SP := { env := [(0, .str), (3, .int .i64)] }
noncomputable def Ls_l01Name_0 (x0 : ByteArray) (x1 : Int) : Option ((Bool) ⊕ (Unit)) := LpV ctx fn78 0 0 Xs_l01Name_0 Ss_l01Name_0 (x0, x1)
def lss_l01Name : List LSig := [{ h := 0, X := Xs_l01Name_0, Ss := [Ss_l01Name_0] }]
noncomputable def Fi_levelOK (x0 : Int) (x1 : Int) : Option (Bool) := FnV ctx 82 sgi_levelOK (x0, x1)
def lsi_levelOK : List LSig := []
noncomputable def Fi_nameOK (x0 : ByteArray) : Option (Bool) := FnV ctx 83 sgi_nameOK x0
def Xi_nameOK_0 : List Ex := [{ out := .ret, st := { env := [(2, .bool)] } }, { out := .exit 0, st := { env := [] } }]
def Si_nameOK_0 : SP := { env := [(0, .str), (3, .int .i64)] }
noncomputable def Li_nameOK_0 (x0 : ByteArray) (x1 : Int) : Option ((Bool) ⊕ (Unit)) := LpV ctx fn83 0 0 Xi_nameOK_0 Si_nameOK_0 (x0, x1)
def lsi_nameOK : List LSig := [{ h := 0, X := Xi_nameOK_0, Ss := [Si_nameOK_0] }]
noncomputable def Fl_eqTermS (x0 : List AVal) (x1 : List AVal) : Option (Bool) := FnV ctx 84 sgl_eqTermS (x0, x1)
def Xl_eqTermS_0 : List Ex := [{ out := .ret, st := { env := [(4, .bool)] } }, { out := .exit 0, st := { env := [] } }]
def Sl_eqTermS_0 : SP := { env := [(0, .ro false 3), (1, .ro false 3), (5, .int .i64)] }
noncomputable def Ll_eqTermS_0 (x0 : List AVal) (x1 : List AVal) (x2 : Int) : Option ((Bool) ⊕ (Unit)) := LpV ctx fn84 0 0 Xl_eqTermS_0 Sl_eqTermS_0 (x0, x1, x2)
def lsl_eqTermS : List LSig := [{ h := 0, X := Xl_eqTermS_0, Ss := [Sl_eqTermS_0] }]
noncomputable def Fl_eqStringS (x0 : List AVal) (x1 : List AVal) : Option (Bool) := FnV ctx 85 sgl_eqStringS (x0, x1)
def Xl_eqStringS_0 : List Ex := [{ out := .ret, st := { env := [(4, .bool)] } }, { out := .exit 0, st := { env := [] } }]
def Sl_eqStringS_0 : SP := { env := [(0, .ro false 1), (1, .ro false 1), (5, .int .i64)] }
noncomputable def Ll_eqStringS_0 (x0 : List AVal) (x1 : List AVal) (x2 : Int) : Option ((Bool) ⊕ (Unit)) := LpV ctx fn85 0 0 Xl_eqStringS_0 Sl_eqStringS_0 (x0, x1, x2)
def lsl_eqStringS : List LSig := [{ h := 0, X := Xl_eqStringS_0, Ss := [Sl_eqStringS_0] }]
noncomputable def Fl_eqProdS (x0 : List AVal) (x1 : List AVal) : Option (Bool) := FnV ctx 86 sgl_eqProdS (x0, x1)
def Xl_eqProdS_0 : List Ex := [{ out := .ret, st := { env := [(4, .bool)] } }, { out := .exit 0, st := { env := [] } }]
def Sl_eqProdS_0 : SP := { env := [(0, .ro false 5), (1, .ro false 5), (5, .int .i64)] }
noncomputable def Ll_eqProdS_0 (x0 : List AVal) (x1 : List AVal) (x2 : Int) : Option ((Bool) ⊕ (Unit)) := LpV ctx fn86 0 0 Xl_eqProdS_0 Sl_eqProdS_0 (x0, x1, x2)
def lsl_eqProdS : List LSig := [{ h := 0, X := Xl_eqProdS_0, Ss := [Sl_eqProdS_0] }]
noncomputable def Fl_szTerm (x0 : ByteArray) (x1 : Int) (x2 : Int) (x3 : Int) : Option (Int) := FnV ctx 158 sgl_szTerm (x0, x1, x2, x3)
def lsl_szTerm : List LSig := []
noncomputable def Fl_szProd (x0 : Int) (x1 : List AVal) (x2 : ByteArray) (x3 : Int) (x4 : Int) (x5 : Int) : Option (Int) := FnV ctx 159 sgl_szProd (x0, x1, x2, x3, x4, x5)
def lsl_szProd : List LSig := []
noncomputable def Fl_toTerm (x0 : ByteArray) (x1 : Int) (x2 : Int) : Option (ByteArray × Int × Int) := FnV ctx 162 sgl_toTerm (x0, x1, x2)
def lsl_toTerm : List LSig := []
noncomputable def Fl_toProd (x0 : Int) (x1 : List AVal) (x2 : ByteArray) (x3 : Int) (x4 : Int) : Option (Int × List AVal × ByteArray × Int × Int) := FnV ctx 163 sgl_toProd (x0, x1, x2, x3, x4)
def lsl_toProd : List LSig := []
noncomputable def Fs_l01Letter (x0 : Int) : Option (Bool) := FnV ctx 160 sgs_l01Letter x0
def lss_l01Letter : List LSig := []
noncomputable def Fs_l01NameByte (x0 : Int) : Option (Bool) := FnV ctx 161 sgs_l01NameByte x0
def lss_l01NameByte : List LSig := []
noncomputable def Fi_isLetter (x0 : Int) : Option (Bool) := FnV ctx 164 sgi_isLetter x0
def lsi_isLetter : List LSig := []
noncomputable def Fi_inName (x0 : Int) : Option (Bool) := FnV ctx 165 sgi_inName x0
def lsi_inName : List LSig := []
noncomputable def Fl_eqTerm (x0 : ByteArray) (x1 : Int) (x2 : Int) (x3 : ByteArray) (x4 : Int) (x5 : Int) : Option (Bool) := FnV ctx 166 sgl_eqTerm (x0, x1, x2, x3, x4, x5)
def lsl_eqTerm : List LSig := []
noncomputable def Fl_eqProd (x0 : Int) (x1 : List AVal) (x2 : ByteArray) (x3 : Int) (x4 : Int) (x5 : Int) (x6 : List AVal) (x7 : ByteArray) (x8 : Int) (x9 : Int) : Option (Bool) := FnV ctx 167 sgl_eqProd (x0, x1, x2, x3, x4, x5, x6, x7, x8, x9)
def lsl_eqProd : List LSig := []
noncomputable def Fl_szIntS (x0 : List AVal) (x1 : Int) : Option (Int) := FnV ctx 211 sgl_szIntS (x0, x1)
def lsl_szIntS : List LSig := []
noncomputable def Fl_toIntS (x0 : List AVal) : Option (List AVal) := FnV ctx 213 sgl_toIntS x0
def Xl_toIntS_0 : List Ex := [{ out := .exit 0, st := { env := [(3, .ref 3 [])], objs := [(3, false, .own 1)] } }]
def Sl_toIntS_0 : SP := { env := [(0, .ro false 1), (3, .ref 3 []), (4, .int .i64)], objs := [(3, false, .own 1)] }
noncomputable def Ll_toIntS_0 (x0 : List AVal) (x1 : Int) (x2 : List AVal) : Option (List AVal) := LpV ctx fn213 0 0 Xl_toIntS_0 Sl_toIntS_0 (x0, x1, x2)
def lsl_toIntS : List LSig := [{ h := 0, X := Xl_toIntS_0, Ss := [Sl_toIntS_0] }]
noncomputable def Fs_l01Digit (x0 : Int) : Option (Bool) := FnV ctx 219 sgs_l01Digit x0
def lss_l01Digit : List LSig := []
noncomputable def Fi_isDigit (x0 : Int) : Option (Bool) := FnV ctx 220 sgi_isDigit x0
def lsi_isDigit : List LSig := []
noncomputable def Fl_eqIntS (x0 : List AVal) (x1 : List AVal) : Option (Bool) := FnV ctx 25 sgl_eqIntS (x0, x1)
def Xl_eqIntS_0 : List Ex := [{ out := .ret, st := { env := [(4, .bool)] } }, { out := .exit 0, st := { env := [] } }]
def Sl_eqIntS_0 : SP := { env := [(0, .ro false 1), (1, .ro false 1), (5, .int .i64)] }
noncomputable def Ll_eqIntS_0 (x0 : List AVal) (x1 : List AVal) (x2 : Int) : Option ((Bool) ⊕ (Unit)) := LpV ctx fn25 0 0 Xl_eqIntS_0 Sl_eqIntS_0 (x0, x1, x2)
def lsl_eqIntS : List LSig := [{ h := 0, X := Xl_eqIntS_0, Ss := [Sl_eqIntS_0] }]
noncomputable def Fl_FnExactTableOK (x0 : List AVal) (x1 : List AVal) (x2 : Int) (x3 : List AVal) (x4 : List AVal) (x5 : List AVal) : Option (Bool) := FnV ctx 13 sgl_FnExactTableOK (x0, x1, x2, x3, x4, x5)
def lsl_FnExactTableOK : List LSig := []
noncomputable def Fl_szTable (x0 : List AVal) (x1 : List AVal) (x2 : Int) : Option (Int) := FnV ctx 65 sgl_szTable (x0, x1, x2)
def lsl_szTable : List LSig := []
noncomputable def Fl_toTable (x0 : List AVal) (x1 : List AVal) : Option (List AVal × List AVal) := FnV ctx 67 sgl_toTable (x0, x1)
def lsl_toTable : List LSig := []
noncomputable def Fs_TableOK (x0 : List AVal) (x1 : List AVal) (x2 : Int) (x3 : List AVal) (x4 : List AVal) (x5 : List AVal) : Option (Bool) := FnV ctx 66 sgs_TableOK (x0, x1, x2, x3, x4, x5)
def Xs_TableOK_0 : List Ex := [{ out := .ret, st := { env := [(4, .bool)] } }, { out := .exit 0, st := { env := [] } }]
def Ss_TableOK_0 : SP := { env := [(2, .ptr 2 [] none), (3, .ptr 3 [] none), (5, .int .i64), (6, .int .i64)], objs := [(2, true, .agg [.ro false 3, .ro false 1, .int .i64, .ro false 5]), (3, true, .agg [.ro false 1, .ro false 1])] }
noncomputable def Ls_TableOK_0 (x0 : Int) (x1 : Int) (x2 : List AVal) (x3 : List AVal) (x4 : Int) (x5 : List AVal) (x6 : List AVal) (x7 : List AVal) : Option ((Bool) ⊕ (Unit)) := LpV ctx fn66 0 0 Xs_TableOK_0 Ss_TableOK_0 (x0, x1, x2, x3, x4, x5, x6, x7)
def Xs_TableOK_1 : List Ex := [{ out := .ret, st := { env := [(4, .bool)] } }, { out := .exit 2, st := { env := [(2, .ptr 2 [] none), (3, .ptr 3 [] none), (5, .int .i64), (6, .int .i64)], objs := [(2, true, .agg [.ro false 3, .ro false 1, .int .i64, .ro false 5]), (3, true, .agg [.ro false 1, .ro false 1])] } }]
def Ss_TableOK_1 : SP := { env := [(2, .ptr 2 [] none), (3, .ptr 3 [] none), (5, .int .i64), (6, .int .i64), (7, .int .i64)], objs := [(2, true, .agg [.ro false 3, .ro false 1, .int .i64, .ro false 5]), (3, true, .agg [.ro false 1, .ro false 1])] }
noncomputable def Ls_TableOK_1 (x0 : Int) (x1 : Int) (x2 : Int) (x3 : List AVal) (x4 : List AVal) (x5 : Int) (x6 : List AVal) (x7 : List AVal) (x8 : List AVal) : Option ((Bool) ⊕ (Int × Int × List AVal × List AVal × Int × List AVal × List AVal × List AVal)) := LpV ctx fn66 0 1 Xs_TableOK_1 Ss_TableOK_1 (x0, x1, x2, x3, x4, x5, x6, x7, x8)
def Xs_TableOK_2 : List Ex := [{ out := .ret, st := { env := [(4, .bool)] } }, { out := .exit 4, st := { env := [(2, .ptr 2 [] none), (3, .ptr 3 [] none), (5, .int .i64), (6, .int .i64)], objs := [(2, true, .agg [.ro false 3, .ro false 1, .int .i64, .ro false 5]), (3, true, .agg [.ro false 1, .ro false 1])] } }]
def Ss_TableOK_2 : SP := { env := [(2, .ptr 2 [] none), (3, .ptr 3 [] none), (5, .int .i64), (6, .int .i64), (10, .int .i64)], objs := [(2, true, .agg [.ro false 3, .ro false 1, .int .i64, .ro false 5]), (3, true, .agg [.ro false 1, .ro false 1])] }
noncomputable def Ls_TableOK_2 (x0 : Int) (x1 : Int) (x2 : Int) (x3 : List AVal) (x4 : List AVal) (x5 : Int) (x6 : List AVal) (x7 : List AVal) (x8 : List AVal) : Option ((Bool) ⊕ (Int × Int × List AVal × List AVal × Int × List AVal × List AVal × List AVal)) := LpV ctx fn66 0 2 Xs_TableOK_2 Ss_TableOK_2 (x0, x1, x2, x3, x4, x5, x6, x7, x8)
def lss_TableOK : List LSig := [{ h := 0, X := Xs_TableOK_0, Ss := [Ss_TableOK_0] }, { h := 1, X := Xs_TableOK_1, Ss := [Ss_TableOK_1] }, { h := 2, X := Xs_TableOK_2, Ss := [Ss_TableOK_2] }]
noncomputable def Fi_TableOK (x0 : List AVal) (x1 : List AVal) (x2 : Int) (x3 : List AVal) (x4 : List AVal) (x5 : List AVal) : Option (Bool) := FnV ctx 68 sgi_TableOK (x0, x1, x2, x3, x4, x5)
def Xi_TableOK_0 : List Ex := [{ out := .ret, st := { env := [(4, .bool)] } }, { out := .exit 0, st := { env := [] } }]
def Si_TableOK_0 : SP := { env := [(2, .ptr 2 [] none), (3, .ptr 3 [] none), (5, .int .i64), (33, .int .i64), (34, .int .i64)], objs := [(2, true, .agg [.ro false 3, .ro false 1, .int .i64, .ro false 5]), (3, true, .agg [.ro false 1, .ro false 1])] }
noncomputable def Li_TableOK_0 (x0 : Int) (x1 : Int) (x2 : Int) (x3 : List AVal) (x4 : List AVal) (x5 : Int) (x6 : List AVal) (x7 : List AVal) (x8 : List AVal) : Option ((Bool) ⊕ (Unit)) := LpV ctx fn68 0 0 Xi_TableOK_0 Si_TableOK_0 (x0, x1, x2, x3, x4, x5, x6, x7, x8)
def Xi_TableOK_1 : List Ex := [{ out := .ret, st := { env := [(4, .bool)] } }, { out := .exit 2, st := { env := [(2, .ptr 2 [] none), (3, .ptr 3 [] none), (5, .int .i64), (6, .int .i64), (33, .int .i64), (34, .int .i64)], objs := [(2, true, .agg [.ro false 3, .ro false 1, .int .i64, .ro false 5]), (3, true, .agg [.ro false 1, .ro false 1])] } }]
def Si_TableOK_1 : SP := { env := [(2, .ptr 2 [] none), (3, .ptr 3 [] none), (5, .int .i64), (6, .int .i64), (33, .int .i64), (34, .int .i64), (64, .ro false 2), (65, .int .i64), (66, .int .i64)], objs := [(2, true, .agg [.ro false 3, .ro false 1, .int .i64, .ro false 5]), (3, true, .agg [.ro false 1, .ro false 1])] }
noncomputable def Li_TableOK_1 (x0 : Int) (x1 : Int) (x2 : Int) (x3 : Int) (x4 : List AVal) (x5 : Int) (x6 : Int) (x7 : List AVal) (x8 : List AVal) (x9 : Int) (x10 : List AVal) (x11 : List AVal) (x12 : List AVal) : Option ((Bool) ⊕ (Int × Int × Int × Int × List AVal × List AVal × Int × List AVal × List AVal × List AVal)) := LpV ctx fn68 0 1 Xi_TableOK_1 Si_TableOK_1 (x0, x1, x2, x3, x4, x5, x6, x7, x8, x9, x10, x11, x12)
def Xi_TableOK_2 : List Ex := [{ out := .ret, st := { env := [(4, .bool)] } }, { out := .exit 5, st := { env := [(2, .ptr 2 [] none), (3, .ptr 3 [] none), (5, .int .i64), (33, .int .i64), (34, .int .i64)], objs := [(2, true, .agg [.ro false 3, .ro false 1, .int .i64, .ro false 5]), (3, true, .agg [.ro false 1, .ro false 1])] } }]
def Si_TableOK_2 : SP := { env := [(2, .ptr 2 [] none), (3, .ptr 3 [] none), (5, .int .i64), (33, .int .i64), (34, .int .i64), (109, .ro false 1), (110, .int .i64), (111, .int .i64)], objs := [(2, true, .agg [.ro false 3, .ro false 1, .int .i64, .ro false 5]), (3, true, .agg [.ro false 1, .ro false 1])] }
noncomputable def Li_TableOK_2 (x0 : Int) (x1 : Int) (x2 : Int) (x3 : List AVal) (x4 : Int) (x5 : Int) (x6 : List AVal) (x7 : List AVal) (x8 : Int) (x9 : List AVal) (x10 : List AVal) (x11 : List AVal) : Option ((Bool) ⊕ (Int × Int × Int × List AVal × List AVal × Int × List AVal × List AVal × List AVal)) := LpV ctx fn68 0 2 Xi_TableOK_2 Si_TableOK_2 (x0, x1, x2, x3, x4, x5, x6, x7, x8, x9, x10, x11)
def lsi_TableOK : List LSig := [{ h := 0, X := Xi_TableOK_0, Ss := [Si_TableOK_0] }, { h := 1, X := Xi_TableOK_1, Ss := [Si_TableOK_1] }, { h := 2, X := Xi_TableOK_2, Ss := [Si_TableOK_2] }]
noncomputable def Fl_eqTable (x0 : List AVal) (x1 : List AVal) (x2 : List AVal) (x3 : List AVal) : Option (Bool) := FnV ctx 69 sgl_eqTable (x0, x1, x2, x3)
def lsl_eqTable : List LSig := []
noncomputable def Fl_szActSS (x0 : List AVal) (x1 : Int) : Option (Int) := FnV ctx 147 sgl_szActSS (x0, x1)
def Xl_szActSS_0 : List Ex := [{ out := .ret, st := { env := [(4, .int .i64)] } }, { out := .exit 0, st := { env := [(1, .int .i64)] } }]
def Sl_szActSS_0 : SP := { env := [(0, .ro false 1), (1, .int .i64), (5, .int .i64)] }
noncomputable def Ll_szActSS_0 (x0 : List AVal) (x1 : Int) (x2 : Int) : Option ((Int) ⊕ (Int)) := LpV ctx fn147 0 0 Xl_szActSS_0 Sl_szActSS_0 (x0, x1, x2)
def lsl_szActSS : List LSig := [{ h := 0, X := Xl_szActSS_0, Ss := [Sl_szActSS_0] }]
noncomputable def Fl_szIntSS (x0 : List AVal) (x1 : Int) : Option (Int) := FnV ctx 148 sgl_szIntSS (x0, x1)
def Xl_szIntSS_0 : List Ex := [{ out := .ret, st := { env := [(4, .int .i64)] } }, { out := .exit 0, st := { env := [(1, .int .i64)] } }]
def Sl_szIntSS_0 : SP := { env := [(0, .ro false 1), (1, .int .i64), (5, .int .i64)] }
noncomputable def Ll_szIntSS_0 (x0 : List AVal) (x1 : Int) (x2 : Int) : Option ((Int) ⊕ (Int)) := LpV ctx fn148 0 0 Xl_szIntSS_0 Sl_szIntSS_0 (x0, x1, x2)
def lsl_szIntSS : List LSig := [{ h := 0, X := Xl_szIntSS_0, Ss := [Sl_szIntSS_0] }]
noncomputable def Fl_toActSS (x0 : List AVal) : Option (List AVal) := FnV ctx 149 sgl_toActSS x0
def Xl_toActSS_0 : List Ex := [{ out := .exit 0, st := { env := [(3, .ref 3 [])], objs := [(3, false, .own 1)] } }]
def Sl_toActSS_0 : SP := { env := [(0, .ro false 1), (3, .ref 3 []), (4, .int .i64)], objs := [(3, false, .own 1)] }
noncomputable def Ll_toActSS_0 (x0 : List AVal) (x1 : Int) (x2 : List AVal) : Option (List AVal) := LpV ctx fn149 0 0 Xl_toActSS_0 Sl_toActSS_0 (x0, x1, x2)
def lsl_toActSS : List LSig := [{ h := 0, X := Xl_toActSS_0, Ss := [Sl_toActSS_0] }]
noncomputable def Fl_toIntSS (x0 : List AVal) : Option (List AVal) := FnV ctx 150 sgl_toIntSS x0
def Xl_toIntSS_0 : List Ex := [{ out := .exit 0, st := { env := [(3, .ref 3 [])], objs := [(3, false, .own 1)] } }]
def Sl_toIntSS_0 : SP := { env := [(0, .ro false 1), (3, .ref 3 []), (4, .int .i64)], objs := [(3, false, .own 1)] }
noncomputable def Ll_toIntSS_0 (x0 : List AVal) (x1 : Int) (x2 : List AVal) : Option (List AVal) := LpV ctx fn150 0 0 Xl_toIntSS_0 Sl_toIntSS_0 (x0, x1, x2)
def lsl_toIntSS : List LSig := [{ h := 0, X := Xl_toIntSS_0, Ss := [Sl_toIntSS_0] }]
noncomputable def Fl_eqActSS (x0 : List AVal) (x1 : List AVal) : Option (Bool) := FnV ctx 151 sgl_eqActSS (x0, x1)
def Xl_eqActSS_0 : List Ex := [{ out := .ret, st := { env := [(4, .bool)] } }, { out := .exit 0, st := { env := [] } }]
def Sl_eqActSS_0 : SP := { env := [(0, .ro false 1), (1, .ro false 1), (5, .int .i64)] }
noncomputable def Ll_eqActSS_0 (x0 : List AVal) (x1 : List AVal) (x2 : Int) : Option ((Bool) ⊕ (Unit)) := LpV ctx fn151 0 0 Xl_eqActSS_0 Sl_eqActSS_0 (x0, x1, x2)
def lsl_eqActSS : List LSig := [{ h := 0, X := Xl_eqActSS_0, Ss := [Sl_eqActSS_0] }]
noncomputable def Fl_eqIntSS (x0 : List AVal) (x1 : List AVal) : Option (Bool) := FnV ctx 59 sgl_eqIntSS (x0, x1)
def Xl_eqIntSS_0 : List Ex := [{ out := .ret, st := { env := [(4, .bool)] } }, { out := .exit 0, st := { env := [] } }]
def Sl_eqIntSS_0 : SP := { env := [(0, .ro false 1), (1, .ro false 1), (5, .int .i64)] }
noncomputable def Ll_eqIntSS_0 (x0 : List AVal) (x1 : List AVal) (x2 : Int) : Option ((Bool) ⊕ (Unit)) := LpV ctx fn59 0 0 Xl_eqIntSS_0 Sl_eqIntSS_0 (x0, x1, x2)
def lsl_eqIntSS : List LSig := [{ h := 0, X := Xl_eqIntSS_0, Ss := [Sl_eqIntSS_0] }]
noncomputable def Fl_szActS (x0 : List AVal) (x1 : Int) : Option (Int) := FnV ctx 210 sgl_szActS (x0, x1)
def lsl_szActS : List LSig := []
noncomputable def Fl_toActS (x0 : List AVal) : Option (List AVal) := FnV ctx 212 sgl_toActS x0
def Xl_toActS_0 : List Ex := [{ out := .exit 0, st := { env := [(3, .ref 3 [])], objs := [(3, false, .own 2)] } }]
def Sl_toActS_0 : SP := { env := [(0, .ro false 2), (3, .ref 3 []), (4, .int .i64)], objs := [(3, false, .own 2)] }
noncomputable def Ll_toActS_0 (x0 : List AVal) (x1 : Int) (x2 : List AVal) : Option (List AVal) := LpV ctx fn212 0 0 Xl_toActS_0 Sl_toActS_0 (x0, x1, x2)
def lsl_toActS : List LSig := [{ h := 0, X := Xl_toActS_0, Ss := [Sl_toActS_0] }]
noncomputable def Fl_eqActS (x0 : List AVal) (x1 : List AVal) : Option (Bool) := FnV ctx 214 sgl_eqActS (x0, x1)
def Xl_eqActS_0 : List Ex := [{ out := .ret, st := { env := [(4, .bool)] } }, { out := .exit 0, st := { env := [] } }]
def Sl_eqActS_0 : SP := { env := [(0, .ro false 2), (1, .ro false 2), (5, .int .i64)] }
noncomputable def Ll_eqActS_0 (x0 : List AVal) (x1 : List AVal) (x2 : Int) : Option ((Bool) ⊕ (Unit)) := LpV ctx fn214 0 0 Xl_eqActS_0 Sl_eqActS_0 (x0, x1, x2)
def lsl_eqActS : List LSig := [{ h := 0, X := Xl_eqActS_0, Ss := [Sl_eqActS_0] }]
noncomputable def Fl_toAct (x0 : Int) (x1 : Int) : Option (Int × Int) := FnV ctx 232 sgl_toAct (x0, x1)
def lsl_toAct : List LSig := []
noncomputable def Fl_eqAct (x0 : Int) (x1 : Int) (x2 : Int) (x3 : Int) : Option (Bool) := FnV ctx 233 sgl_eqAct (x0, x1, x2, x3)
def lsl_eqAct : List LSig := []
noncomputable def Fl_FnExactUnused (x0 : Int) (x1 : List AVal) (x2 : List AVal) (x3 : List AVal) : Option (Bool) := FnV ctx 6 sgl_FnExactUnused (x0, x1, x2, x3)
def lsl_FnExactUnused : List LSig := []
noncomputable def Fl_szSg (x0 : Int) (x1 : List AVal) (x2 : List AVal) (x3 : List AVal) (x4 : Int) : Option (Int) := FnV ctx 21 sgl_szSg (x0, x1, x2, x3, x4)
def lsl_szSg : List LSig := []
noncomputable def Fl_toSg (x0 : Int) (x1 : List AVal) (x2 : List AVal) (x3 : List AVal) : Option (Int × List AVal × List AVal × List AVal) := FnV ctx 23 sgl_toSg (x0, x1, x2, x3)
def lsl_toSg : List LSig := []
noncomputable def Fs_Unused (x0 : Int) (x1 : List AVal) (x2 : List AVal) (x3 : List AVal) : Option (List AVal × Int) := FnV ctx 30 sgs_Unused (x0, x1, x2, x3)
def Xs_Unused_0 : List Ex := [{ out := .exit 0, st := { env := [(4, .ref 4 [])], objs := [(4, false, .own 1)] } }]
def Ss_Unused_0 : SP := { env := [(1, .ptr 1 [] none), (4, .ref 4 []), (5, .int .i64)], objs := [(1, true, .agg [.int .i64, .ro false 3, .ro false 2, .ro false 2]), (4, false, .own 1)] }
noncomputable def Ls_Unused_0 (x0 : Int) (x1 : Int) (x2 : List AVal) (x3 : List AVal) (x4 : List AVal) (x5 : List AVal) : Option (List AVal) := LpV ctx fn30 0 0 Xs_Unused_0 Ss_Unused_0 (x0, x1, x2, x3, x4, x5)
def Xs_Unused_1 : List Ex := [{ out := .exit 2, st := { env := [(1, .ptr 1 [] none), (4, .ref 4 []), (5, .int .i64), (6, .bool)], objs := [(1, true, .agg [.int .i64, .ro false 3, .ro false 2, .ro false 2]), (4, false, .own 1)] } }]
def Ss_Unused_1 : SP := { env := [(1, .ptr 1 [] none), (4, .ref 4 []), (5, .int .i64), (6, .bool), (7, .int .i64)], objs := [(1, true, .agg [.int .i64, .ro false 3, .ro false 2, .ro false 2]), (4, false, .own 1)] }
noncomputable def Ls_Unused_1 (x0 : Int) (x1 : Bool) (x2 : Int) (x3 : Int) (x4 : List AVal) (x5 : List AVal) (x6 : List AVal) (x7 : List AVal) : Option (Int × Bool × Int × List AVal × List AVal × List AVal × List AVal) := LpV ctx fn30 0 1 Xs_Unused_1 Ss_Unused_1 (x0, x1, x2, x3, x4, x5, x6, x7)
def lss_Unused : List LSig := [{ h := 0, X := Xs_Unused_0, Ss := [Ss_Unused_0] }, { h := 1, X := Xs_Unused_1, Ss := [Ss_Unused_1] }]
noncomputable def Fi_Unused (x0 : Int) (x1 : List AVal) (x2 : List AVal) (x3 : List AVal) : Option (List AVal × Int) := FnV ctx 31 sgi_Unused (x0, x1, x2, x3)
def Xi_Unused_0 : List Ex := [{ out := .exit 0, st := { env := [(1, .ptr 1 [] none), (4, .ref 4 [])], objs := [(1, true, .agg [.int .i64, .ro false 3, .ro false 2, .ro false 2]), (4, false, .mp (.int .i64))] } }]
def Si_Unused_0 : SP := { env := [(1, .ptr 1 [] none), (4, .ref 4 []), (16, .int .i64), (17, .int .i64)], objs := [(1, true, .agg [.int .i64, .ro false 3, .ro false 2, .ro false 2]), (4, false, .mp (.int .i64))] }
noncomputable def Li_Unused_0 (x0 : Int) (x1 : Int) (x2 : Int) (x3 : List AVal) (x4 : List AVal) (x5 : List AVal) (x6 : List AVal) : Option (Int × List AVal × List AVal × List AVal × List AVal) := LpV ctx fn31 0 0 Xi_Unused_0 Si_Unused_0 (x0, x1, x2, x3, x4, x5, x6)
def Xi_Unused_1 : List Ex := [{ out := .exit 2, st := { env := [(1, .ptr 1 [] none), (4, .ref 4 []), (16, .int .i64), (17, .int .i64)], objs := [(1, true, .agg [.int .i64, .ro false 3, .ro false 2, .ro false 2]), (4, false, .mp (.int .i64))] } }]
def Si_Unused_1 : SP := { env := [(1, .ptr 1 [] none), (4, .ref 4 []), (16, .int .i64), (17, .int .i64), (22, .ref 22 []), (23, .int .i64), (24, .int .i64)], objs := [(1, true, .agg [.int .i64, .ro false 3, .ro false 2, .ro false 2]), (4, false, .mp (.int .i64)), (22, false, .own 1)] }
noncomputable def Li_Unused_1 (x0 : Int) (x1 : Int) (x2 : Int) (x3 : Int) (x4 : Int) (x5 : List AVal) (x6 : List AVal) (x7 : List AVal) (x8 : List AVal) (x9 : List AVal) : Option (Int × Int × Int × List AVal × List AVal × List AVal × List AVal) := LpV ctx fn31 0 1 Xi_Unused_1 Si_Unused_1 (x0, x1, x2, x3, x4, x5, x6, x7, x8, x9)
def Xi_Unused_2 : List Ex := [{ out := .exit 4, st := { env := [(8, .ref 8 [])], objs := [(8, false, .own 1)] } }]
def Si_Unused_2 : SP := { env := [(4, .ref 4 []), (8, .ref 8 []), (34, .int .i64), (35, .int .i64)], objs := [(4, false, .mp (.int .i64)), (8, false, .own 1)] }
noncomputable def Li_Unused_2 (x0 : Int) (x1 : Int) (x2 : List AVal) (x3 : List AVal) : Option (List AVal) := LpV ctx fn31 0 2 Xi_Unused_2 Si_Unused_2 (x0, x1, x2, x3)
def lsi_Unused : List LSig := [{ h := 0, X := Xi_Unused_0, Ss := [Si_Unused_0] }, { h := 1, X := Xi_Unused_1, Ss := [Si_Unused_1] }, { h := 2, X := Xi_Unused_2, Ss := [Si_Unused_2] }]
noncomputable def Fl_eqSg (x0 : Int) (x1 : List AVal) (x2 : List AVal) (x3 : List AVal) (x4 : Int) (x5 : List AVal) (x6 : List AVal) (x7 : List AVal) : Option (Bool) := FnV ctx 26 sgl_eqSg (x0, x1, x2, x3, x4, x5, x6, x7)
def lsl_eqSg : List LSig := []
noncomputable def Fl_markSg (x0 : Int) (x1 : Int) (x2 : List AVal) (x3 : List AVal) (x4 : List AVal) : Option (Int × List AVal × List AVal × List AVal) := FnV ctx 27 sgl_markSg (x0, x1, x2, x3, x4)
def lsl_markSg : List LSig := []
noncomputable def Fl_markIntS (x0 : Int) (x1 : List AVal) : Option (Int × List AVal) := FnV ctx 28 sgl_markIntS (x0, x1)
def Xl_markIntS_0 : List Ex := [{ out := .exit 0, st := { env := [(1, .int .i64)], objs := [(2000000, false, .own 1)] } }]
def Sl_markIntS_0 : SP := { env := [(0, .ref 2000000 []), (1, .int .i64), (5, .int .i64)], objs := [(2000000, false, .own 1)] }
noncomputable def Ll_markIntS_0 (x0 : Int) (x1 : Int) (x2 : List AVal) : Option (Int × List AVal) := LpV ctx fn28 1 0 Xl_markIntS_0 Sl_markIntS_0 (x0, x1, x2)
def lsl_markIntS : List LSig := [{ h := 0, X := Xl_markIntS_0, Ss := [Sl_markIntS_0] }]
noncomputable def Fl_heldIntS (x0 : List AVal) (x1 : Int) : Option (Int) := FnV ctx 29 sgl_heldIntS (x0, x1)
def Xl_heldIntS_0 : List Ex := [{ out := .ret, st := { env := [(4, .int .i64)] } }, { out := .exit 0, st := { env := [(1, .int .i64)] } }]
def Sl_heldIntS_0 : SP := { env := [(0, .ro false 1), (1, .int .i64), (5, .int .i64)] }
noncomputable def Ll_heldIntS_0 (x0 : List AVal) (x1 : Int) (x2 : Int) : Option ((Int) ⊕ (Int)) := LpV ctx fn29 0 0 Xl_heldIntS_0 Sl_heldIntS_0 (x0, x1, x2)
def lsl_heldIntS : List LSig := [{ h := 0, X := Xl_heldIntS_0, Ss := [Sl_heldIntS_0] }]
noncomputable def Fl_szSEdgeS (x0 : List AVal) (x1 : Int) : Option (Int) := FnV ctx 87 sgl_szSEdgeS (x0, x1)
def lsl_szSEdgeS : List LSig := []
noncomputable def Fl_szSpotS (x0 : List AVal) (x1 : Int) : Option (Int) := FnV ctx 88 sgl_szSpotS (x0, x1)
def Xl_szSpotS_0 : List Ex := [{ out := .ret, st := { env := [(4, .int .i64)] } }, { out := .exit 0, st := { env := [(1, .int .i64)] } }]
def Sl_szSpotS_0 : SP := { env := [(0, .ro false 2), (1, .int .i64), (5, .int .i64)] }
noncomputable def Ll_szSpotS_0 (x0 : List AVal) (x1 : Int) (x2 : Int) : Option ((Int) ⊕ (Int)) := LpV ctx fn88 0 0 Xl_szSpotS_0 Sl_szSpotS_0 (x0, x1, x2)
def lsl_szSpotS : List LSig := [{ h := 0, X := Xl_szSpotS_0, Ss := [Sl_szSpotS_0] }]
noncomputable def Fl_toSEdgeS (x0 : List AVal) : Option (List AVal) := FnV ctx 91 sgl_toSEdgeS x0
def Xl_toSEdgeS_0 : List Ex := [{ out := .exit 0, st := { env := [(3, .ref 3 [])], objs := [(3, false, .own 3)] } }]
def Sl_toSEdgeS_0 : SP := { env := [(0, .ro false 3), (3, .ref 3 []), (4, .int .i64)], objs := [(3, false, .own 3)] }
noncomputable def Ll_toSEdgeS_0 (x0 : List AVal) (x1 : Int) (x2 : List AVal) : Option (List AVal) := LpV ctx fn91 0 0 Xl_toSEdgeS_0 Sl_toSEdgeS_0 (x0, x1, x2)
def lsl_toSEdgeS : List LSig := [{ h := 0, X := Xl_toSEdgeS_0, Ss := [Sl_toSEdgeS_0] }]
noncomputable def Fl_toSpotS (x0 : List AVal) : Option (List AVal) := FnV ctx 92 sgl_toSpotS x0
def Xl_toSpotS_0 : List Ex := [{ out := .exit 0, st := { env := [(3, .ref 3 [])], objs := [(3, false, .own 2)] } }]
def Sl_toSpotS_0 : SP := { env := [(0, .ro false 2), (3, .ref 3 []), (4, .int .i64)], objs := [(3, false, .own 2)] }
noncomputable def Ll_toSpotS_0 (x0 : List AVal) (x1 : Int) (x2 : List AVal) : Option (List AVal) := LpV ctx fn92 0 0 Xl_toSpotS_0 Sl_toSpotS_0 (x0, x1, x2)
def lsl_toSpotS : List LSig := [{ h := 0, X := Xl_toSpotS_0, Ss := [Sl_toSpotS_0] }]
noncomputable def Fs_SgOK (x0 : Int) (x1 : List AVal) (x2 : List AVal) (x3 : List AVal) : Option (Bool) := FnV ctx 89 sgs_SgOK (x0, x1, x2, x3)
def Xs_SgOK_0 : List Ex := [{ out := .ret, st := { env := [(2, .bool)] } }, { out := .exit 0, st := { env := [] } }]
def Ss_SgOK_0 : SP := { env := [(1, .ptr 1 [] none), (3, .int .i64)], objs := [(1, true, .agg [.int .i64, .ro false 3, .ro false 2, .ro false 2])] }
noncomputable def Ls_SgOK_0 (x0 : Int) (x1 : Int) (x2 : List AVal) (x3 : List AVal) (x4 : List AVal) : Option ((Bool) ⊕ (Unit)) := LpV ctx fn89 0 0 Xs_SgOK_0 Ss_SgOK_0 (x0, x1, x2, x3, x4)
def lss_SgOK : List LSig := [{ h := 0, X := Xs_SgOK_0, Ss := [Ss_SgOK_0] }]
noncomputable def Fs_l12Resolve (x0 : Int) (x1 : List AVal) (x2 : List AVal) (x3 : List AVal) (x4 : Int) (x5 : ByteArray) : Option (List AVal) := FnV ctx 90 sgs_l12Resolve (x0, x1, x2, x3, x4, x5)
def Xs_l12Resolve_0 : List Ex := [{ out := .ret, st := { env := [(4, .ro false 1)] } }, { out := .exit 0, st := { env := [] } }]
def Ss_l12Resolve_0 : SP := { env := [(2, .ptr 2 [] none), (3, .ptr 3 [] none), (5, .ref 5 []), (6, .int .i64)], objs := [(2, true, .agg [.int .i64, .ro false 3, .ro false 2, .ro false 2]), (3, true, .agg [.int .i64, .str]), (5, false, .own 1)] }
noncomputable def Ls_l12Resolve_0 (x0 : Int) (x1 : Int) (x2 : List AVal) (x3 : List AVal) (x4 : List AVal) (x5 : Int) (x6 : ByteArray) (x7 : List AVal) : Option ((List AVal) ⊕ (Unit)) := LpV ctx fn90 0 0 Xs_l12Resolve_0 Ss_l12Resolve_0 (x0, x1, x2, x3, x4, x5, x6, x7)
def Ss_l12Resolve_0s1 : SP := { env := [(2, .ptr 2 [] none), (3, .ptr 3 [] none), (5, .ro false 1), (6, .int .i64)], objs := [(2, true, .agg [.int .i64, .ro false 3, .ro false 2, .ro false 2]), (3, true, .agg [.int .i64, .str])] }
noncomputable def Ls_l12Resolve_0s1 (x0 : List AVal) (x1 : Int) (x2 : Int) (x3 : List AVal) (x4 : List AVal) (x5 : List AVal) (x6 : Int) (x7 : ByteArray) : Option ((List AVal) ⊕ (Unit)) := LpV ctx fn90 0 0 Xs_l12Resolve_0 Ss_l12Resolve_0s1 (x0, x1, x2, x3, x4, x5, x6, x7)
def lss_l12Resolve : List LSig := [{ h := 0, X := Xs_l12Resolve_0, Ss := [Ss_l12Resolve_0, Ss_l12Resolve_0s1] }]
noncomputable def Fs_l12Has (x0 : List AVal) (x1 : Int) : Option (Bool) := FnV ctx 99 sgs_l12Has (x0, x1)
def Xs_l12Has_0 : List Ex := [{ out := .ret, st := { env := [(4, .bool)] } }, { out := .exit 0, st := { env := [] } }]
def Ss_l12Has_0 : SP := { env := [(0, .ro false 1), (1, .int .i64), (5, .int .i64)] }
noncomputable def Ls_l12Has_0 (x0 : List AVal) (x1 : Int) (x2 : Int) : Option ((Bool) ⊕ (Unit)) := LpV ctx fn99 0 0 Xs_l12Has_0 Ss_l12Has_0 (x0, x1, x2)
def lss_l12Has : List LSig := [{ h := 0, X := Xs_l12Has_0, Ss := [Ss_l12Has_0] }]
noncomputable def Fi_SgOK (x0 : Int) (x1 : List AVal) (x2 : List AVal) (x3 : List AVal) : Option (Bool) := FnV ctx 93 sgi_SgOK (x0, x1, x2, x3)
def Xi_SgOK_0 : List Ex := [{ out := .ret, st := { env := [(2, .bool)] } }, { out := .exit 0, st := { env := [(1, .ptr 1 [] none), (3, .clo 174 [.ptr 1 [] none])], objs := [(1, true, .agg [.int .i64, .ro false 3, .ro false 2, .ro false 2])] } }]
def Si_SgOK_0 : SP := { env := [(1, .ptr 1 [] none), (3, .clo 174 [.ptr 1 [] none]), (38, .ro false 3), (39, .int .i64), (40, .int .i64)], objs := [(1, true, .agg [.int .i64, .ro false 3, .ro false 2, .ro false 2])] }
noncomputable def Li_SgOK_0 (x0 : List AVal) (x1 : Int) (x2 : Int) (x3 : Int) (x4 : List AVal) (x5 : List AVal) (x6 : List AVal) : Option ((Bool) ⊕ (Int × List AVal × List AVal × List AVal)) := LpV ctx fn93 0 0 Xi_SgOK_0 Si_SgOK_0 (x0, x1, x2, x3, x4, x5, x6)
def Xi_SgOK_1 : List Ex := [{ out := .ret, st := { env := [(2, .bool)] } }, { out := .exit 2, st := { env := [] } }]
def Si_SgOK_1 : SP := { env := [(3, .clo 174 [.ptr 1 [] none]), (71, .ref 71 []), (72, .int .i64), (73, .int .i64)], objs := [(1, true, .agg [.int .i64, .ro false 3, .ro false 2, .ro false 2]), (71, false, .own 1)] }
noncomputable def Li_SgOK_1 (x0 : Int) (x1 : Int) (x2 : Int) (x3 : List AVal) (x4 : List AVal) (x5 : List AVal) (x6 : List AVal) : Option ((Bool) ⊕ (Unit)) := LpV ctx fn93 0 1 Xi_SgOK_1 Si_SgOK_1 (x0, x1, x2, x3, x4, x5, x6)
def Xi_SgOK_2 : List Ex := [{ out := .ret, st := { env := [(2, .bool)] } }, { out := .exit 4, st := { env := [(3, .clo 174 [.ptr 1 [] none]), (71, .ref 71 []), (72, .int .i64), (73, .int .i64)], objs := [(1, true, .agg [.int .i64, .ro false 3, .ro false 2, .ro false 2]), (71, false, .own 1)] } }]
def Si_SgOK_2 : SP := { env := [(3, .clo 174 [.ptr 1 [] none]), (71, .ref 71 []), (72, .int .i64), (73, .int .i64), (77, .ref 71 [none]), (78, .int .i64), (79, .int .i64)], objs := [(1, true, .agg [.int .i64, .ro false 3, .ro false 2, .ro false 2]), (71, false, .own 1)] }
noncomputable def Li_SgOK_2 (x0 : Int) (x1 : Int) (x2 : Int) (x3 : Int) (x4 : Int) (x5 : Int) (x6 : List AVal) (x7 : List AVal) (x8 : List AVal) (x9 : List AVal) : Option ((Bool) ⊕ (Int × Int × Int × List AVal × List AVal × List AVal × List AVal)) := LpV ctx fn93 0 2 Xi_SgOK_2 Si_SgOK_2 (x0, x1, x2, x3, x4, x5, x6, x7, x8, x9)
def lsi_SgOK : List LSig := [{ h := 0, X := Xi_SgOK_0, Ss := [Si_SgOK_0] }, { h := 1, X := Xi_SgOK_1, Ss := [Si_SgOK_1] }, { h := 2, X := Xi_SgOK_2, Ss := [Si_SgOK_2] }]
noncomputable def Fi_Sg_resolve (x0 : Int) (x1 : List AVal) (x2 : List AVal) (x3 : List AVal) (x4 : Int) : Option (List AVal) := FnV ctx 94 sgi_Sg_resolve (x0, x1, x2, x3, x4)
def Xi_Sg_resolve_0 : List Ex := [{ out := .exit 0, st := { env := [(8, .ref 8 [])], objs := [(8, false, .own 1)] } }]
def Si_Sg_resolve_0 : SP := { env := [(5, .ptr 5 [] none), (6, .ro false 1), (7, .int .i64), (8, .ref 8 []), (22, .ro false 2), (23, .int .i64), (24, .int .i64)], objs := [(5, true, .agg [.int .i64, .str]), (8, false, .own 1)] }
noncomputable def Li_Sg_resolve_0 (x0 : List AVal) (x1 : Int) (x2 : List AVal) (x3 : Int) (x4 : Int) (x5 : Int) (x6 : ByteArray) (x7 : List AVal) : Option (List AVal) := LpV ctx fn94 0 0 Xi_Sg_resolve_0 Si_Sg_resolve_0 (x0, x1, x2, x3, x4, x5, x6, x7)
def lsi_Sg_resolve : List LSig := [{ h := 0, X := Xi_Sg_resolve_0, Ss := [Si_Sg_resolve_0] }]
noncomputable def Fl_eqSEdgeS (x0 : List AVal) (x1 : List AVal) : Option (Bool) := FnV ctx 95 sgl_eqSEdgeS (x0, x1)
def Xl_eqSEdgeS_0 : List Ex := [{ out := .ret, st := { env := [(4, .bool)] } }, { out := .exit 0, st := { env := [] } }]
def Sl_eqSEdgeS_0 : SP := { env := [(0, .ro false 3), (1, .ro false 3), (5, .int .i64)] }
noncomputable def Ll_eqSEdgeS_0 (x0 : List AVal) (x1 : List AVal) (x2 : Int) : Option ((Bool) ⊕ (Unit)) := LpV ctx fn95 0 0 Xl_eqSEdgeS_0 Sl_eqSEdgeS_0 (x0, x1, x2)
def lsl_eqSEdgeS : List LSig := [{ h := 0, X := Xl_eqSEdgeS_0, Ss := [Sl_eqSEdgeS_0] }]
noncomputable def Fl_eqSpotS (x0 : List AVal) (x1 : List AVal) : Option (Bool) := FnV ctx 96 sgl_eqSpotS (x0, x1)
def Xl_eqSpotS_0 : List Ex := [{ out := .ret, st := { env := [(4, .bool)] } }, { out := .exit 0, st := { env := [] } }]
def Sl_eqSpotS_0 : SP := { env := [(0, .ro false 2), (1, .ro false 2), (5, .int .i64)] }
noncomputable def Ll_eqSpotS_0 (x0 : List AVal) (x1 : List AVal) (x2 : Int) : Option ((Bool) ⊕ (Unit)) := LpV ctx fn96 0 0 Xl_eqSpotS_0 Sl_eqSpotS_0 (x0, x1, x2)
def lsl_eqSpotS : List LSig := [{ h := 0, X := Xl_eqSpotS_0, Ss := [Sl_eqSpotS_0] }]
noncomputable def Fl_markSEdgeS (x0 : Int) (x1 : List AVal) : Option (Int × List AVal) := FnV ctx 97 sgl_markSEdgeS (x0, x1)
def Xl_markSEdgeS_0 : List Ex := [{ out := .exit 0, st := { env := [(1, .int .i64)], objs := [(2000000, false, .own 3)] } }]
def Sl_markSEdgeS_0 : SP := { env := [(0, .ref 2000000 []), (1, .int .i64), (5, .int .i64)], objs := [(2000000, false, .own 3)] }
noncomputable def Ll_markSEdgeS_0 (x0 : Int) (x1 : Int) (x2 : List AVal) : Option (Int × List AVal) := LpV ctx fn97 1 0 Xl_markSEdgeS_0 Sl_markSEdgeS_0 (x0, x1, x2)
def lsl_markSEdgeS : List LSig := [{ h := 0, X := Xl_markSEdgeS_0, Ss := [Sl_markSEdgeS_0] }]
noncomputable def Fl_markSpotS (x0 : Int) (x1 : List AVal) : Option (Int × List AVal) := FnV ctx 98 sgl_markSpotS (x0, x1)
def Xl_markSpotS_0 : List Ex := [{ out := .exit 0, st := { env := [(1, .int .i64)], objs := [(2000000, false, .own 2)] } }]
def Sl_markSpotS_0 : SP := { env := [(0, .ref 2000000 []), (1, .int .i64), (5, .int .i64)], objs := [(2000000, false, .own 2)] }
noncomputable def Ll_markSpotS_0 (x0 : Int) (x1 : Int) (x2 : List AVal) : Option (Int × List AVal) := LpV ctx fn98 1 0 Xl_markSpotS_0 Sl_markSpotS_0 (x0, x1, x2)
def lsl_markSpotS : List LSig := [{ h := 0, X := Xl_markSpotS_0, Ss := [Sl_markSpotS_0] }]
noncomputable def Fl_szSpot (x0 : Int) (x1 : ByteArray) (x2 : Int) : Option (Int) := FnV ctx 168 sgl_szSpot (x0, x1, x2)
def lsl_szSpot : List LSig := []
noncomputable def Fl_toSEdge (x0 : Int) (x1 : Int) (x2 : Int) : Option (Int × Int × Int) := FnV ctx 172 sgl_toSEdge (x0, x1, x2)
def lsl_toSEdge : List LSig := []
noncomputable def Fl_toSpot (x0 : Int) (x1 : ByteArray) : Option (Int × ByteArray) := FnV ctx 173 sgl_toSpot (x0, x1)
def lsl_toSpot : List LSig := []
noncomputable def Fs_l12Spots (x0 : List AVal) (x1 : Int) : Option (Bool) := FnV ctx 169 sgs_l12Spots (x0, x1)
def Xs_l12Spots_0 : List Ex := [{ out := .ret, st := { env := [(4, .bool)] } }, { out := .exit 0, st := { env := [] } }]
def Ss_l12Spots_0 : SP := { env := [(0, .ro false 2), (1, .int .i64), (5, .int .i64)] }
noncomputable def Ls_l12Spots_0 (x0 : List AVal) (x1 : Int) (x2 : Int) : Option ((Bool) ⊕ (Unit)) := LpV ctx fn169 0 0 Xs_l12Spots_0 Ss_l12Spots_0 (x0, x1, x2)
def lss_l12Spots : List LSig := [{ h := 0, X := Xs_l12Spots_0, Ss := [Ss_l12Spots_0] }]
noncomputable def Fs_l12In (x0 : Int) (x1 : List AVal) (x2 : List AVal) (x3 : List AVal) (x4 : List AVal) (x5 : ByteArray) : Option (List AVal) := FnV ctx 170 sgs_l12In (x0, x1, x2, x3, x4, x5)
def Xs_l12In_0 : List Ex := [{ out := .exit 0, st := { env := [(7, .ref 7 [])], objs := [(7, false, .own 1)] } }]
def Ss_l12In_0 : SP := { env := [(1, .ro false 1), (2, .str), (3, .ptr 3 [] none), (7, .ref 7 []), (8, .int .i64)], objs := [(3, true, .agg [.int .i64, .ro false 3, .ro false 2, .ro false 2]), (7, false, .own 1)] }
noncomputable def Ls_l12In_0 (x0 : List AVal) (x1 : ByteArray) (x2 : Int) (x3 : Int) (x4 : List AVal) (x5 : List AVal) (x6 : List AVal) (x7 : List AVal) : Option (List AVal) := LpV ctx fn170 0 0 Xs_l12In_0 Ss_l12In_0 (x0, x1, x2, x3, x4, x5, x6, x7)
def lss_l12In : List LSig := [{ h := 0, X := Xs_l12In_0, Ss := [Ss_l12In_0] }]
noncomputable def Fs_l12Behind (x0 : Int) (x1 : List AVal) (x2 : List AVal) (x3 : List AVal) (x4 : List AVal) (x5 : Int) : Option (List AVal) := FnV ctx 171 sgs_l12Behind (x0, x1, x2, x3, x4, x5)
def Xs_l12Behind_0 : List Ex := [{ out := .exit 0, st := { env := [(7, .ref 7 [])], objs := [(7, false, .own 1)] } }]
def Ss_l12Behind_0 : SP := { env := [(1, .ro false 1), (2, .int .i64), (3, .ptr 3 [] none), (7, .ref 7 []), (8, .int .i64)], objs := [(3, true, .agg [.int .i64, .ro false 3, .ro false 2, .ro false 2]), (7, false, .own 1)] }
noncomputable def Ls_l12Behind_0 (x0 : List AVal) (x1 : Int) (x2 : Int) (x3 : Int) (x4 : List AVal) (x5 : List AVal) (x6 : List AVal) (x7 : List AVal) : Option (List AVal) := LpV ctx fn171 0 0 Xs_l12Behind_0 Ss_l12Behind_0 (x0, x1, x2, x3, x4, x5, x6, x7)
def lss_l12Behind : List LSig := [{ h := 0, X := Xs_l12Behind_0, Ss := [Ss_l12Behind_0] }]
noncomputable def Fi_SgOK_1 (x0 : Int) (x1 : Int) (x2 : List AVal) (x3 : List AVal) (x4 : List AVal) : Option (Bool × Int × List AVal × List AVal × List AVal) := FnV ctx 174 sgi_SgOK_1 (x0, x1, x2, x3, x4)
def lsi_SgOK_1 : List LSig := []
noncomputable def Fi_Sg_steps (x0 : Int) (x1 : List AVal) (x2 : List AVal) (x3 : List AVal) (x4 : Int) : Option (List AVal) := FnV ctx 175 sgi_Sg_steps (x0, x1, x2, x3, x4)
def Xi_Sg_steps_0 : List Ex := [{ out := .exit 0, st := { env := [(1, .int .i64), (2, .ptr 2 [] none), (5, .ptr 5 [] none), (6, .ref 6 [])], objs := [(2, true, .agg [.int .i64, .ro false 3, .ro false 2, .ro false 2]), (5, true, .own 1), (6, false, .own 1)] } }]
def Si_Sg_steps_0 : SP := { env := [(1, .int .i64), (2, .ptr 2 [] none), (5, .ptr 5 [] none), (6, .ref 6 []), (21, .int .i64), (22, .int .i64)], objs := [(2, true, .agg [.int .i64, .ro false 3, .ro false 2, .ro false 2]), (5, true, .own 1), (6, false, .own 1)] }
noncomputable def Li_Sg_steps_0 (x0 : Int) (x1 : Int) (x2 : Int) (x3 : Int) (x4 : List AVal) (x5 : List AVal) (x6 : List AVal) (x7 : List AVal) (x8 : List AVal) : Option (Int × Int × List AVal × List AVal × List AVal × List AVal × List AVal) := LpV ctx fn175 0 0 Xi_Sg_steps_0 Si_Sg_steps_0 (x0, x1, x2, x3, x4, x5, x6, x7, x8)
def Xi_Sg_steps_1 : List Ex := [{ out := .exit 2, st := { env := [(5, .ptr 5 [] none)], objs := [(5, true, .own 1)] } }]
def Si_Sg_steps_1 : SP := { env := [(2, .ptr 2 [] none), (5, .ptr 5 [] none), (6, .ref 6 []), (8, .clo 221 [.ptr 5 [] none]), (9, .ref 9 []), (10, .int .i64)], objs := [(2, true, .agg [.int .i64, .ro false 3, .ro false 2, .ro false 2]), (5, true, .own 1), (6, false, .own 1), (9, false, .own 1)] }
noncomputable def Li_Sg_steps_1 (x0 : Int) (x1 : Int) (x2 : List AVal) (x3 : List AVal) (x4 : List AVal) (x5 : List AVal) (x6 : List AVal) (x7 : List AVal) : Option (List AVal) := LpV ctx fn175 0 1 Xi_Sg_steps_1 Si_Sg_steps_1 (x0, x1, x2, x3, x4, x5, x6, x7)
def Xi_Sg_steps_2 : List Ex := [{ out := .exit 4, st := { env := [(2, .ptr 2 [] none), (5, .ptr 5 [] none), (6, .ref 6 []), (8, .clo 221 [.ptr 5 [] none]), (9, .ref 9 []), (10, .int .i64)], objs := [(2, true, .agg [.int .i64, .ro false 3, .ro false 2, .ro false 2]), (5, true, .own 1), (6, false, .own 1), (9, false, .own 1)] } }]
def Si_Sg_steps_2 : SP := { env := [(2, .ptr 2 [] none), (5, .ptr 5 [] none), (6, .ref 6 []), (8, .clo 221 [.ptr 5 [] none]), (9, .ref 9 []), (10, .int .i64), (11, .int .i64), (56, .ro false 3), (57, .int .i64), (58, .int .i64)], objs := [(2, true, .agg [.int .i64, .ro false 3, .ro false 2, .ro false 2]), (5, true, .own 1), (6, false, .own 1), (9, false, .own 1)] }
noncomputable def Li_Sg_steps_2 (x0 : Int) (x1 : Int) (x2 : List AVal) (x3 : Int) (x4 : Int) (x5 : Int) (x6 : List AVal) (x7 : List AVal) (x8 : List AVal) (x9 : List AVal) (x10 : List AVal) (x11 : List AVal) : Option (Int × Int × List AVal × List AVal × List AVal × List AVal × List AVal × List AVal) := LpV ctx fn175 0 2 Xi_Sg_steps_2 Si_Sg_steps_2 (x0, x1, x2, x3, x4, x5, x6, x7, x8, x9, x10, x11)
def lsi_Sg_steps : List LSig := [{ h := 0, X := Xi_Sg_steps_0, Ss := [Si_Sg_steps_0] }, { h := 1, X := Xi_Sg_steps_1, Ss := [Si_Sg_steps_1] }, { h := 2, X := Xi_Sg_steps_2, Ss := [Si_Sg_steps_2] }]
noncomputable def Fl_eqSEdge (x0 : Int) (x1 : Int) (x2 : Int) (x3 : Int) (x4 : Int) (x5 : Int) : Option (Bool) := FnV ctx 176 sgl_eqSEdge (x0, x1, x2, x3, x4, x5)
def lsl_eqSEdge : List LSig := []
noncomputable def Fl_eqSpot (x0 : Int) (x1 : ByteArray) (x2 : Int) (x3 : ByteArray) : Option (Bool) := FnV ctx 177 sgl_eqSpot (x0, x1, x2, x3)
def lsl_eqSpot : List LSig := []
noncomputable def Fl_markText (x0 : Int) : Option (ByteArray) := FnV ctx 117 sgl_markText x0
def Xl_markText_0 : List Ex := [{ out := .exit 0, st := { env := [(3, .str)] } }]
def Sl_markText_0 : SP := { env := [(0, .int .i64), (3, .str)] }
noncomputable def Ll_markText_0 (x0 : Int) (x1 : ByteArray) : Option (ByteArray) := LpV ctx fn117 0 0 Xl_markText_0 Sl_markText_0 (x0, x1)
def lsl_markText : List LSig := [{ h := 0, X := Xl_markText_0, Ss := [Sl_markText_0] }]
noncomputable def Fi_Sg_steps_1 (x0 : Int) (x1 : Int) (x2 : List AVal) : Option (List AVal) := FnV ctx 221 sgi_Sg_steps_1 (x0, x1, x2)
def lsi_Sg_steps_1 : List LSig := []
end Go.Proofs.Ytfniojpjlachoaa
