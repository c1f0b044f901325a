/- What the functions of the laws are given and give back, and their names on values; no condition. -/
import Derived.Test.YtfniojpjlachoaaVmd
import Derived.Test.YtfniojpjlachoaaVC
import Derived.Tactics
namespace Go.Proofs.Ytfniojpjlachoaa
open Go.VK AVal

abbrev ty_int64 : Nat := 2
abbrev ty_int : Nat := 3
abbrev ty_bool : Nat := 4
abbrev ty_uint8 : Nat := 5
abbrev ty_abi_BoundsErrorCode : Nat := 6
abbrev ty_runtime_boundsError : Nat := 8
abbrev ty_string : Nat := 9
abbrev ty_runtime_errorString : Nat := 10
abbrev ty_runtime_plainError : Nat := 11
abbrev ty_uintptr : Nat := 12
abbrev ty_runtime_errorAddressString : Nat := 14
abbrev ty_P_runtime_TypeAssertionError : Nat := 15
abbrev ty_P_runtime_PanicNilError : Nat := 16
abbrev ty_P_abi_Type : Nat := 17
abbrev ty_maps_unhashableTypeError : Nat := 19
abbrev ty_int32 : Nat := 21
abbrev ty_S_laws_Term : Nat := 25
abbrev ty_S_string : Nat := 26
abbrev ty_S_laws_Prod : Nat := 27
abbrev ty_laws_Bnf : Nat := 29
abbrev ty_S_laws_SEdge : Nat := 39
abbrev ty_S_laws_Spot : Nat := 40
abbrev ty_laws_Sg : Nat := 42
abbrev ty_S_int : Nat := 44
abbrev ty_S_laws_Tree : Nat := 59
abbrev ty_laws_Tree : Nat := 61
abbrev ty_S_laws_Bind : Nat := 62
abbrev ty_S_laws_Delta : Nat := 78
abbrev ty_laws_Delta : Nat := 80
abbrev ty_S_laws_RwRule : Nat := 93
abbrev ty_S_S_int : Nat := 100
abbrev ty_S_S_laws_Act : Nat := 109
abbrev ty_laws_Table : Nat := 111
abbrev ty_map_string_int : Nat := 140
abbrev ty_map_int_int : Nat := 158
abbrev ty_laws_Bind : Nat := 162
abbrev ty_laws_RwRule : Nat := 186
abbrev ty_map_2_int_int : Nat := 213
abbrev ty_laws_Term : Nat := 242
abbrev ty_laws_Prod : Nat := 244
abbrev ty_laws_Spot : Nat := 251
abbrev ty_S_bool : Nat := 255
abbrev ty_laws_SEdge : Nat := 259
abbrev ty_P_int : Nat := 267
abbrev ty_S_uint8 : Nat := 269
abbrev ty_S_laws_Act : Nat := 295
abbrev ty_S_S_bool : Nat := 312
abbrev ty_laws_Act : Nat := 315
abbrev ty_runtime_TypeAssertionError : Nat := 329
abbrev ty_uint32 : Nat := 333
abbrev ty_abi_TFlag : Nat := 334
abbrev ty_abi_Kind : Nat := 335
abbrev ty_P_uint8 : Nat := 337
abbrev ty_abi_NameOff : Nat := 338
abbrev ty_abi_TypeOff : Nat := 339
abbrev ty_abi_Type : Nat := 341
abbrev n_l_FnExactRxOK : Nat := 3
abbrev n_l_FnExactBnfOK : Nat := 4
abbrev n_l_FnExactResolve : Nat := 5
abbrev n_l_FnExactUnused : Nat := 6
abbrev n_l_FnExactFill : Nat := 7
abbrev n_l_FnExactPatch : Nat := 8
abbrev n_l_FnExactRename : Nat := 9
abbrev n_l_FnExactPlanOK : Nat := 10
abbrev n_l_FnExactMerge : Nat := 11
abbrev n_l_FnExactDiff : Nat := 12
abbrev n_l_FnExactTableOK : Nat := 13
/-- laws.FnExactPatch -/
def sgl_FnExactPatch : Sig := { i := { vs := [.agg [.str, .str, .bool, .ro false 4], .agg [.int .i64, .str, .str, .bool, .ro false 4, .ro false 6]] }, o := { vs := [.bool] } }
/-- laws.szTree -/
def sgl_szTree : Sig := { i := { vs := [.agg [.str, .str, .bool, .ro false 4], .int .i64] }, o := { vs := [.int .i64] } }
/-- laws.szDelta -/
def sgl_szDelta : Sig := { i := { vs := [.agg [.int .i64, .str, .str, .bool, .ro false 4, .ro false 6], .int .i64] }, o := { vs := [.int .i64] } }
/-- laws.toTree -/
def sgl_toTree : Sig := { i := { vs := [.agg [.str, .str, .bool, .ro false 4]] }, o := { vs := [.agg [.str, .str, .bool, .own 4]] } }
/-- laws.toDelta -/
def sgl_toDelta : Sig := { i := { vs := [.agg [.int .i64, .str, .str, .bool, .ro false 4, .ro false 6]] }, o := { vs := [.agg [.int .i64, .str, .str, .bool, .own 4, .own 6]] } }
/-- spec.Patch -/
def sgs_Patch : Sig := { i := { vs := [.agg [.str, .str, .bool, .ro false 4], .agg [.int .i64, .str, .str, .bool, .ro false 4, .ro false 6]] }, o := { vs := [.agg [.str, .str, .bool, .ro false 4], .int .i64] } }
/-- impl.Patch -/
def sgi_Patch : Sig := { i := { vs := [.agg [.str, .str, .bool, .ro false 4], .agg [.int .i64, .str, .str, .bool, .ro false 4, .ro false 6]] }, o := { vs := [.agg [.str, .str, .bool, .own 4], .int .i64] } }
/-- laws.eqTree -/
def sgl_eqTree : Sig := { i := { vs := [.agg [.str, .str, .bool, .ro false 4], .agg [.str, .str, .bool, .ro false 4]] }, o := { vs := [.bool] } }
/-- laws.eqDelta -/
def sgl_eqDelta : Sig := { i := { vs := [.agg [.int .i64, .str, .str, .bool, .ro false 4, .ro false 6], .agg [.int .i64, .str, .str, .bool, .ro false 4, .ro false 6]] }, o := { vs := [.bool] } }
/-- laws.markTree -/
def sgl_markTree : Sig := { i := { vs := [.agg [.str, .str, .bool, .ref 0 []], .int .i64], os := [(false, .own 4)] }, o := { vs := [.int .i64], os := [(false, .own 4)] } }
/-- laws.markDelta -/
def sgl_markDelta : Sig := { i := { vs := [.agg [.int .i64, .str, .str, .bool, .ref 0 [], .ref 1 []], .int .i64], os := [(false, .own 4), (false, .own 6)] }, o := { vs := [.int .i64], os := [(false, .own 4), (false, .own 6)] } }
/-- laws.heldTree -/
def sgl_heldTree : Sig := { i := { vs := [.agg [.str, .str, .bool, .ro false 4], .int .i64] }, o := { vs := [.int .i64] } }
/-- laws.szTreeS -/
def sgl_szTreeS : Sig := { i := { vs := [.ro false 4, .int .i64] }, o := { vs := [.int .i64] } }
/-- laws.szDeltaS -/
def sgl_szDeltaS : Sig := { i := { vs := [.ro false 6, .int .i64] }, o := { vs := [.int .i64] } }
/-- laws.toTreeS -/
def sgl_toTreeS : Sig := { i := { vs := [.ro false 4] }, o := { vs := [.own 4] } }
/-- laws.toDeltaS -/
def sgl_toDeltaS : Sig := { i := { vs := [.ro false 6] }, o := { vs := [.own 6] } }
/-- spec.TreeOK -/
def sgs_TreeOK : Sig := { i := { vs := [.agg [.str, .str, .bool, .ro false 4]] }, o := { vs := [.bool] } }
/-- spec.l15Patch -/
def sgs_l15Patch : Sig := { i := { vs := [.agg [.str, .str, .bool, .ro false 4], .agg [.int .i64, .str, .str, .bool, .ro false 4, .ro false 6]] }, o := { vs := [.agg [.str, .str, .bool, .ro false 4], .bool] } }
/-- spec.l01Copy -/
def sgs_l01Copy : Sig := { i := { vs := [.agg [.str, .str, .bool, .ro false 4]] }, o := { vs := [.agg [.str, .str, .bool, .ro false 4]] } }
/-- impl.TreeOK -/
def sgi_TreeOK : Sig := { i := { vs := [.agg [.str, .str, .bool, .ro false 4]] }, o := { vs := [.bool] } }
/-- impl.patch -/
def sgi_patch : Sig := { i := { vs := [.agg [.str, .str, .bool, .ro false 4], .agg [.int .i64, .str, .str, .bool, .ro false 4, .ro false 6]] }, o := { vs := [.agg [.str, .str, .bool, .ro false 4], .bool] } }
/-- impl.copyTree -/
def sgi_copyTree : Sig := { i := { vs := [.agg [.str, .str, .bool, .ro false 4]] }, o := { vs := [.agg [.str, .str, .bool, .own 4]] } }
/-- laws.eqTreeS -/
def sgl_eqTreeS : Sig := { i := { vs := [.ro false 4, .ro false 4] }, o := { vs := [.bool] } }
/-- laws.eqDeltaS -/
def sgl_eqDeltaS : Sig := { i := { vs := [.ro false 6, .ro false 6] }, o := { vs := [.bool] } }
/-- laws.markTreeS -/
def sgl_markTreeS : Sig := { i := { vs := [.ref 0 [], .int .i64], os := [(false, .own 4)] }, o := { vs := [.int .i64], os := [(false, .own 4)] } }
/-- laws.markDeltaS -/
def sgl_markDeltaS : Sig := { i := { vs := [.ref 0 [], .int .i64], os := [(false, .own 6)] }, o := { vs := [.int .i64], os := [(false, .own 6)] } }
/-- laws.heldTreeS -/
def sgl_heldTreeS : Sig := { i := { vs := [.ro false 4, .int .i64] }, o := { vs := [.int .i64] } }
/-- spec.l01Room -/
def sgs_l01Room : Sig := { i := { vs := [.agg [.str, .str, .bool, .ro false 4], .int .i64, .int .i64] }, o := { vs := [.int .i64] } }
/-- spec.l01Right -/
def sgs_l01Right : Sig := { i := { vs := [.agg [.str, .str, .bool, .ro false 4]] }, o := { vs := [.bool] } }
/-- spec.l15Zero -/
def sgs_l15Zero : Sig := { i := { vs := [.agg [.str, .str, .bool, .ro false 4]] }, o := { vs := [.bool] } }
/-- impl.measure -/
def sgi_measure : Sig := { i := { vs := [.agg [.str, .str, .bool, .ro false 4], .int .i64, .ptr 0 [] none, .ptr 1 [] none], os := [(true, .int .i64), (true, .int .i64)] }, o := { vs := [.bool], os := [(true, .int .i64), (true, .int .i64)] } }
/-- impl.zeroTree -/
def sgi_zeroTree : Sig := { i := { vs := [.agg [.str, .str, .bool, .ro false 4]] }, o := { vs := [.bool] } }
/-- laws.markText -/
def sgl_markText : Sig := { i := { vs := [.int .i64] }, o := { vs := [.str] } }
/-- spec.l01Name -/
def sgs_l01Name : Sig := { i := { vs := [.str] }, o := { vs := [.bool] } }
/-- impl.nameOK -/
def sgi_nameOK : Sig := { i := { vs := [.str] }, o := { vs := [.bool] } }
/-- spec.l01Letter -/
def sgs_l01Letter : Sig := { i := { vs := [.int .u8] }, o := { vs := [.bool] } }
/-- spec.l01NameByte -/
def sgs_l01NameByte : Sig := { i := { vs := [.int .u8] }, o := { vs := [.bool] } }
/-- impl.isLetter -/
def sgi_isLetter : Sig := { i := { vs := [.int .u8] }, o := { vs := [.bool] } }
/-- impl.inName -/
def sgi_inName : Sig := { i := { vs := [.int .u8] }, o := { vs := [.bool] } }
/-- spec.l01Digit -/
def sgs_l01Digit : Sig := { i := { vs := [.int .u8] }, o := { vs := [.bool] } }
/-- impl.isDigit -/
def sgi_isDigit : Sig := { i := { vs := [.int .u8] }, o := { vs := [.bool] } }
/-- laws.FnExactResolve -/
def sgl_FnExactResolve : Sig := { i := { vs := [.agg [.int .i64, .ro false 3, .ro false 2, .ro false 2], .int .i64] }, o := { vs := [.bool] } }
/-- laws.szSg -/
def sgl_szSg : Sig := { i := { vs := [.agg [.int .i64, .ro false 3, .ro false 2, .ro false 2], .int .i64] }, o := { vs := [.int .i64] } }
/-- laws.toSg -/
def sgl_toSg : Sig := { i := { vs := [.agg [.int .i64, .ro false 3, .ro false 2, .ro false 2]] }, o := { vs := [.agg [.int .i64, .own 3, .own 2, .own 2]] } }
/-- spec.Resolve -/
def sgs_Resolve : Sig := { i := { vs := [.agg [.int .i64, .ro false 3, .ro false 2, .ro false 2], .int .i64] }, o := { vs := [.ro false 1, .int .i64] } }
/-- impl.Resolve -/
def sgi_Resolve : Sig := { i := { vs := [.agg [.int .i64, .ro false 3, .ro false 2, .ro false 2], .int .i64] }, o := { vs := [.own 1, .int .i64] } }
/-- laws.eqIntS -/
def sgl_eqIntS : Sig := { i := { vs := [.ro false 1, .ro false 1] }, o := { vs := [.bool] } }
/-- laws.eqSg -/
def sgl_eqSg : Sig := { i := { vs := [.agg [.int .i64, .ro false 3, .ro false 2, .ro false 2], .agg [.int .i64, .ro false 3, .ro false 2, .ro false 2]] }, o := { vs := [.bool] } }
/-- laws.markSg -/
def sgl_markSg : Sig := { i := { vs := [.agg [.int .i64, .ref 0 [], .ref 1 [], .ref 2 []], .int .i64], os := [(false, .own 3), (false, .own 2), (false, .own 2)] }, o := { vs := [.int .i64], os := [(false, .own 3), (false, .own 2), (false, .own 2)] } }
/-- laws.markIntS -/
def sgl_markIntS : Sig := { i := { vs := [.ref 0 [], .int .i64], os := [(false, .own 1)] }, o := { vs := [.int .i64], os := [(false, .own 1)] } }
/-- laws.heldIntS -/
def sgl_heldIntS : Sig := { i := { vs := [.ro false 1, .int .i64] }, o := { vs := [.int .i64] } }
/-- laws.szSEdgeS -/
def sgl_szSEdgeS : Sig := { i := { vs := [.ro false 3, .int .i64] }, o := { vs := [.int .i64] } }
/-- laws.szSpotS -/
def sgl_szSpotS : Sig := { i := { vs := [.ro false 2, .int .i64] }, o := { vs := [.int .i64] } }
/-- laws.toSEdgeS -/
def sgl_toSEdgeS : Sig := { i := { vs := [.ro false 3] }, o := { vs := [.own 3] } }
/-- laws.toSpotS -/
def sgl_toSpotS : Sig := { i := { vs := [.ro false 2] }, o := { vs := [.own 2] } }
/-- spec.SgOK -/
def sgs_SgOK : Sig := { i := { vs := [.agg [.int .i64, .ro false 3, .ro false 2, .ro false 2]] }, o := { vs := [.bool] } }
/-- spec.l01Between -/
def sgs_l01Between : Sig := { i := { vs := [.int .i64, .int .i64, .int .i64] }, o := { vs := [.bool] } }
/-- spec.l12Resolve -/
def sgs_l12Resolve : Sig := { i := { vs := [.agg [.int .i64, .ro false 3, .ro false 2, .ro false 2], .agg [.int .i64, .str]] }, o := { vs := [.ro false 1] } }
/-- impl.SgOK -/
def sgi_SgOK : Sig := { i := { vs := [.agg [.int .i64, .ro false 3, .ro false 2, .ro false 2]] }, o := { vs := [.bool] } }
/-- impl.Sg).resolve -/
def sgi_Sg_resolve : Sig := { i := { vs := [.agg [.int .i64, .ro false 3, .ro false 2, .ro false 2], .int .i64] }, o := { vs := [.own 1] } }
/-- laws.eqSEdgeS -/
def sgl_eqSEdgeS : Sig := { i := { vs := [.ro false 3, .ro false 3] }, o := { vs := [.bool] } }
/-- laws.eqSpotS -/
def sgl_eqSpotS : Sig := { i := { vs := [.ro false 2, .ro false 2] }, o := { vs := [.bool] } }
/-- laws.markSEdgeS -/
def sgl_markSEdgeS : Sig := { i := { vs := [.ref 0 [], .int .i64], os := [(false, .own 3)] }, o := { vs := [.int .i64], os := [(false, .own 3)] } }
/-- laws.markSpotS -/
def sgl_markSpotS : Sig := { i := { vs := [.ref 0 [], .int .i64], os := [(false, .own 2)] }, o := { vs := [.int .i64], os := [(false, .own 2)] } }
/-- laws.szSpot -/
def sgl_szSpot : Sig := { i := { vs := [.agg [.int .i64, .str], .int .i64] }, o := { vs := [.int .i64] } }
/-- laws.toSEdge -/
def sgl_toSEdge : Sig := { i := { vs := [.agg [.int .i64, .int .i64, .int .i64]] }, o := { vs := [.agg [.int .i64, .int .i64, .int .i64]] } }
/-- laws.toSpot -/
def sgl_toSpot : Sig := { i := { vs := [.agg [.int .i64, .str]] }, o := { vs := [.agg [.int .i64, .str]] } }
/-- spec.l12Spots -/
def sgs_l12Spots : Sig := { i := { vs := [.ro false 2, .int .i64] }, o := { vs := [.bool] } }
/-- spec.l12In -/
def sgs_l12In : Sig := { i := { vs := [.agg [.int .i64, .ro false 3, .ro false 2, .ro false 2], .ro false 1, .str] }, o := { vs := [.ro false 1] } }
/-- spec.l12Behind -/
def sgs_l12Behind : Sig := { i := { vs := [.agg [.int .i64, .ro false 3, .ro false 2, .ro false 2], .ro false 1, .int .i64] }, o := { vs := [.ro false 1] } }
/-- impl.SgOK$1 -/
def sgi_SgOK_1 : Sig := { i := { vs := [.int .i64, .ptr 0 [] none], os := [(true, .agg [.int .i64, .ro false 3, .ro false 2, .ro false 2])] }, o := { vs := [.bool], os := [(true, .agg [.int .i64, .ro false 3, .ro false 2, .ro false 2])] } }
/-- impl.Sg).steps -/
def sgi_Sg_steps : Sig := { i := { vs := [.agg [.int .i64, .ro false 3, .ro false 2, .ro false 2], .int .i64] }, o := { vs := [.ro false 1] } }
/-- laws.eqSEdge -/
def sgl_eqSEdge : Sig := { i := { vs := [.agg [.int .i64, .int .i64, .int .i64], .agg [.int .i64, .int .i64, .int .i64]] }, o := { vs := [.bool] } }
/-- laws.eqSpot -/
def sgl_eqSpot : Sig := { i := { vs := [.agg [.int .i64, .str], .agg [.int .i64, .str]] }, o := { vs := [.bool] } }
/-- impl.Sg).steps$1 -/
def sgi_Sg_steps_1 : Sig := { i := { vs := [.int .i64, .int .i64, .ptr 0 [] none], os := [(true, .own 1)] }, o := { vs := [], os := [(true, .own 1)] } }
/-- laws.FnExactRename -/
def sgl_FnExactRename : Sig := { i := { vs := [.agg [.int .i64, .ro false 3, .ro false 2, .ro false 2], .int .i64, .str] }, o := { vs := [.bool] } }
/-- spec.Rename -/
def sgs_Rename : Sig := { i := { vs := [.agg [.int .i64, .ro false 3, .ro false 2, .ro false 2], .int .i64, .str] }, o := { vs := [.agg [.int .i64, .ro false 3, .ro false 2, .ro false 2], .int .i64] } }
/-- impl.Rename -/
def sgi_Rename : Sig := { i := { vs := [.agg [.int .i64, .ro false 3, .ro false 2, .ro false 2], .int .i64, .str] }, o := { vs := [.agg [.int .i64, .own 3, .own 2, .own 2], .int .i64] } }
/-- laws.heldSg -/
def sgl_heldSg : Sig := { i := { vs := [.agg [.int .i64, .ro false 3, .ro false 2, .ro false 2], .int .i64] }, o := { vs := [.int .i64] } }
/-- spec.l12Has -/
def sgs_l12Has : Sig := { i := { vs := [.ro false 1, .int .i64] }, o := { vs := [.bool] } }
/-- spec.l05SameInts -/
def sgs_l05SameInts : Sig := { i := { vs := [.ro false 1, .ro false 1] }, o := { vs := [.bool] } }
/-- slices.Contains[[]int,int] -/
def sgslices_Contains_int_int : Sig := { i := { vs := [.ro false 1, .int .i64] }, o := { vs := [.bool] } }
/-- slices.Equal[[]int,int] -/
def sgslices_Equal_int_int : Sig := { i := { vs := [.ro false 1, .ro false 1] }, o := { vs := [.bool] } }
/-- laws.heldSEdgeS -/
def sgl_heldSEdgeS : Sig := { i := { vs := [.ro false 3, .int .i64] }, o := { vs := [.int .i64] } }
/-- laws.heldSpotS -/
def sgl_heldSpotS : Sig := { i := { vs := [.ro false 2, .int .i64] }, o := { vs := [.int .i64] } }
/-- slices.Index[[]int,int] -/
def sgslices_Index_int_int : Sig := { i := { vs := [.ro false 1, .int .i64] }, o := { vs := [.int .i64] } }
def sigs : List (Nat × Sig) := [(8, sgl_FnExactPatch), (32, sgl_szTree), (43, sgl_szDelta), (35, sgl_toTree), (45, sgl_toDelta), (44, sgs_Patch), (46, sgi_Patch), (38, sgl_eqTree), (47, sgl_eqDelta), (40, sgl_markTree), (48, sgl_markDelta), (42, sgl_heldTree), (100, sgl_szTreeS), (119, sgl_szDeltaS), (108, sgl_toTreeS), (121, sgl_toDeltaS), (103, sgs_TreeOK), (120, sgs_l15Patch), (107, sgs_l01Copy), (111, sgi_TreeOK), (122, sgi_patch), (113, sgi_copyTree), (114, sgl_eqTreeS), (123, sgl_eqDeltaS), (116, sgl_markTreeS), (124, sgl_markDeltaS), (118, sgl_heldTreeS), (178, sgs_l01Room), (179, sgs_l01Right), (184, sgs_l15Zero), (182, sgi_measure), (185, sgi_zeroTree), (117, sgl_markText), (78, sgs_l01Name), (83, sgi_nameOK), (160, sgs_l01Letter), (161, sgs_l01NameByte), (164, sgi_isLetter), (165, sgi_inName), (219, sgs_l01Digit), (220, sgi_isDigit), (5, sgl_FnExactResolve), (21, sgl_szSg), (23, sgl_toSg), (22, sgs_Resolve), (24, sgi_Resolve), (25, sgl_eqIntS), (26, sgl_eqSg), (27, sgl_markSg), (28, sgl_markIntS), (29, sgl_heldIntS), (87, sgl_szSEdgeS), (88, sgl_szSpotS), (91, sgl_toSEdgeS), (92, sgl_toSpotS), (89, sgs_SgOK), (75, sgs_l01Between), (90, sgs_l12Resolve), (93, sgi_SgOK), (94, sgi_Sg_resolve), (95, sgl_eqSEdgeS), (96, sgl_eqSpotS), (97, sgl_markSEdgeS), (98, sgl_markSpotS), (168, sgl_szSpot), (172, sgl_toSEdge), (173, sgl_toSpot), (169, sgs_l12Spots), (170, sgs_l12In), (171, sgs_l12Behind), (174, sgi_SgOK_1), (175, sgi_Sg_steps), (176, sgl_eqSEdge), (177, sgl_eqSpot), (221, sgi_Sg_steps_1), (9, sgl_FnExactRename), (49, sgs_Rename), (50, sgi_Rename), (51, sgl_heldSg), (99, sgs_l12Has), (125, sgs_l05SameInts), (126, sgslices_Contains_int_int), (127, sgslices_Equal_int_int), (128, sgl_heldSEdgeS), (129, sgl_heldSpotS), (186, sgslices_Index_int_int)]
noncomputable def Fl_FnExactPatch (x0 : ByteArray) (x1 : ByteArray) (x2 : Bool) (x3 : List AVal) (x4 : Int) (x5 : ByteArray) (x6 : ByteArray) (x7 : Bool) (x8 : List AVal) (x9 : List AVal) : Option (Bool) := FnV ctx 8 sgl_FnExactPatch (x0, x1, x2, x3, x4, x5, x6, x7, x8, x9)
def lsl_FnExactPatch : List LSig := []
noncomputable def Fl_szTree (x0 : ByteArray) (x1 : ByteArray) (x2 : Bool) (x3 : List AVal) (x4 : Int) : Option (Int) := FnV ctx 32 sgl_szTree (x0, x1, x2, x3, x4)
def lsl_szTree : List LSig := []
noncomputable def Fl_szDelta (x0 : Int) (x1 : ByteArray) (x2 : ByteArray) (x3 : Bool) (x4 : List AVal) (x5 : List AVal) (x6 : Int) : Option (Int) := FnV ctx 43 sgl_szDelta (x0, x1, x2, x3, x4, x5, x6)
def lsl_szDelta : List LSig := []
noncomputable def Fl_toTree (x0 : ByteArray) (x1 : ByteArray) (x2 : Bool) (x3 : List AVal) : Option (ByteArray × ByteArray × Bool × List AVal) := FnV ctx 35 sgl_toTree (x0, x1, x2, x3)
def lsl_toTree : List LSig := []
noncomputable def Fl_toDelta (x0 : Int) (x1 : ByteArray) (x2 : ByteArray) (x3 : Bool) (x4 : List AVal) (x5 : List AVal) : Option (Int × ByteArray × ByteArray × Bool × List AVal × List AVal) := FnV ctx 45 sgl_toDelta (x0, x1, x2, x3, x4, x5)
def lsl_toDelta : List LSig := []
noncomputable def Fs_Patch (x0 : ByteArray) (x1 : ByteArray) (x2 : Bool) (x3 : List AVal) (x4 : Int) (x5 : ByteArray) (x6 : ByteArray) (x7 : Bool) (x8 : List AVal) (x9 : List AVal) : Option (ByteArray × ByteArray × Bool × List AVal × Int) := FnV ctx 44 sgs_Patch (x0, x1, x2, x3, x4, x5, x6, x7, x8, x9)
def lss_Patch : List LSig := []
noncomputable def Fi_Patch (x0 : ByteArray) (x1 : ByteArray) (x2 : Bool) (x3 : List AVal) (x4 : Int) (x5 : ByteArray) (x6 : ByteArray) (x7 : Bool) (x8 : List AVal) (x9 : List AVal) : Option (ByteArray × ByteArray × Bool × List AVal × Int) := FnV ctx 46 sgi_Patch (x0, x1, x2, x3, x4, x5, x6, x7, x8, x9)
def lsi_Patch : List LSig := []
noncomputable def Fl_eqTree (x0 : ByteArray) (x1 : ByteArray) (x2 : Bool) (x3 : List AVal) (x4 : ByteArray) (x5 : ByteArray) (x6 : Bool) (x7 : List AVal) : Option (Bool) := FnV ctx 38 sgl_eqTree (x0, x1, x2, x3, x4, x5, x6, x7)
def lsl_eqTree : List LSig := []
noncomputable def Fl_eqDelta (x0 : Int) (x1 : ByteArray) (x2 : ByteArray) (x3 : Bool) (x4 : List AVal) (x5 : List AVal) (x6 : Int) (x7 : ByteArray) (x8 : ByteArray) (x9 : Bool) (x10 : List AVal) (x11 : List AVal) : Option (Bool) := FnV ctx 47 sgl_eqDelta (x0, x1, x2, x3, x4, x5, x6, x7, x8, x9, x10, x11)
def lsl_eqDelta : List LSig := []
noncomputable def Fl_markTree (x0 : ByteArray) (x1 : ByteArray) (x2 : Bool) (x3 : Int) (x4 : List AVal) : Option (Int × List AVal) := FnV ctx 40 sgl_markTree (x0, x1, x2, x3, x4)
def lsl_markTree : List LSig := []
noncomputable def Fl_markDelta (x0 : Int) (x1 : ByteArray) (x2 : ByteArray) (x3 : Bool) (x4 : Int) (x5 : List AVal) (x6 : List AVal) : Option (Int × List AVal × List AVal) := FnV ctx 48 sgl_markDelta (x0, x1, x2, x3, x4, x5, x6)
def lsl_markDelta : List LSig := []
noncomputable def Fl_heldTree (x0 : ByteArray) (x1 : ByteArray) (x2 : Bool) (x3 : List AVal) (x4 : Int) : Option (Int) := FnV ctx 42 sgl_heldTree (x0, x1, x2, x3, x4)
def lsl_heldTree : List LSig := []
noncomputable def Fl_szTreeS (x0 : List AVal) (x1 : Int) : Option (Int) := FnV ctx 100 sgl_szTreeS (x0, x1)
def Xl_szTreeS_0 : List Ex := [{ out := .ret, st := { env := [(4, .int .i64)] } }, { out := .exit 0, st := { env := [(1, .int .i64)] } }]
def Sl_szTreeS_0 : SP := { env := [(0, .ro false 4), (1, .int .i64), (5, .int .i64)] }
noncomputable def Ll_szTreeS_0 (x0 : List AVal) (x1 : Int) (x2 : Int) : Option ((Int) ⊕ (Int)) := LpV ctx fn100 0 0 Xl_szTreeS_0 Sl_szTreeS_0 (x0, x1, x2)
def lsl_szTreeS : List LSig := [{ h := 0, X := Xl_szTreeS_0, Ss := [Sl_szTreeS_0] }]
noncomputable def Fl_szDeltaS (x0 : List AVal) (x1 : Int) : Option (Int) := FnV ctx 119 sgl_szDeltaS (x0, x1)
def Xl_szDeltaS_0 : List Ex := [{ out := .ret, st := { env := [(4, .int .i64)] } }, { out := .exit 0, st := { env := [(1, .int .i64)] } }]
def Sl_szDeltaS_0 : SP := { env := [(0, .ro false 6), (1, .int .i64), (5, .int .i64)] }
noncomputable def Ll_szDeltaS_0 (x0 : List AVal) (x1 : Int) (x2 : Int) : Option ((Int) ⊕ (Int)) := LpV ctx fn119 0 0 Xl_szDeltaS_0 Sl_szDeltaS_0 (x0, x1, x2)
def lsl_szDeltaS : List LSig := [{ h := 0, X := Xl_szDeltaS_0, Ss := [Sl_szDeltaS_0] }]
noncomputable def Fl_toTreeS (x0 : List AVal) : Option (List AVal) := FnV ctx 108 sgl_toTreeS x0
def Xl_toTreeS_0 : List Ex := [{ out := .exit 0, st := { env := [(3, .ref 3 [])], objs := [(3, false, .own 4)] } }]
def Sl_toTreeS_0 : SP := { env := [(0, .ro false 4), (3, .ref 3 []), (4, .int .i64)], objs := [(3, false, .own 4)] }
noncomputable def Ll_toTreeS_0 (x0 : List AVal) (x1 : Int) (x2 : List AVal) : Option (List AVal) := LpV ctx fn108 0 0 Xl_toTreeS_0 Sl_toTreeS_0 (x0, x1, x2)
def lsl_toTreeS : List LSig := [{ h := 0, X := Xl_toTreeS_0, Ss := [Sl_toTreeS_0] }]
noncomputable def Fl_toDeltaS (x0 : List AVal) : Option (List AVal) := FnV ctx 121 sgl_toDeltaS x0
def Xl_toDeltaS_0 : List Ex := [{ out := .exit 0, st := { env := [(3, .ref 3 [])], objs := [(3, false, .own 6)] } }]
def Sl_toDeltaS_0 : SP := { env := [(0, .ro false 6), (3, .ref 3 []), (4, .int .i64)], objs := [(3, false, .own 6)] }
noncomputable def Ll_toDeltaS_0 (x0 : List AVal) (x1 : Int) (x2 : List AVal) : Option (List AVal) := LpV ctx fn121 0 0 Xl_toDeltaS_0 Sl_toDeltaS_0 (x0, x1, x2)
def lsl_toDeltaS : List LSig := [{ h := 0, X := Xl_toDeltaS_0, Ss := [Sl_toDeltaS_0] }]
noncomputable def Fs_TreeOK (x0 : ByteArray) (x1 : ByteArray) (x2 : Bool) (x3 : List AVal) : Option (Bool) := FnV ctx 103 sgs_TreeOK (x0, x1, x2, x3)
def lss_TreeOK : List LSig := []
noncomputable def Fs_l15Patch (x0 : ByteArray) (x1 : ByteArray) (x2 : Bool) (x3 : List AVal) (x4 : Int) (x5 : ByteArray) (x6 : ByteArray) (x7 : Bool) (x8 : List AVal) (x9 : List AVal) : Option (ByteArray × ByteArray × Bool × List AVal × Bool) := FnV ctx 120 sgs_l15Patch (x0, x1, x2, x3, x4, x5, x6, x7, x8, x9)
def Xs_l15Patch_0 : List Ex := [{ out := .ret, st := { env := [(4, .ptr 4 [] none), (5, .bool)], objs := [(4, true, .agg [.str, .str, .bool, .ro false 4])] } }, { out := .exit 1, st := { env := [(2, .ptr 2 [] none), (4, .ptr 4 [] none), (6, .ptr 6 [] none), (7, .int .i64)], objs := [(2, true, .agg [.str, .str, .bool, .ro false 4]), (4, true, .agg [.str, .str, .bool, .own 4]), (6, true, .agg [.str, .str, .bool, .own 4])] } }]
def Ss_l15Patch_0 : SP := { env := [(2, .ptr 2 [] none), (3, .ptr 3 [] none), (4, .ptr 4 [] none), (6, .ptr 6 [] none), (7, .int .i64), (8, .int .i64)], objs := [(2, true, .agg [.str, .str, .bool, .ro false 4]), (3, true, .agg [.int .i64, .str, .str, .bool, .ro false 4, .ro false 6]), (4, true, .agg [.str, .str, .bool, .own 4]), (6, true, .agg [.str, .str, .bool, .own 4])] }
noncomputable def Ls_l15Patch_0 (x0 : Int) (x1 : Int) (x2 : ByteArray) (x3 : ByteArray) (x4 : Bool) (x5 : List AVal) (x6 : Int) (x7 : ByteArray) (x8 : ByteArray) (x9 : Bool) (x10 : List AVal) (x11 : List AVal) (x12 : ByteArray) (x13 : ByteArray) (x14 : Bool) (x15 : List AVal) (x16 : ByteArray) (x17 : ByteArray) (x18 : Bool) (x19 : List AVal) : Option ((Bool × ByteArray × ByteArray × Bool × List AVal) ⊕ (Int × ByteArray × ByteArray × Bool × List AVal × ByteArray × ByteArray × Bool × List AVal × ByteArray × ByteArray × Bool × List AVal)) := LpV ctx fn120 0 0 Xs_l15Patch_0 Ss_l15Patch_0 (x0, x1, x2, x3, x4, x5, x6, x7, x8, x9, x10, x11, x12, x13, x14, x15, x16, x17, x18, x19)
def lss_l15Patch : List LSig := [{ h := 0, X := Xs_l15Patch_0, Ss := [Ss_l15Patch_0] }]
noncomputable def Fs_l01Copy (x0 : ByteArray) (x1 : ByteArray) (x2 : Bool) (x3 : List AVal) : Option (ByteArray × ByteArray × Bool × List AVal) := FnV ctx 107 sgs_l01Copy (x0, x1, x2, x3)
def Xs_l01Copy_0 : List Ex := [{ out := .exit 0, st := { env := [(1, .ptr 1 [] none), (2, .ptr 2 [] none), (3, .ref 3 [])], objs := [(1, true, .agg [.str, .str, .bool, .ro false 4]), (2, true, .agg [.str, .str, .bool, .own 4]), (3, false, .own 4)] } }]
def Ss_l01Copy_0 : SP := { env := [(1, .ptr 1 [] none), (2, .ptr 2 [] none), (3, .ref 3 []), (4, .int .i64)], objs := [(1, true, .agg [.str, .str, .bool, .ro false 4]), (2, true, .agg [.str, .str, .bool, .own 4]), (3, false, .own 4)] }
noncomputable def Ls_l01Copy_0 (x0 : Int) (x1 : ByteArray) (x2 : ByteArray) (x3 : Bool) (x4 : List AVal) (x5 : ByteArray) (x6 : ByteArray) (x7 : Bool) (x8 : List AVal) (x9 : List AVal) : Option (ByteArray × ByteArray × Bool × List AVal × ByteArray × ByteArray × Bool × List AVal × List AVal) := LpV ctx fn107 0 0 Xs_l01Copy_0 Ss_l01Copy_0 (x0, x1, x2, x3, x4, x5, x6, x7, x8, x9)
def lss_l01Copy : List LSig := [{ h := 0, X := Xs_l01Copy_0, Ss := [Ss_l01Copy_0] }]
noncomputable def Fi_TreeOK (x0 : ByteArray) (x1 : ByteArray) (x2 : Bool) (x3 : List AVal) : Option (Bool) := FnV ctx 111 sgi_TreeOK (x0, x1, x2, x3)
def lsi_TreeOK : List LSig := []
noncomputable def Fi_patch (x0 : ByteArray) (x1 : ByteArray) (x2 : Bool) (x3 : List AVal) (x4 : Int) (x5 : ByteArray) (x6 : ByteArray) (x7 : Bool) (x8 : List AVal) (x9 : List AVal) : Option (ByteArray × ByteArray × Bool × List AVal × Bool) := FnV ctx 122 sgi_patch (x0, x1, x2, x3, x4, x5, x6, x7, x8, x9)
def Xi_patch_0 : List Ex := [{ out := .ret, st := { env := [(4, .ptr 4 [] none), (5, .bool)], objs := [(4, true, .agg [.str, .str, .bool, .own 4])] } }, { out := .exit 1, st := { env := [(2, .ptr 2 [] none), (4, .ptr 4 [] none), (6, .ptr 6 [] none), (7, .int .i64)], objs := [(2, true, .agg [.str, .str, .bool, .ro false 4]), (4, true, .agg [.str, .str, .bool, .own 4]), (6, true, .agg [.str, .str, .bool, .own 4])] } }]
def Si_patch_0 : SP := { env := [(2, .ptr 2 [] none), (4, .ptr 4 [] none), (6, .ptr 6 [] none), (7, .int .i64), (55, .ro false 6), (56, .int .i64), (57, .int .i64)], objs := [(2, true, .agg [.str, .str, .bool, .ro false 4]), (4, true, .agg [.str, .str, .bool, .own 4]), (6, true, .agg [.str, .str, .bool, .own 4])] }
noncomputable def Li_patch_0 (x0 : Int) (x1 : List AVal) (x2 : Int) (x3 : Int) (x4 : ByteArray) (x5 : ByteArray) (x6 : Bool) (x7 : List AVal) (x8 : ByteArray) (x9 : ByteArray) (x10 : Bool) (x11 : List AVal) (x12 : ByteArray) (x13 : ByteArray) (x14 : Bool) (x15 : List AVal) : Option ((Bool × ByteArray × ByteArray × Bool × List AVal) ⊕ (Int × ByteArray × ByteArray × Bool × List AVal × ByteArray × ByteArray × Bool × List AVal × ByteArray × ByteArray × Bool × List AVal)) := LpV ctx fn122 0 0 Xi_patch_0 Si_patch_0 (x0, x1, x2, x3, x4, x5, x6, x7, x8, x9, x10, x11, x12, x13, x14, x15)
def lsi_patch : List LSig := [{ h := 0, X := Xi_patch_0, Ss := [Si_patch_0] }]
noncomputable def Fi_copyTree (x0 : ByteArray) (x1 : ByteArray) (x2 : Bool) (x3 : List AVal) : Option (ByteArray × ByteArray × Bool × List AVal) := FnV ctx 113 sgi_copyTree (x0, x1, x2, x3)
def Xi_copyTree_0 : List Ex := [{ out := .exit 0, st := { env := [(2, .ptr 2 [] none), (3, .ptr 3 [] none)], objs := [(2, true, .agg [.str, .str, .bool, .own 4]), (3, true, .agg [.str, .str, .bool, .own 4])] } }]
def Si_copyTree_0 : SP := { env := [(2, .ptr 2 [] none), (3, .ptr 3 [] none), (14, .ro false 4), (15, .int .i64), (16, .int .i64)], objs := [(2, true, .agg [.str, .str, .bool, .own 4]), (3, true, .agg [.str, .str, .bool, .own 4])] }
noncomputable def Li_copyTree_0 (x0 : List AVal) (x1 : Int) (x2 : Int) (x3 : ByteArray) (x4 : ByteArray) (x5 : Bool) (x6 : List AVal) (x7 : ByteArray) (x8 : ByteArray) (x9 : Bool) (x10 : List AVal) : Option (ByteArray × ByteArray × Bool × List AVal × ByteArray × ByteArray × Bool × List AVal) := LpV ctx fn113 0 0 Xi_copyTree_0 Si_copyTree_0 (x0, x1, x2, x3, x4, x5, x6, x7, x8, x9, x10)
def lsi_copyTree : List LSig := [{ h := 0, X := Xi_copyTree_0, Ss := [Si_copyTree_0] }]
noncomputable def Fl_eqTreeS (x0 : List AVal) (x1 : List AVal) : Option (Bool) := FnV ctx 114 sgl_eqTreeS (x0, x1)
def Xl_eqTreeS_0 : List Ex := [{ out := .ret, st := { env := [(4, .bool)] } }, { out := .exit 0, st := { env := [] } }]
def Sl_eqTreeS_0 : SP := { env := [(0, .ro false 4), (1, .ro false 4), (5, .int .i64)] }
noncomputable def Ll_eqTreeS_0 (x0 : List AVal) (x1 : List AVal) (x2 : Int) : Option ((Bool) ⊕ (Unit)) := LpV ctx fn114 0 0 Xl_eqTreeS_0 Sl_eqTreeS_0 (x0, x1, x2)
def lsl_eqTreeS : List LSig := [{ h := 0, X := Xl_eqTreeS_0, Ss := [Sl_eqTreeS_0] }]
noncomputable def Fl_eqDeltaS (x0 : List AVal) (x1 : List AVal) : Option (Bool) := FnV ctx 123 sgl_eqDeltaS (x0, x1)
def Xl_eqDeltaS_0 : List Ex := [{ out := .ret, st := { env := [(4, .bool)] } }, { out := .exit 0, st := { env := [] } }]
def Sl_eqDeltaS_0 : SP := { env := [(0, .ro false 6), (1, .ro false 6), (5, .int .i64)] }
noncomputable def Ll_eqDeltaS_0 (x0 : List AVal) (x1 : List AVal) (x2 : Int) : Option ((Bool) ⊕ (Unit)) := LpV ctx fn123 0 0 Xl_eqDeltaS_0 Sl_eqDeltaS_0 (x0, x1, x2)
def lsl_eqDeltaS : List LSig := [{ h := 0, X := Xl_eqDeltaS_0, Ss := [Sl_eqDeltaS_0] }]
noncomputable def Fl_markTreeS (x0 : Int) (x1 : List AVal) : Option (Int × List AVal) := FnV ctx 116 sgl_markTreeS (x0, x1)
def Xl_markTreeS_0 : List Ex := [{ out := .exit 0, st := { env := [(1, .int .i64)], objs := [(2000000, false, .own 4)] } }]
def Sl_markTreeS_0 : SP := { env := [(0, .ref 2000000 []), (1, .int .i64), (5, .int .i64)], objs := [(2000000, false, .own 4)] }
noncomputable def Ll_markTreeS_0 (x0 : Int) (x1 : Int) (x2 : List AVal) : Option (Int × List AVal) := LpV ctx fn116 1 0 Xl_markTreeS_0 Sl_markTreeS_0 (x0, x1, x2)
def lsl_markTreeS : List LSig := [{ h := 0, X := Xl_markTreeS_0, Ss := [Sl_markTreeS_0] }]
noncomputable def Fl_markDeltaS (x0 : Int) (x1 : List AVal) : Option (Int × List AVal) := FnV ctx 124 sgl_markDeltaS (x0, x1)
def Xl_markDeltaS_0 : List Ex := [{ out := .exit 0, st := { env := [(1, .int .i64)], objs := [(2000000, false, .own 6)] } }]
def Sl_markDeltaS_0 : SP := { env := [(0, .ref 2000000 []), (1, .int .i64), (5, .int .i64)], objs := [(2000000, false, .own 6)] }
noncomputable def Ll_markDeltaS_0 (x0 : Int) (x1 : Int) (x2 : List AVal) : Option (Int × List AVal) := LpV ctx fn124 1 0 Xl_markDeltaS_0 Sl_markDeltaS_0 (x0, x1, x2)
def lsl_markDeltaS : List LSig := [{ h := 0, X := Xl_markDeltaS_0, Ss := [Sl_markDeltaS_0] }]
noncomputable def Fl_heldTreeS (x0 : List AVal) (x1 : Int) : Option (Int) := FnV ctx 118 sgl_heldTreeS (x0, x1)
def Xl_heldTreeS_0 : List Ex := [{ out := .ret, st := { env := [(4, .int .i64)] } }, { out := .exit 0, st := { env := [(1, .int .i64)] } }]
def Sl_heldTreeS_0 : SP := { env := [(0, .ro false 4), (1, .int .i64), (5, .int .i64)] }
noncomputable def Ll_heldTreeS_0 (x0 : List AVal) (x1 : Int) (x2 : Int) : Option ((Int) ⊕ (Int)) := LpV ctx fn118 0 0 Xl_heldTreeS_0 Sl_heldTreeS_0 (x0, x1, x2)
def lsl_heldTreeS : List LSig := [{ h := 0, X := Xl_heldTreeS_0, Ss := [Sl_heldTreeS_0] }]
noncomputable def Fs_l01Room (x0 : ByteArray) (x1 : ByteArray) (x2 : Bool) (x3 : List AVal) (x4 : Int) (x5 : Int) : Option (Int) := FnV ctx 178 sgs_l01Room (x0, x1, x2, x3, x4, x5)
def Xs_l01Room_0 : List Ex := [{ out := .exit 0, st := { env := [(1, .int .i64)] } }]
def Ss_l01Room_0 : SP := { env := [(1, .int .i64), (2, .int .i64), (3, .ptr 3 [] none), (7, .int .i64)], objs := [(3, true, .agg [.str, .str, .bool, .ro false 4])] }
noncomputable def Ls_l01Room_0 (x0 : Int) (x1 : Int) (x2 : Int) (x3 : ByteArray) (x4 : ByteArray) (x5 : Bool) (x6 : List AVal) : Option (Int) := LpV ctx fn178 0 0 Xs_l01Room_0 Ss_l01Room_0 (x0, x1, x2, x3, x4, x5, x6)
def lss_l01Room : List LSig := [{ h := 0, X := Xs_l01Room_0, Ss := [Ss_l01Room_0] }]
noncomputable def Fs_l01Right (x0 : ByteArray) (x1 : ByteArray) (x2 : Bool) (x3 : List AVal) : Option (Bool) := FnV ctx 179 sgs_l01Right (x0, x1, x2, x3)
def Xs_l01Right_0 : List Ex := [{ out := .ret, st := { env := [(2, .bool)] } }, { out := .exit 0, st := { env := [] } }]
def Ss_l01Right_0 : SP := { env := [(1, .ptr 1 [] none), (3, .int .i64)], objs := [(1, true, .agg [.str, .str, .bool, .ro false 4])] }
noncomputable def Ls_l01Right_0 (x0 : Int) (x1 : ByteArray) (x2 : ByteArray) (x3 : Bool) (x4 : List AVal) : Option ((Bool) ⊕ (Unit)) := LpV ctx fn179 0 0 Xs_l01Right_0 Ss_l01Right_0 (x0, x1, x2, x3, x4)
def lss_l01Right : List LSig := [{ h := 0, X := Xs_l01Right_0, Ss := [Ss_l01Right_0] }]
noncomputable def Fs_l15Zero (x0 : ByteArray) (x1 : ByteArray) (x2 : Bool) (x3 : List AVal) : Option (Bool) := FnV ctx 184 sgs_l15Zero (x0, x1, x2, x3)
def lss_l15Zero : List LSig := []
noncomputable def Fi_measure (x0 : ByteArray) (x1 : ByteArray) (x2 : Bool) (x3 : List AVal) (x4 : Int) (x5 : Int) (x6 : Int) : Option (Bool × Int × Int) := FnV ctx 182 sgi_measure (x0, x1, x2, x3, x4, x5, x6)
def Xi_measure_0 : List Ex := [{ out := .ret, st := { env := [(8, .bool)], objs := [(2000000, true, .int .i64), (2000001, true, .int .i64)] } }, { out := .exit 0, st := { env := [], objs := [(2000000, true, .int .i64), (2000001, true, .int .i64)] } }]
def Si_measure_0 : SP := { env := [(1, .int .i64), (2, .ptr 2000000 [] none), (3, .ptr 2000001 [] none), (53, .ro false 4), (54, .int .i64), (55, .int .i64)], objs := [(2000000, true, .int .i64), (2000001, true, .int .i64)] }
noncomputable def Li_measure_0 (x0 : Int) (x1 : List AVal) (x2 : Int) (x3 : Int) (x4 : Int) (x5 : Int) : Option ((Bool × Int × Int) ⊕ (Int × Int)) := LpV ctx fn182 2 0 Xi_measure_0 Si_measure_0 (x0, x1, x2, x3, x4, x5)
def lsi_measure : List LSig := [{ h := 0, X := Xi_measure_0, Ss := [Si_measure_0] }]
noncomputable def Fi_zeroTree (x0 : ByteArray) (x1 : ByteArray) (x2 : Bool) (x3 : List AVal) : Option (Bool) := FnV ctx 185 sgi_zeroTree (x0, x1, x2, x3)
def lsi_zeroTree : List LSig := []
noncomputable def Fl_markText (x0 : Int) : Option (ByteArray) := FnV ctx 117 sgl_markText x0
def Xl_markText_0 : List Ex := [{ out := .exit 0, st := { env := [(3, .str)] } }]
def Sl_markText_0 : SP := { env := [(0, .int .i64), (3, .str)] }
noncomputable def Ll_markText_0 (x0 : Int) (x1 : ByteArray) : Option (ByteArray) := LpV ctx fn117 0 0 Xl_markText_0 Sl_markText_0 (x0, x1)
def lsl_markText : List LSig := [{ h := 0, X := Xl_markText_0, Ss := [Sl_markText_0] }]
noncomputable def Fs_l01Name (x0 : ByteArray) : Option (Bool) := FnV ctx 78 sgs_l01Name x0
def Xs_l01Name_0 : List Ex := [{ out := .ret, st := { env := [(2, .bool)] } }, { out := .exit 0, st := { env := [] } }]
def Ss_l01Name_0 : SP := { env := [(0, .str), (3, .int .i64)] }
noncomputable def Ls_l01Name_0 (x0 : ByteArray) (x1 : Int) : Option ((Bool) ⊕ (Unit)) := LpV ctx fn78 0 0 Xs_l01Name_0 Ss_l01Name_0 (x0, x1)
def lss_l01Name : List LSig := [{ h := 0, X := Xs_l01Name_0, Ss := [Ss_l01Name_0] }]
noncomputable def Fi_nameOK (x0 : ByteArray) : Option (Bool) := FnV ctx 83 sgi_nameOK x0
def Xi_nameOK_0 : List Ex := [{ out := .ret, st := { env := [(2, .bool)] } }, { out := .exit 0, st := { env := [] } }]
def Si_nameOK_0 : SP := { env := [(0, .str), (3, .int .i64)] }
noncomputable def Li_nameOK_0 (x0 : ByteArray) (x1 : Int) : Option ((Bool) ⊕ (Unit)) := LpV ctx fn83 0 0 Xi_nameOK_0 Si_nameOK_0 (x0, x1)
def lsi_nameOK : List LSig := [{ h := 0, X := Xi_nameOK_0, Ss := [Si_nameOK_0] }]
noncomputable def Fs_l01Letter (x0 : Int) : Option (Bool) := FnV ctx 160 sgs_l01Letter x0
def lss_l01Letter : List LSig := []
noncomputable def Fs_l01NameByte (x0 : Int) : Option (Bool) := FnV ctx 161 sgs_l01NameByte x0
def lss_l01NameByte : List LSig := []
noncomputable def Fi_isLetter (x0 : Int) : Option (Bool) := FnV ctx 164 sgi_isLetter x0
def lsi_isLetter : List LSig := []
noncomputable def Fi_inName (x0 : Int) : Option (Bool) := FnV ctx 165 sgi_inName x0
def lsi_inName : List LSig := []
noncomputable def Fs_l01Digit (x0 : Int) : Option (Bool) := FnV ctx 219 sgs_l01Digit x0
def lss_l01Digit : List LSig := []
noncomputable def Fi_isDigit (x0 : Int) : Option (Bool) := FnV ctx 220 sgi_isDigit x0
def lsi_isDigit : List LSig := []
noncomputable def Fl_FnExactResolve (x0 : Int) (x1 : List AVal) (x2 : List AVal) (x3 : List AVal) (x4 : Int) : Option (Bool) := FnV ctx 5 sgl_FnExactResolve (x0, x1, x2, x3, x4)
def lsl_FnExactResolve : List LSig := []
noncomputable def Fl_szSg (x0 : Int) (x1 : List AVal) (x2 : List AVal) (x3 : List AVal) (x4 : Int) : Option (Int) := FnV ctx 21 sgl_szSg (x0, x1, x2, x3, x4)
def lsl_szSg : List LSig := []
noncomputable def Fl_toSg (x0 : Int) (x1 : List AVal) (x2 : List AVal) (x3 : List AVal) : Option (Int × List AVal × List AVal × List AVal) := FnV ctx 23 sgl_toSg (x0, x1, x2, x3)
def lsl_toSg : List LSig := []
noncomputable def Fs_Resolve (x0 : Int) (x1 : List AVal) (x2 : List AVal) (x3 : List AVal) (x4 : Int) : Option (List AVal × Int) := FnV ctx 22 sgs_Resolve (x0, x1, x2, x3, x4)
def lss_Resolve : List LSig := []
noncomputable def Fi_Resolve (x0 : Int) (x1 : List AVal) (x2 : List AVal) (x3 : List AVal) (x4 : Int) : Option (List AVal × Int) := FnV ctx 24 sgi_Resolve (x0, x1, x2, x3, x4)
def lsi_Resolve : List LSig := []
noncomputable def Fl_eqIntS (x0 : List AVal) (x1 : List AVal) : Option (Bool) := FnV ctx 25 sgl_eqIntS (x0, x1)
def Xl_eqIntS_0 : List Ex := [{ out := .ret, st := { env := [(4, .bool)] } }, { out := .exit 0, st := { env := [] } }]
def Sl_eqIntS_0 : SP := { env := [(0, .ro false 1), (1, .ro false 1), (5, .int .i64)] }
noncomputable def Ll_eqIntS_0 (x0 : List AVal) (x1 : List AVal) (x2 : Int) : Option ((Bool) ⊕ (Unit)) := LpV ctx fn25 0 0 Xl_eqIntS_0 Sl_eqIntS_0 (x0, x1, x2)
def lsl_eqIntS : List LSig := [{ h := 0, X := Xl_eqIntS_0, Ss := [Sl_eqIntS_0] }]
noncomputable def Fl_eqSg (x0 : Int) (x1 : List AVal) (x2 : List AVal) (x3 : List AVal) (x4 : Int) (x5 : List AVal) (x6 : List AVal) (x7 : List AVal) : Option (Bool) := FnV ctx 26 sgl_eqSg (x0, x1, x2, x3, x4, x5, x6, x7)
def lsl_eqSg : List LSig := []
noncomputable def Fl_markSg (x0 : Int) (x1 : Int) (x2 : List AVal) (x3 : List AVal) (x4 : List AVal) : Option (Int × List AVal × List AVal × List AVal) := FnV ctx 27 sgl_markSg (x0, x1, x2, x3, x4)
def lsl_markSg : List LSig := []
noncomputable def Fl_markIntS (x0 : Int) (x1 : List AVal) : Option (Int × List AVal) := FnV ctx 28 sgl_markIntS (x0, x1)
def Xl_markIntS_0 : List Ex := [{ out := .exit 0, st := { env := [(1, .int .i64)], objs := [(2000000, false, .own 1)] } }]
def Sl_markIntS_0 : SP := { env := [(0, .ref 2000000 []), (1, .int .i64), (5, .int .i64)], objs := [(2000000, false, .own 1)] }
noncomputable def Ll_markIntS_0 (x0 : Int) (x1 : Int) (x2 : List AVal) : Option (Int × List AVal) := LpV ctx fn28 1 0 Xl_markIntS_0 Sl_markIntS_0 (x0, x1, x2)
def lsl_markIntS : List LSig := [{ h := 0, X := Xl_markIntS_0, Ss := [Sl_markIntS_0] }]
noncomputable def Fl_heldIntS (x0 : List AVal) (x1 : Int) : Option (Int) := FnV ctx 29 sgl_heldIntS (x0, x1)
def Xl_heldIntS_0 : List Ex := [{ out := .ret, st := { env := [(4, .int .i64)] } }, { out := .exit 0, st := { env := [(1, .int .i64)] } }]
def Sl_heldIntS_0 : SP := { env := [(0, .ro false 1), (1, .int .i64), (5, .int .i64)] }
noncomputable def Ll_heldIntS_0 (x0 : List AVal) (x1 : Int) (x2 : Int) : Option ((Int) ⊕ (Int)) := LpV ctx fn29 0 0 Xl_heldIntS_0 Sl_heldIntS_0 (x0, x1, x2)
def lsl_heldIntS : List LSig := [{ h := 0, X := Xl_heldIntS_0, Ss := [Sl_heldIntS_0] }]
noncomputable def Fl_szSEdgeS (x0 : List AVal) (x1 : Int) : Option (Int) := FnV ctx 87 sgl_szSEdgeS (x0, x1)
def lsl_szSEdgeS : List LSig := []
noncomputable def Fl_szSpotS (x0 : List AVal) (x1 : Int) : Option (Int) := FnV ctx 88 sgl_szSpotS (x0, x1)
def Xl_szSpotS_0 : List Ex := [{ out := .ret, st := { env := [(4, .int .i64)] } }, { out := .exit 0, st := { env := [(1, .int .i64)] } }]
def Sl_szSpotS_0 : SP := { env := [(0, .ro false 2), (1, .int .i64), (5, .int .i64)] }
noncomputable def Ll_szSpotS_0 (x0 : List AVal) (x1 : Int) (x2 : Int) : Option ((Int) ⊕ (Int)) := LpV ctx fn88 0 0 Xl_szSpotS_0 Sl_szSpotS_0 (x0, x1, x2)
def lsl_szSpotS : List LSig := [{ h := 0, X := Xl_szSpotS_0, Ss := [Sl_szSpotS_0] }]
noncomputable def Fl_toSEdgeS (x0 : List AVal) : Option (List AVal) := FnV ctx 91 sgl_toSEdgeS x0
def Xl_toSEdgeS_0 : List Ex := [{ out := .exit 0, st := { env := [(3, .ref 3 [])], objs := [(3, false, .own 3)] } }]
def Sl_toSEdgeS_0 : SP := { env := [(0, .ro false 3), (3, .ref 3 []), (4, .int .i64)], objs := [(3, false, .own 3)] }
noncomputable def Ll_toSEdgeS_0 (x0 : List AVal) (x1 : Int) (x2 : List AVal) : Option (List AVal) := LpV ctx fn91 0 0 Xl_toSEdgeS_0 Sl_toSEdgeS_0 (x0, x1, x2)
def lsl_toSEdgeS : List LSig := [{ h := 0, X := Xl_toSEdgeS_0, Ss := [Sl_toSEdgeS_0] }]
noncomputable def Fl_toSpotS (x0 : List AVal) : Option (List AVal) := FnV ctx 92 sgl_toSpotS x0
def Xl_toSpotS_0 : List Ex := [{ out := .exit 0, st := { env := [(3, .ref 3 [])], objs := [(3, false, .own 2)] } }]
def Sl_toSpotS_0 : SP := { env := [(0, .ro false 2), (3, .ref 3 []), (4, .int .i64)], objs := [(3, false, .own 2)] }
noncomputable def Ll_toSpotS_0 (x0 : List AVal) (x1 : Int) (x2 : List AVal) : Option (List AVal) := LpV ctx fn92 0 0 Xl_toSpotS_0 Sl_toSpotS_0 (x0, x1, x2)
def lsl_toSpotS : List LSig := [{ h := 0, X := Xl_toSpotS_0, Ss := [Sl_toSpotS_0] }]
noncomputable def Fs_SgOK (x0 : Int) (x1 : List AVal) (x2 : List AVal) (x3 : List AVal) : Option (Bool) := FnV ctx 89 sgs_SgOK (x0, x1, x2, x3)
def Xs_SgOK_0 : List Ex := [{ out := .ret, st := { env := [(2, .bool)] } }, { out := .exit 0, st := { env := [] } }]
def Ss_SgOK_0 : SP := { env := [(1, .ptr 1 [] none), (3, .int .i64)], objs := [(1, true, .agg [.int .i64, .ro false 3, .ro false 2, .ro false 2])] }
noncomputable def Ls_SgOK_0 (x0 : Int) (x1 : Int) (x2 : List AVal) (x3 : List AVal) (x4 : List AVal) : Option ((Bool) ⊕ (Unit)) := LpV ctx fn89 0 0 Xs_SgOK_0 Ss_SgOK_0 (x0, x1, x2, x3, x4)
def lss_SgOK : List LSig := [{ h := 0, X := Xs_SgOK_0, Ss := [Ss_SgOK_0] }]
noncomputable def Fs_l01Between (x0 : Int) (x1 : Int) (x2 : Int) : Option (Bool) := FnV ctx 75 sgs_l01Between (x0, x1, x2)
def lss_l01Between : List LSig := []
noncomputable def Fs_l12Resolve (x0 : Int) (x1 : List AVal) (x2 : List AVal) (x3 : List AVal) (x4 : Int) (x5 : ByteArray) : Option (List AVal) := FnV ctx 90 sgs_l12Resolve (x0, x1, x2, x3, x4, x5)
def Xs_l12Resolve_0 : List Ex := [{ out := .ret, st := { env := [(4, .ro false 1)] } }, { out := .exit 0, st := { env := [] } }]
def Ss_l12Resolve_0 : SP := { env := [(2, .ptr 2 [] none), (3, .ptr 3 [] none), (5, .ref 5 []), (6, .int .i64)], objs := [(2, true, .agg [.int .i64, .ro false 3, .ro false 2, .ro false 2]), (3, true, .agg [.int .i64, .str]), (5, false, .own 1)] }
noncomputable def Ls_l12Resolve_0 (x0 : Int) (x1 : Int) (x2 : List AVal) (x3 : List AVal) (x4 : List AVal) (x5 : Int) (x6 : ByteArray) (x7 : List AVal) : Option ((List AVal) ⊕ (Unit)) := LpV ctx fn90 0 0 Xs_l12Resolve_0 Ss_l12Resolve_0 (x0, x1, x2, x3, x4, x5, x6, x7)
def Ss_l12Resolve_0s1 : SP := { env := [(2, .ptr 2 [] none), (3, .ptr 3 [] none), (5, .ro false 1), (6, .int .i64)], objs := [(2, true, .agg [.int .i64, .ro false 3, .ro false 2, .ro false 2]), (3, true, .agg [.int .i64, .str])] }
noncomputable def Ls_l12Resolve_0s1 (x0 : List AVal) (x1 : Int) (x2 : Int) (x3 : List AVal) (x4 : List AVal) (x5 : List AVal) (x6 : Int) (x7 : ByteArray) : Option ((List AVal) ⊕ (Unit)) := LpV ctx fn90 0 0 Xs_l12Resolve_0 Ss_l12Resolve_0s1 (x0, x1, x2, x3, x4, x5, x6, x7)
def lss_l12Resolve : List LSig := [{ h := 0, X := Xs_l12Resolve_0, Ss := [Ss_l12Resolve_0, Ss_l12Resolve_0s1] }]
noncomputable def Fi_SgOK (x0 : Int) (x1 : List AVal) (x2 : List AVal) (x3 : List AVal) : Option (Bool) := FnV ctx 93 sgi_SgOK (x0, x1, x2, x3)
def Xi_SgOK_0 : List Ex := [{ out := .ret, st := { env := [(2, .bool)] } }, { out := .exit 0, st := { env := [(1, .ptr 1 [] none), (3, .clo 174 [.ptr 1 [] none])], objs := [(1, true, .agg [.int .i64, .ro false 3, .ro false 2, .ro false 2])] } }]
def Si_SgOK_0 : SP := { env := [(1, .ptr 1 [] none), (3, .clo 174 [.ptr 1 [] none]), (38, .ro false 3), (39, .int .i64), (40, .int .i64)], objs := [(1, true, .agg [.int .i64, .ro false 3, .ro false 2, .ro false 2])] }
noncomputable def Li_SgOK_0 (x0 : List AVal) (x1 : Int) (x2 : Int) (x3 : Int) (x4 : List AVal) (x5 : List AVal) (x6 : List AVal) : Option ((Bool) ⊕ (Int × List AVal × List AVal × List AVal)) := LpV ctx fn93 0 0 Xi_SgOK_0 Si_SgOK_0 (x0, x1, x2, x3, x4, x5, x6)
def Xi_SgOK_1 : List Ex := [{ out := .ret, st := { env := [(2, .bool)] } }, { out := .exit 2, st := { env := [] } }]
def Si_SgOK_1 : SP := { env := [(3, .clo 174 [.ptr 1 [] none]), (71, .ref 71 []), (72, .int .i64), (73, .int .i64)], objs := [(1, true, .agg [.int .i64, .ro false 3, .ro false 2, .ro false 2]), (71, false, .own 1)] }
noncomputable def Li_SgOK_1 (x0 : Int) (x1 : Int) (x2 : Int) (x3 : List AVal) (x4 : List AVal) (x5 : List AVal) (x6 : List AVal) : Option ((Bool) ⊕ (Unit)) := LpV ctx fn93 0 1 Xi_SgOK_1 Si_SgOK_1 (x0, x1, x2, x3, x4, x5, x6)
def Xi_SgOK_2 : List Ex := [{ out := .ret, st := { env := [(2, .bool)] } }, { out := .exit 4, st := { env := [(3, .clo 174 [.ptr 1 [] none]), (71, .ref 71 []), (72, .int .i64), (73, .int .i64)], objs := [(1, true, .agg [.int .i64, .ro false 3, .ro false 2, .ro false 2]), (71, false, .own 1)] } }]
def Si_SgOK_2 : SP := { env := [(3, .clo 174 [.ptr 1 [] none]), (71, .ref 71 []), (72, .int .i64), (73, .int .i64), (77, .ref 71 [none]), (78, .int .i64), (79, .int .i64)], objs := [(1, true, .agg [.int .i64, .ro false 3, .ro false 2, .ro false 2]), (71, false, .own 1)] }
noncomputable def Li_SgOK_2 (x0 : Int) (x1 : Int) (x2 : Int) (x3 : Int) (x4 : Int) (x5 : Int) (x6 : List AVal) (x7 : List AVal) (x8 : List AVal) (x9 : List AVal) : Option ((Bool) ⊕ (Int × Int × Int × List AVal × List AVal × List AVal × List AVal)) := LpV ctx fn93 0 2 Xi_SgOK_2 Si_SgOK_2 (x0, x1, x2, x3, x4, x5, x6, x7, x8, x9)
def lsi_SgOK : List LSig := [{ h := 0, X := Xi_SgOK_0, Ss := [Si_SgOK_0] }, { h := 1, X := Xi_SgOK_1, Ss := [Si_SgOK_1] }, { h := 2, X := Xi_SgOK_2, Ss := [Si_SgOK_2] }]
noncomputable def Fi_Sg_resolve (x0 : Int) (x1 : List AVal) (x2 : List AVal) (x3 : List AVal) (x4 : Int) : Option (List AVal) := FnV ctx 94 sgi_Sg_resolve (x0, x1, x2, x3, x4)
def Xi_Sg_resolve_0 : List Ex := [{ out := .exit 0, st := { env := [(8, .ref 8 [])], objs := [(8, false, .own 1)] } }]
def Si_Sg_resolve_0 : SP := { env := [(5, .ptr 5 [] none), (6, .ro false 1), (7, .int .i64), (8, .ref 8 []), (22, .ro false 2), (23, .int .i64), (24, .int .i64)], objs := [(5, true, .agg [.int .i64, .str]), (8, false, .own 1)] }
noncomputable def Li_Sg_resolve_0 (x0 : List AVal) (x1 : Int) (x2 : List AVal) (x3 : Int) (x4 : Int) (x5 : Int) (x6 : ByteArray) (x7 : List AVal) : Option (List AVal) := LpV ctx fn94 0 0 Xi_Sg_resolve_0 Si_Sg_resolve_0 (x0, x1, x2, x3, x4, x5, x6, x7)
def lsi_Sg_resolve : List LSig := [{ h := 0, X := Xi_Sg_resolve_0, Ss := [Si_Sg_resolve_0] }]
noncomputable def Fl_eqSEdgeS (x0 : List AVal) (x1 : List AVal) : Option (Bool) := FnV ctx 95 sgl_eqSEdgeS (x0, x1)
def Xl_eqSEdgeS_0 : List Ex := [{ out := .ret, st := { env := [(4, .bool)] } }, { out := .exit 0, st := { env := [] } }]
def Sl_eqSEdgeS_0 : SP := { env := [(0, .ro false 3), (1, .ro false 3), (5, .int .i64)] }
noncomputable def Ll_eqSEdgeS_0 (x0 : List AVal) (x1 : List AVal) (x2 : Int) : Option ((Bool) ⊕ (Unit)) := LpV ctx fn95 0 0 Xl_eqSEdgeS_0 Sl_eqSEdgeS_0 (x0, x1, x2)
def lsl_eqSEdgeS : List LSig := [{ h := 0, X := Xl_eqSEdgeS_0, Ss := [Sl_eqSEdgeS_0] }]
noncomputable def Fl_eqSpotS (x0 : List AVal) (x1 : List AVal) : Option (Bool) := FnV ctx 96 sgl_eqSpotS (x0, x1)
def Xl_eqSpotS_0 : List Ex := [{ out := .ret, st := { env := [(4, .bool)] } }, { out := .exit 0, st := { env := [] } }]
def Sl_eqSpotS_0 : SP := { env := [(0, .ro false 2), (1, .ro false 2), (5, .int .i64)] }
noncomputable def Ll_eqSpotS_0 (x0 : List AVal) (x1 : List AVal) (x2 : Int) : Option ((Bool) ⊕ (Unit)) := LpV ctx fn96 0 0 Xl_eqSpotS_0 Sl_eqSpotS_0 (x0, x1, x2)
def lsl_eqSpotS : List LSig := [{ h := 0, X := Xl_eqSpotS_0, Ss := [Sl_eqSpotS_0] }]
noncomputable def Fl_markSEdgeS (x0 : Int) (x1 : List AVal) : Option (Int × List AVal) := FnV ctx 97 sgl_markSEdgeS (x0, x1)
def Xl_markSEdgeS_0 : List Ex := [{ out := .exit 0, st := { env := [(1, .int .i64)], objs := [(2000000, false, .own 3)] } }]
def Sl_markSEdgeS_0 : SP := { env := [(0, .ref 2000000 []), (1, .int .i64), (5, .int .i64)], objs := [(2000000, false, .own 3)] }
noncomputable def Ll_markSEdgeS_0 (x0 : Int) (x1 : Int) (x2 : List AVal) : Option (Int × List AVal) := LpV ctx fn97 1 0 Xl_markSEdgeS_0 Sl_markSEdgeS_0 (x0, x1, x2)
def lsl_markSEdgeS : List LSig := [{ h := 0, X := Xl_markSEdgeS_0, Ss := [Sl_markSEdgeS_0] }]
noncomputable def Fl_markSpotS (x0 : Int) (x1 : List AVal) : Option (Int × List AVal) := FnV ctx 98 sgl_markSpotS (x0, x1)
def Xl_markSpotS_0 : List Ex := [{ out := .exit 0, st := { env := [(1, .int .i64)], objs := [(2000000, false, .own 2)] } }]
def Sl_markSpotS_0 : SP := { env := [(0, .ref 2000000 []), (1, .int .i64), (5, .int .i64)], objs := [(2000000, false, .own 2)] }
noncomputable def Ll_markSpotS_0 (x0 : Int) (x1 : Int) (x2 : List AVal) : Option (Int × List AVal) := LpV ctx fn98 1 0 Xl_markSpotS_0 Sl_markSpotS_0 (x0, x1, x2)
def lsl_markSpotS : List LSig := [{ h := 0, X := Xl_markSpotS_0, Ss := [Sl_markSpotS_0] }]
noncomputable def Fl_szSpot (x0 : Int) (x1 : ByteArray) (x2 : Int) : Option (Int) := FnV ctx 168 sgl_szSpot (x0, x1, x2)
def lsl_szSpot : List LSig := []
noncomputable def Fl_toSEdge (x0 : Int) (x1 : Int) (x2 : Int) : Option (Int × Int × Int) := FnV ctx 172 sgl_toSEdge (x0, x1, x2)
def lsl_toSEdge : List LSig := []
noncomputable def Fl_toSpot (x0 : Int) (x1 : ByteArray) : Option (Int × ByteArray) := FnV ctx 173 sgl_toSpot (x0, x1)
def lsl_toSpot : List LSig := []
noncomputable def Fs_l12Spots (x0 : List AVal) (x1 : Int) : Option (Bool) := FnV ctx 169 sgs_l12Spots (x0, x1)
def Xs_l12Spots_0 : List Ex := [{ out := .ret, st := { env := [(4, .bool)] } }, { out := .exit 0, st := { env := [] } }]
def Ss_l12Spots_0 : SP := { env := [(0, .ro false 2), (1, .int .i64), (5, .int .i64)] }
noncomputable def Ls_l12Spots_0 (x0 : List AVal) (x1 : Int) (x2 : Int) : Option ((Bool) ⊕ (Unit)) := LpV ctx fn169 0 0 Xs_l12Spots_0 Ss_l12Spots_0 (x0, x1, x2)
def lss_l12Spots : List LSig := [{ h := 0, X := Xs_l12Spots_0, Ss := [Ss_l12Spots_0] }]
noncomputable def Fs_l12In (x0 : Int) (x1 : List AVal) (x2 : List AVal) (x3 : List AVal) (x4 : List AVal) (x5 : ByteArray) : Option (List AVal) := FnV ctx 170 sgs_l12In (x0, x1, x2, x3, x4, x5)
def Xs_l12In_0 : List Ex := [{ out := .exit 0, st := { env := [(7, .ref 7 [])], objs := [(7, false, .own 1)] } }]
def Ss_l12In_0 : SP := { env := [(1, .ro false 1), (2, .str), (3, .ptr 3 [] none), (7, .ref 7 []), (8, .int .i64)], objs := [(3, true, .agg [.int .i64, .ro false 3, .ro false 2, .ro false 2]), (7, false, .own 1)] }
noncomputable def Ls_l12In_0 (x0 : List AVal) (x1 : ByteArray) (x2 : Int) (x3 : Int) (x4 : List AVal) (x5 : List AVal) (x6 : List AVal) (x7 : List AVal) : Option (List AVal) := LpV ctx fn170 0 0 Xs_l12In_0 Ss_l12In_0 (x0, x1, x2, x3, x4, x5, x6, x7)
def lss_l12In : List LSig := [{ h := 0, X := Xs_l12In_0, Ss := [Ss_l12In_0] }]
noncomputable def Fs_l12Behind (x0 : Int) (x1 : List AVal) (x2 : List AVal) (x3 : List AVal) (x4 : List AVal) (x5 : Int) : Option (List AVal) := FnV ctx 171 sgs_l12Behind (x0, x1, x2, x3, x4, x5)
def Xs_l12Behind_0 : List Ex := [{ out := .exit 0, st := { env := [(7, .ref 7 [])], objs := [(7, false, .own 1)] } }]
def Ss_l12Behind_0 : SP := { env := [(1, .ro false 1), (2, .int .i64), (3, .ptr 3 [] none), (7, .ref 7 []), (8, .int .i64)], objs := [(3, true, .agg [.int .i64, .ro false 3, .ro false 2, .ro false 2]), (7, false, .own 1)] }
noncomputable def Ls_l12Behind_0 (x0 : List AVal) (x1 : Int) (x2 : Int) (x3 : Int) (x4 : List AVal) (x5 : List AVal) (x6 : List AVal) (x7 : List AVal) : Option (List AVal) := LpV ctx fn171 0 0 Xs_l12Behind_0 Ss_l12Behind_0 (x0, x1, x2, x3, x4, x5, x6, x7)
def lss_l12Behind : List LSig := [{ h := 0, X := Xs_l12Behind_0, Ss := [Ss_l12Behind_0] }]
noncomputable def Fi_SgOK_1 (x0 : Int) (x1 : Int) (x2 : List AVal) (x3 : List AVal) (x4 : List AVal) : Option (Bool × Int × List AVal × List AVal × List AVal) := FnV ctx 174 sgi_SgOK_1 (x0, x1, x2, x3, x4)
def lsi_SgOK_1 : List LSig := []
noncomputable def Fi_Sg_steps (x0 : Int) (x1 : List AVal) (x2 : List AVal) (x3 : List AVal) (x4 : Int) : Option (List AVal) := FnV ctx 175 sgi_Sg_steps (x0, x1, x2, x3, x4)
def Xi_Sg_steps_0 : List Ex := [{ out := .exit 0, st := { env := [(1, .int .i64), (2, .ptr 2 [] none), (5, .ptr 5 [] none), (6, .ref 6 [])], objs := [(2, true, .agg [.int .i64, .ro false 3, .ro false 2, .ro false 2]), (5, true, .own 1), (6, false, .own 1)] } }]
def Si_Sg_steps_0 : SP := { env := [(1, .int .i64), (2, .ptr 2 [] none), (5, .ptr 5 [] none), (6, .ref 6 []), (21, .int .i64), (22, .int .i64)], objs := [(2, true, .agg [.int .i64, .ro false 3, .ro false 2, .ro false 2]), (5, true, .own 1), (6, false, .own 1)] }
noncomputable def Li_Sg_steps_0 (x0 : Int) (x1 : Int) (x2 : Int) (x3 : Int) (x4 : List AVal) (x5 : List AVal) (x6 : List AVal) (x7 : List AVal) (x8 : List AVal) : Option (Int × Int × List AVal × List AVal × List AVal × List AVal × List AVal) := LpV ctx fn175 0 0 Xi_Sg_steps_0 Si_Sg_steps_0 (x0, x1, x2, x3, x4, x5, x6, x7, x8)
def Xi_Sg_steps_1 : List Ex := [{ out := .exit 2, st := { env := [(5, .ptr 5 [] none)], objs := [(5, true, .own 1)] } }]
def Si_Sg_steps_1 : SP := { env := [(2, .ptr 2 [] none), (5, .ptr 5 [] none), (6, .ref 6 []), (8, .clo 221 [.ptr 5 [] none]), (9, .ref 9 []), (10, .int .i64)], objs := [(2, true, .agg [.int .i64, .ro false 3, .ro false 2, .ro false 2]), (5, true, .own 1), (6, false, .own 1), (9, false, .own 1)] }
noncomputable def Li_Sg_steps_1 (x0 : Int) (x1 : Int) (x2 : List AVal) (x3 : List AVal) (x4 : List AVal) (x5 : List AVal) (x6 : List AVal) (x7 : List AVal) : Option (List AVal) := LpV ctx fn175 0 1 Xi_Sg_steps_1 Si_Sg_steps_1 (x0, x1, x2, x3, x4, x5, x6, x7)
def Xi_Sg_steps_2 : List Ex := [{ out := .exit 4, st := { env := [(2, .ptr 2 [] none), (5, .ptr 5 [] none), (6, .ref 6 []), (8, .clo 221 [.ptr 5 [] none]), (9, .ref 9 []), (10, .int .i64)], objs := [(2, true, .agg [.int .i64, .ro false 3, .ro false 2, .ro false 2]), (5, true, .own 1), (6, false, .own 1), (9, false, .own 1)] } }]
def Si_Sg_steps_2 : SP := { env := [(2, .ptr 2 [] none), (5, .ptr 5 [] none), (6, .ref 6 []), (8, .clo 221 [.ptr 5 [] none]), (9, .ref 9 []), (10, .int .i64), (11, .int .i64), (56, .ro false 3), (57, .int .i64), (58, .int .i64)], objs := [(2, true, .agg [.int .i64, .ro false 3, .ro false 2, .ro false 2]), (5, true, .own 1), (6, false, .own 1), (9, false, .own 1)] }
noncomputable def Li_Sg_steps_2 (x0 : Int) (x1 : Int) (x2 : List AVal) (x3 : Int) (x4 : Int) (x5 : Int) (x6 : List AVal) (x7 : List AVal) (x8 : List AVal) (x9 : List AVal) (x10 : List AVal) (x11 : List AVal) : Option (Int × Int × List AVal × List AVal × List AVal × List AVal × List AVal × List AVal) := LpV ctx fn175 0 2 Xi_Sg_steps_2 Si_Sg_steps_2 (x0, x1, x2, x3, x4, x5, x6, x7, x8, x9, x10, x11)
def lsi_Sg_steps : List LSig := [{ h := 0, X := Xi_Sg_steps_0, Ss := [Si_Sg_steps_0] }, { h := 1, X := Xi_Sg_steps_1, Ss := [Si_Sg_steps_1] }, { h := 2, X := Xi_Sg_steps_2, Ss := [Si_Sg_steps_2] }]
noncomputable def Fl_eqSEdge (x0 : Int) (x1 : Int) (x2 : Int) (x3 : Int) (x4 : Int) (x5 : Int) : Option (Bool) := FnV ctx 176 sgl_eqSEdge (x0, x1, x2, x3, x4, x5)
def lsl_eqSEdge : List LSig := []
noncomputable def Fl_eqSpot (x0 : Int) (x1 : ByteArray) (x2 : Int) (x3 : ByteArray) : Option (Bool) := FnV ctx 177 sgl_eqSpot (x0, x1, x2, x3)
def lsl_eqSpot : List LSig := []
noncomputable def Fi_Sg_steps_1 (x0 : Int) (x1 : Int) (x2 : List AVal) : Option (List AVal) := FnV ctx 221 sgi_Sg_steps_1 (x0, x1, x2)
def lsi_Sg_steps_1 : List LSig := []
noncomputable def Fl_FnExactRename (x0 : Int) (x1 : List AVal) (x2 : List AVal) (x3 : List AVal) (x4 : Int) (x5 : ByteArray) : Option (Bool) := FnV ctx 9 sgl_FnExactRename (x0, x1, x2, x3, x4, x5)
def lsl_FnExactRename : List LSig := []
noncomputable def Fs_Rename (x0 : Int) (x1 : List AVal) (x2 : List AVal) (x3 : List AVal) (x4 : Int) (x5 : ByteArray) : Option (Int × List AVal × List AVal × List AVal × Int) := FnV ctx 49 sgs_Rename (x0, x1, x2, x3, x4, x5)
def Xs_Rename_0 : List Ex := [{ out := .ret, st := { env := [(6, .ptr 6 [] none), (7, .int .i64)], objs := [(6, true, .agg [.int .i64, .own 3, .own 2, .own 2])] } }, { out := .exit 0, st := { env := [(3, .ptr 3 [] none), (6, .ptr 6 [] none), (8, .ptr 8 [] none)], objs := [(3, true, .agg [.int .i64, .ro false 3, .ro false 2, .ro false 2]), (6, true, .agg [.int .i64, .own 3, .own 2, .own 2]), (8, true, .agg [.int .i64, .own 3, .own 2, .own 2])] } }]
def Ss_Rename_0 : SP := { env := [(1, .int .i64), (2, .str), (3, .ptr 3 [] none), (6, .ptr 6 [] none), (8, .ptr 8 [] none), (9, .int .i64)], objs := [(3, true, .agg [.int .i64, .ro false 3, .ro false 2, .ro false 2]), (6, true, .agg [.int .i64, .own 3, .own 2, .own 2]), (8, true, .agg [.int .i64, .own 3, .own 2, .own 2])] }
noncomputable def Ls_Rename_0 (x0 : Int) (x1 : ByteArray) (x2 : Int) (x3 : Int) (x4 : List AVal) (x5 : List AVal) (x6 : List AVal) (x7 : Int) (x8 : List AVal) (x9 : List AVal) (x10 : List AVal) (x11 : Int) (x12 : List AVal) (x13 : List AVal) (x14 : List AVal) : Option ((Int × Int × List AVal × List AVal × List AVal) ⊕ (Int × List AVal × List AVal × List AVal × Int × List AVal × List AVal × List AVal × Int × List AVal × List AVal × List AVal)) := LpV ctx fn49 0 0 Xs_Rename_0 Ss_Rename_0 (x0, x1, x2, x3, x4, x5, x6, x7, x8, x9, x10, x11, x12, x13, x14)
def Xs_Rename_1 : List Ex := [{ out := .ret, st := { env := [(6, .ptr 6 [] none), (7, .int .i64)], objs := [(6, true, .agg [.int .i64, .own 3, .own 2, .own 2])] } }, { out := .exit 2, st := { env := [(6, .ptr 6 [] none), (8, .ptr 8 [] none)], objs := [(6, true, .agg [.int .i64, .own 3, .own 2, .own 2]), (8, true, .agg [.int .i64, .own 3, .own 2, .own 2])] } }, { out := .exit 2, st := { env := [(6, .ptr 6 [] none), (8, .ptr 8 [] none)], objs := [(6, true, .agg [.int .i64, .own 3, .own 2, .own 2]), (8, true, .agg [.int .i64, .ro false 3, .ro false 2, .ro false 2])] } }]
def Ss_Rename_1 : SP := { env := [(3, .ptr 3 [] none), (6, .ptr 6 [] none), (8, .ptr 8 [] none), (11, .int .i64)], objs := [(3, true, .agg [.int .i64, .ro false 3, .ro false 2, .ro false 2]), (6, true, .agg [.int .i64, .own 3, .own 2, .own 2]), (8, true, .agg [.int .i64, .own 3, .own 2, .own 2])] }
noncomputable def Ls_Rename_1 (x0 : Int) (x1 : Int) (x2 : List AVal) (x3 : List AVal) (x4 : List AVal) (x5 : Int) (x6 : List AVal) (x7 : List AVal) (x8 : List AVal) (x9 : Int) (x10 : List AVal) (x11 : List AVal) (x12 : List AVal) : Option ((Int × Int × List AVal × List AVal × List AVal) ⊕ (Int × List AVal × List AVal × List AVal × Int × List AVal × List AVal × List AVal) ⊕ (Int × List AVal × List AVal × List AVal × Int × List AVal × List AVal × List AVal)) := LpV ctx fn49 0 1 Xs_Rename_1 Ss_Rename_1 (x0, x1, x2, x3, x4, x5, x6, x7, x8, x9, x10, x11, x12)
def Ss_Rename_1s1 : SP := { env := [(3, .ptr 3 [] none), (6, .ptr 6 [] none), (8, .ptr 8 [] none), (11, .int .i64)], objs := [(3, true, .agg [.int .i64, .ro false 3, .ro false 2, .ro false 2]), (6, true, .agg [.int .i64, .own 3, .own 2, .own 2]), (8, true, .agg [.int .i64, .ro false 3, .ro false 2, .ro false 2])] }
noncomputable def Ls_Rename_1s1 (x0 : Int) (x1 : Int) (x2 : List AVal) (x3 : List AVal) (x4 : List AVal) (x5 : Int) (x6 : List AVal) (x7 : List AVal) (x8 : List AVal) (x9 : Int) (x10 : List AVal) (x11 : List AVal) (x12 : List AVal) : Option ((Int × Int × List AVal × List AVal × List AVal) ⊕ (Int × List AVal × List AVal × List AVal × Int × List AVal × List AVal × List AVal) ⊕ (Int × List AVal × List AVal × List AVal × Int × List AVal × List AVal × List AVal)) := LpV ctx fn49 0 1 Xs_Rename_1 Ss_Rename_1s1 (x0, x1, x2, x3, x4, x5, x6, x7, x8, x9, x10, x11, x12)
def lss_Rename : List LSig := [{ h := 0, X := Xs_Rename_0, Ss := [Ss_Rename_0] }, { h := 1, X := Xs_Rename_1, Ss := [Ss_Rename_1, Ss_Rename_1s1] }]
noncomputable def Fi_Rename (x0 : Int) (x1 : List AVal) (x2 : List AVal) (x3 : List AVal) (x4 : Int) (x5 : ByteArray) : Option (Int × List AVal × List AVal × List AVal × Int) := FnV ctx 50 sgi_Rename (x0, x1, x2, x3, x4, x5)
def Xi_Rename_0 : List Ex := [{ out := .ret, st := { env := [(6, .ptr 6 [] none), (7, .int .i64)], objs := [(6, true, .agg [.int .i64, .own 3, .own 2, .own 2])] } }, { out := .exit 0, st := { env := [(3, .ptr 3 [] none), (6, .ptr 6 [] none), (8, .ptr 8 [] none)], objs := [(3, true, .agg [.int .i64, .ro false 3, .ro false 2, .ro false 2]), (6, true, .agg [.int .i64, .own 3, .own 2, .own 2]), (8, true, .agg [.int .i64, .own 3, .own 2, .own 2])] } }]
def Si_Rename_0 : SP := { env := [(1, .int .i64), (2, .str), (3, .ptr 3 [] none), (6, .ptr 6 [] none), (8, .ptr 8 [] none), (51, .int .i64), (52, .int .i64)], objs := [(3, true, .agg [.int .i64, .ro false 3, .ro false 2, .ro false 2]), (6, true, .agg [.int .i64, .own 3, .own 2, .own 2]), (8, true, .agg [.int .i64, .own 3, .own 2, .own 2])] }
noncomputable def Li_Rename_0 (x0 : Int) (x1 : ByteArray) (x2 : Int) (x3 : Int) (x4 : Int) (x5 : List AVal) (x6 : List AVal) (x7 : List AVal) (x8 : Int) (x9 : List AVal) (x10 : List AVal) (x11 : List AVal) (x12 : Int) (x13 : List AVal) (x14 : List AVal) (x15 : List AVal) : Option ((Int × Int × List AVal × List AVal × List AVal) ⊕ (Int × List AVal × List AVal × List AVal × Int × List AVal × List AVal × List AVal × Int × List AVal × List AVal × List AVal)) := LpV ctx fn50 0 0 Xi_Rename_0 Si_Rename_0 (x0, x1, x2, x3, x4, x5, x6, x7, x8, x9, x10, x11, x12, x13, x14, x15)
def Xi_Rename_1 : List Ex := [{ out := .ret, st := { env := [(6, .ptr 6 [] none), (7, .int .i64)], objs := [(6, true, .agg [.int .i64, .own 3, .own 2, .own 2])] } }, { out := .exit 2, st := { env := [(6, .ptr 6 [] none), (8, .ptr 8 [] none)], objs := [(6, true, .agg [.int .i64, .own 3, .own 2, .own 2]), (8, true, .agg [.int .i64, .own 3, .own 2, .own 2])] } }]
def Si_Rename_1 : SP := { env := [(3, .ptr 3 [] none), (6, .ptr 6 [] none), (8, .ptr 8 [] none), (74, .int .i64), (75, .int .i64)], objs := [(3, true, .agg [.int .i64, .ro false 3, .ro false 2, .ro false 2]), (6, true, .agg [.int .i64, .own 3, .own 2, .own 2]), (8, true, .agg [.int .i64, .own 3, .own 2, .own 2])] }
noncomputable def Li_Rename_1 (x0 : Int) (x1 : Int) (x2 : Int) (x3 : List AVal) (x4 : List AVal) (x5 : List AVal) (x6 : Int) (x7 : List AVal) (x8 : List AVal) (x9 : List AVal) (x10 : Int) (x11 : List AVal) (x12 : List AVal) (x13 : List AVal) : Option ((Int × Int × List AVal × List AVal × List AVal) ⊕ (Int × List AVal × List AVal × List AVal × Int × List AVal × List AVal × List AVal)) := LpV ctx fn50 0 1 Xi_Rename_1 Si_Rename_1 (x0, x1, x2, x3, x4, x5, x6, x7, x8, x9, x10, x11, x12, x13)
def lsi_Rename : List LSig := [{ h := 0, X := Xi_Rename_0, Ss := [Si_Rename_0] }, { h := 1, X := Xi_Rename_1, Ss := [Si_Rename_1] }]
noncomputable def Fl_heldSg (x0 : Int) (x1 : List AVal) (x2 : List AVal) (x3 : List AVal) (x4 : Int) : Option (Int) := FnV ctx 51 sgl_heldSg (x0, x1, x2, x3, x4)
def lsl_heldSg : List LSig := []
noncomputable def Fs_l12Has (x0 : List AVal) (x1 : Int) : Option (Bool) := FnV ctx 99 sgs_l12Has (x0, x1)
def Xs_l12Has_0 : List Ex := [{ out := .ret, st := { env := [(4, .bool)] } }, { out := .exit 0, st := { env := [] } }]
def Ss_l12Has_0 : SP := { env := [(0, .ro false 1), (1, .int .i64), (5, .int .i64)] }
noncomputable def Ls_l12Has_0 (x0 : List AVal) (x1 : Int) (x2 : Int) : Option ((Bool) ⊕ (Unit)) := LpV ctx fn99 0 0 Xs_l12Has_0 Ss_l12Has_0 (x0, x1, x2)
def lss_l12Has : List LSig := [{ h := 0, X := Xs_l12Has_0, Ss := [Ss_l12Has_0] }]
noncomputable def Fs_l05SameInts (x0 : List AVal) (x1 : List AVal) : Option (Bool) := FnV ctx 125 sgs_l05SameInts (x0, x1)
def Xs_l05SameInts_0 : List Ex := [{ out := .ret, st := { env := [(4, .bool)] } }, { out := .exit 0, st := { env := [] } }]
def Ss_l05SameInts_0 : SP := { env := [(0, .ro false 1), (1, .ro false 1), (5, .int .i64)] }
noncomputable def Ls_l05SameInts_0 (x0 : List AVal) (x1 : List AVal) (x2 : Int) : Option ((Bool) ⊕ (Unit)) := LpV ctx fn125 0 0 Xs_l05SameInts_0 Ss_l05SameInts_0 (x0, x1, x2)
def lss_l05SameInts : List LSig := [{ h := 0, X := Xs_l05SameInts_0, Ss := [Ss_l05SameInts_0] }]
noncomputable def Fslices_Contains_int_int (x0 : List AVal) (x1 : Int) : Option (Bool) := FnV ctx 126 sgslices_Contains_int_int (x0, x1)
def lsslices_Contains_int_int : List LSig := []
noncomputable def Fslices_Equal_int_int (x0 : List AVal) (x1 : List AVal) : Option (Bool) := FnV ctx 127 sgslices_Equal_int_int (x0, x1)
def Xslices_Equal_int_int_0 : List Ex := [{ out := .ret, st := { env := [(4, .bool)] } }, { out := .exit 0, st := { env := [] } }]
def Sslices_Equal_int_int_0 : SP := { env := [(0, .ro false 1), (1, .ro false 1), (12, .int .i64), (13, .int .i64)] }
noncomputable def Lslices_Equal_int_int_0 (x0 : List AVal) (x1 : List AVal) (x2 : Int) (x3 : Int) : Option ((Bool) ⊕ (Unit)) := LpV ctx fn127 0 0 Xslices_Equal_int_int_0 Sslices_Equal_int_int_0 (x0, x1, x2, x3)
def lsslices_Equal_int_int : List LSig := [{ h := 0, X := Xslices_Equal_int_int_0, Ss := [Sslices_Equal_int_int_0] }]
noncomputable def Fl_heldSEdgeS (x0 : List AVal) (x1 : Int) : Option (Int) := FnV ctx 128 sgl_heldSEdgeS (x0, x1)
def Xl_heldSEdgeS_0 : List Ex := [{ out := .ret, st := { env := [(4, .int .i64)] } }, { out := .exit 0, st := { env := [(1, .int .i64)] } }]
def Sl_heldSEdgeS_0 : SP := { env := [(0, .ro false 3), (1, .int .i64), (5, .int .i64)] }
noncomputable def Ll_heldSEdgeS_0 (x0 : List AVal) (x1 : Int) (x2 : Int) : Option ((Int) ⊕ (Int)) := LpV ctx fn128 0 0 Xl_heldSEdgeS_0 Sl_heldSEdgeS_0 (x0, x1, x2)
def lsl_heldSEdgeS : List LSig := [{ h := 0, X := Xl_heldSEdgeS_0, Ss := [Sl_heldSEdgeS_0] }]
noncomputable def Fl_heldSpotS (x0 : List AVal) (x1 : Int) : Option (Int) := FnV ctx 129 sgl_heldSpotS (x0, x1)
def Xl_heldSpotS_0 : List Ex := [{ out := .ret, st := { env := [(4, .int .i64)] } }, { out := .exit 0, st := { env := [(1, .int .i64)] } }]
def Sl_heldSpotS_0 : SP := { env := [(0, .ro false 2), (1, .int .i64), (5, .int .i64)] }
noncomputable def Ll_heldSpotS_0 (x0 : List AVal) (x1 : Int) (x2 : Int) : Option ((Int) ⊕ (Int)) := LpV ctx fn129 0 0 Xl_heldSpotS_0 Sl_heldSpotS_0 (x0, x1, x2)
def lsl_heldSpotS : List LSig := [{ h := 0, X := Xl_heldSpotS_0, Ss := [Sl_heldSpotS_0] }]
noncomputable def Fslices_Index_int_int (x0 : List AVal) (x1 : Int) : Option (Int) := FnV ctx 186 sgslices_Index_int_int (x0, x1)
def Xslices_Index_int_int_0 : List Ex := [{ out := .ret, st := { env := [(4, .int .i64)] } }, { out := .exit 0, st := { env := [] } }]
def Sslices_Index_int_int_0 : SP := { env := [(0, .ro false 1), (1, .int .i64), (7, .int .i64), (8, .int .i64)] }
noncomputable def Lslices_Index_int_int_0 (x0 : List AVal) (x1 : Int) (x2 : Int) (x3 : Int) : Option ((Int) ⊕ (Unit)) := LpV ctx fn186 0 0 Xslices_Index_int_int_0 Sslices_Index_int_int_0 (x0, x1, x2, x3)
def lsslices_Index_int_int : List LSig := [{ h := 0, X := Xslices_Index_int_int_0, Ss := [Sslices_Index_int_int_0] }]
end Go.Proofs.Ytfniojpjlachoaa
