/- What the functions of the laws are given and give back, and their names on values; no condition. -/
import Derived.Test.YtlaalinfmhiehaaVmd
import Derived.Test.YtlaalinfmhiehaaVC
import Derived.Tactics
namespace Go.Proofs.Ytlaalinfmhiehaa
open Go.VK AVal

abbrev ty_int64 : Nat := 2
abbrev ty_int : Nat := 3
abbrev ty_bool : Nat := 4
abbrev ty_uint8 : Nat := 5
abbrev ty_abi_BoundsErrorCode : Nat := 6
abbrev ty_struct_x_int64_y_int_signed_bool_code_abi_BoundsErrorCode : Nat := 7
abbrev ty_runtime_boundsError : Nat := 8
abbrev ty_string : Nat := 9
abbrev ty_runtime_errorString : Nat := 10
abbrev ty_runtime_plainError : Nat := 11
abbrev ty_uintptr : Nat := 12
abbrev ty_struct_msg_string_addr_uintptr : Nat := 13
abbrev ty_runtime_errorAddressString : Nat := 14
abbrev ty_P_runtime_TypeAssertionError : Nat := 15
abbrev ty_P_runtime_PanicNilError : Nat := 16
abbrev ty_P_abi_Type : Nat := 17
abbrev ty_struct_typ_P_abi_Type : Nat := 18
abbrev ty_maps_unhashableTypeError : Nat := 19
abbrev ty_int32 : Nat := 21
abbrev ty_struct_At_int_Del_int_Ins_string : Nat := 23
abbrev ty_laws_TextEdit : Nat := 24
abbrev ty_impl_TextEdit : Nat := 28
abbrev ty_S_int : Nat := 31
abbrev ty_S_laws_Edit : Nat := 32
abbrev ty_S_impl_Edit : Nat := 37
abbrev ty_S_laws_Tree : Nat := 44
abbrev ty_struct_Name_string_Text_string_Leaf_bool_Kids_S_laws_Tree : Nat := 45
abbrev ty_laws_Tree : Nat := 46
abbrev ty_S_impl_Tree : Nat := 49
abbrev ty_struct_Name_string_Text_string_Leaf_bool_Kids_S_impl_Tree : Nat := 50
abbrev ty_impl_Tree : Nat := 51
abbrev ty_S_S_int : Nat := 57
abbrev ty_struct_Class_S_int_Next_S_S_int_Accept_S_int : Nat := 58
abbrev ty_laws_Dfa : Nat := 59
abbrev ty_impl_Dfa : Nat := 63
abbrev ty_S_laws_SEdge : Nat := 68
abbrev ty_S_laws_Spot : Nat := 69
abbrev ty_struct_Scopes_int_Edges_S_laws_SEdge_Decls_S_laws_Spot_Refs_S_laws_Spot : Nat := 70
abbrev ty_laws_Sg : Nat := 71
abbrev ty_S_impl_SEdge : Nat := 74
abbrev ty_S_impl_Spot : Nat := 75
abbrev ty_struct_Scopes_int_Edges_S_impl_SEdge_Decls_S_impl_Spot_Refs_S_impl_Spot : Nat := 76
abbrev ty_impl_Sg : Nat := 77
abbrev ty_S_laws_LNode : Nat := 85
abbrev ty_S_impl_LNode : Nat := 88
abbrev ty_struct_Kind_int_Term_int : Nat := 95
abbrev ty_impl_Edit : Nat := 96
abbrev ty_laws_Edit : Nat := 98
abbrev ty_P_int : Nat := 104
abbrev ty_struct_From_int_To_int_Kind_int : Nat := 116
abbrev ty_impl_SEdge : Nat := 117
abbrev ty_S_S_impl_Spot : Nat := 121
abbrev ty_struct_Scope_int_Name_string : Nat := 122
abbrev ty_impl_Spot : Nat := 123
abbrev ty_struct_Kind_int_S_string_N_int_Kids_S_int : Nat := 134
abbrev ty_laws_LNode : Nat := 135
abbrev ty_impl_LNode : Nat := 137
abbrev ty_map_int_int : Nat := 140
abbrev ty_P_strings_Builder : Nat := 144
abbrev ty_S_uint8 : Nat := 145
abbrev ty_struct_addr_P_strings_Builder_buf_S_uint8 : Nat := 146
abbrev ty_strings_Builder : Nat := 147
abbrev ty_error : Nat := 149
abbrev ty_laws_Spot : Nat := 154
abbrev ty_laws_SEdge : Nat := 156
abbrev ty_map_string_int : Nat := 161
abbrev ty_P_uint8 : Nat := 164
abbrev ty_uint : Nat := 172
abbrev ty_uint32 : Nat := 173
abbrev ty_struct_interface_P_abi_Type_concrete_P_abi_Type_asserted_P_abi_Type_missingMethod_string : Nat := 176
abbrev ty_runtime_TypeAssertionError : Nat := 177
abbrev ty_abi_TFlag : Nat := 182
abbrev ty_abi_Kind : Nat := 183
abbrev ty_abi_NameOff : Nat := 185
abbrev ty_abi_TypeOff : Nat := 186
abbrev ty_struct_Size_uintptr_PtrBytes_uintptr_Hash_uint32_TFlag_abi_TFlag_Align_uint8_FieldAlign_uint8_Kind_abi_Kind_Equal_func_unsafe_Pointer_unsafe_Pointer_bool_GCData_P_uint8_Str_abi_NameOff_PtrToThis_abi_TypeOff : Nat := 187
abbrev ty_abi_Type : Nat := 188
abbrev n_l_FnExactConstants : Nat := 3
abbrev n_l_FnExactEdited : Nat := 4
abbrev n_l_FnExactApply : Nat := 5
abbrev n_l_FnExactTreeOK : Nat := 6
abbrev n_l_FnExactTreeSize : Nat := 7
abbrev n_l_FnExactDfaRun : Nat := 8
abbrev n_l_FnExactTreeYield : Nat := 9
abbrev n_l_FnExactSgOK : Nat := 10
abbrev n_l_FnExactTermOK : Nat := 11
abbrev n_l_FnExactTreeAt : Nat := 12
abbrev n_l_FnExactLayoutOK : Nat := 13
abbrev n_l_FnExactTreePut : Nat := 14
/-- laws.FnExactEdited -/
def sgl_FnExactEdited : Sig := { i := { vs := [.str, .agg [.int .i64, .int .i64, .str]] }, o := { vs := [.bool] } }
/-- laws.szTextEdit -/
def sgl_szTextEdit : Sig := { i := { vs := [.agg [.int .i64, .int .i64, .str], .int .i64] }, o := { vs := [.int .i64] } }
/-- laws.toTextEdit -/
def sgl_toTextEdit : Sig := { i := { vs := [.agg [.int .i64, .int .i64, .str]] }, o := { vs := [.agg [.int .i64, .int .i64, .str]] } }
/-- spec.Edited -/
def sgs_Edited : Sig := { i := { vs := [.str, .agg [.int .i64, .int .i64, .str]] }, o := { vs := [.str, .int .i64] } }
/-- impl.Edited -/
def sgi_Edited : Sig := { i := { vs := [.str, .agg [.int .i64, .int .i64, .str]] }, o := { vs := [.str, .int .i64] } }
/-- spec.l01Between -/
def sgs_l01Between : Sig := { i := { vs := [.int .i64, .int .i64, .int .i64] }, o := { vs := [.bool] } }
/-- laws.FnExactApply -/
def sgl_FnExactApply : Sig := { i := { vs := [.ro false 1, .ro false 2] }, o := { vs := [.bool] } }
/-- laws.szEditS -/
def sgl_szEditS : Sig := { i := { vs := [.ro false 2, .int .i64] }, o := { vs := [.int .i64] } }
/-- laws.toIntS -/
def sgl_toIntS : Sig := { i := { vs := [.ro false 1] }, o := { vs := [.own 1] } }
/-- laws.toEditS -/
def sgl_toEditS : Sig := { i := { vs := [.ro false 2] }, o := { vs := [.own 2] } }
/-- spec.Apply -/
def sgs_Apply : Sig := { i := { vs := [.ro false 1, .ro false 2] }, o := { vs := [.ro false 1, .int .i64] } }
/-- impl.Apply -/
def sgi_Apply : Sig := { i := { vs := [.ro false 1, .ro false 2] }, o := { vs := [.own 1, .int .i64] } }
/-- laws.eqIntS -/
def sgl_eqIntS : Sig := { i := { vs := [.ro false 1, .ro false 1] }, o := { vs := [.bool] } }
/-- laws.eqEditS -/
def sgl_eqEditS : Sig := { i := { vs := [.ro false 2, .ro false 2] }, o := { vs := [.bool] } }
/-- laws.markIntS -/
def sgl_markIntS : Sig := { i := { vs := [.ref 0 [], .int .i64], os := [(false, .own 1)] }, o := { vs := [.int .i64], os := [(false, .own 1)] } }
/-- laws.markEditS -/
def sgl_markEditS : Sig := { i := { vs := [.ref 0 [], .int .i64], os := [(false, .own 2)] }, o := { vs := [.int .i64], os := [(false, .own 2)] } }
/-- laws.heldIntS -/
def sgl_heldIntS : Sig := { i := { vs := [.ro false 1, .int .i64] }, o := { vs := [.int .i64] } }
/-- laws.toEdit -/
def sgl_toEdit : Sig := { i := { vs := [.agg [.int .i64, .int .i64]] }, o := { vs := [.agg [.int .i64, .int .i64]] } }
/-- laws.eqEdit -/
def sgl_eqEdit : Sig := { i := { vs := [.agg [.int .i64, .int .i64], .agg [.int .i64, .int .i64]] }, o := { vs := [.bool] } }
/-- laws.FnExactTreeOK -/
def sgl_FnExactTreeOK : Sig := { i := { vs := [.agg [.str, .str, .bool, .ro false 4]] }, o := { vs := [.bool] } }
/-- laws.szTree -/
def sgl_szTree : Sig := { i := { vs := [.agg [.str, .str, .bool, .ro false 4], .int .i64] }, o := { vs := [.int .i64] } }
/-- laws.toTree -/
def sgl_toTree : Sig := { i := { vs := [.agg [.str, .str, .bool, .ro false 4]] }, o := { vs := [.agg [.str, .str, .bool, .own 4]] } }
/-- spec.TreeOK -/
def sgs_TreeOK : Sig := { i := { vs := [.agg [.str, .str, .bool, .ro false 4]] }, o := { vs := [.bool] } }
/-- impl.TreeOK -/
def sgi_TreeOK : Sig := { i := { vs := [.agg [.str, .str, .bool, .ro false 4]] }, o := { vs := [.bool] } }
/-- laws.eqTree -/
def sgl_eqTree : Sig := { i := { vs := [.agg [.str, .str, .bool, .ro false 4], .agg [.str, .str, .bool, .ro false 4]] }, o := { vs := [.bool] } }
/-- laws.szTreeS -/
def sgl_szTreeS : Sig := { i := { vs := [.ro false 4, .int .i64] }, o := { vs := [.int .i64] } }
/-- laws.toTreeS -/
def sgl_toTreeS : Sig := { i := { vs := [.ro false 4] }, o := { vs := [.own 4] } }
/-- spec.l01Room -/
def sgs_l01Room : Sig := { i := { vs := [.agg [.str, .str, .bool, .ro false 4], .int .i64, .int .i64] }, o := { vs := [.int .i64] } }
/-- spec.l01Right -/
def sgs_l01Right : Sig := { i := { vs := [.agg [.str, .str, .bool, .ro false 4]] }, o := { vs := [.bool] } }
/-- impl.measure -/
def sgi_measure : Sig := { i := { vs := [.agg [.str, .str, .bool, .ro false 4], .int .i64, .ptr 0 [] none, .ptr 1 [] none], os := [(true, .int .i64), (true, .int .i64)] }, o := { vs := [.bool], os := [(true, .int .i64), (true, .int .i64)] } }
/-- laws.eqTreeS -/
def sgl_eqTreeS : Sig := { i := { vs := [.ro false 4, .ro false 4] }, o := { vs := [.bool] } }
/-- spec.l01Name -/
def sgs_l01Name : Sig := { i := { vs := [.str] }, o := { vs := [.bool] } }
/-- impl.nameOK -/
def sgi_nameOK : Sig := { i := { vs := [.str] }, o := { vs := [.bool] } }
/-- spec.l01Letter -/
def sgs_l01Letter : Sig := { i := { vs := [.int .u8] }, o := { vs := [.bool] } }
/-- spec.l01NameByte -/
def sgs_l01NameByte : Sig := { i := { vs := [.int .u8] }, o := { vs := [.bool] } }
/-- impl.isLetter -/
def sgi_isLetter : Sig := { i := { vs := [.int .u8] }, o := { vs := [.bool] } }
/-- impl.inName -/
def sgi_inName : Sig := { i := { vs := [.int .u8] }, o := { vs := [.bool] } }
/-- spec.l01Digit -/
def sgs_l01Digit : Sig := { i := { vs := [.int .u8] }, o := { vs := [.bool] } }
/-- impl.isDigit -/
def sgi_isDigit : Sig := { i := { vs := [.int .u8] }, o := { vs := [.bool] } }
/-- laws.FnExactTreeSize -/
def sgl_FnExactTreeSize : Sig := { i := { vs := [.agg [.str, .str, .bool, .ro false 4]] }, o := { vs := [.bool] } }
/-- spec.TreeSize -/
def sgs_TreeSize : Sig := { i := { vs := [.agg [.str, .str, .bool, .ro false 4]] }, o := { vs := [.int .i64, .int .i64, .int .i64] } }
/-- impl.TreeSize -/
def sgi_TreeSize : Sig := { i := { vs := [.agg [.str, .str, .bool, .ro false 4]] }, o := { vs := [.int .i64, .int .i64, .int .i64] } }
/-- spec.l01Count -/
def sgs_l01Count : Sig := { i := { vs := [.agg [.str, .str, .bool, .ro false 4]] }, o := { vs := [.int .i64] } }
/-- spec.l01Deep -/
def sgs_l01Deep : Sig := { i := { vs := [.agg [.str, .str, .bool, .ro false 4]] }, o := { vs := [.int .i64] } }
/-- laws.FnExactDfaRun -/
def sgl_FnExactDfaRun : Sig := { i := { vs := [.agg [.ro false 1, .ro false 1, .ro false 1], .str, .int .i64] }, o := { vs := [.bool] } }
/-- laws.szDfa -/
def sgl_szDfa : Sig := { i := { vs := [.agg [.ro false 1, .ro false 1, .ro false 1], .int .i64] }, o := { vs := [.int .i64] } }
/-- laws.toDfa -/
def sgl_toDfa : Sig := { i := { vs := [.agg [.ro false 1, .ro false 1, .ro false 1]] }, o := { vs := [.agg [.own 1, .own 1, .own 1]] } }
/-- spec.DfaRun -/
def sgs_DfaRun : Sig := { i := { vs := [.agg [.ro false 1, .ro false 1, .ro false 1], .str, .int .i64] }, o := { vs := [.int .i64, .int .i64, .int .i64, .int .i64] } }
/-- impl.DfaRun -/
def sgi_DfaRun : Sig := { i := { vs := [.agg [.ro false 1, .ro false 1, .ro false 1], .str, .int .i64] }, o := { vs := [.int .i64, .int .i64, .int .i64, .int .i64] } }
/-- laws.eqDfa -/
def sgl_eqDfa : Sig := { i := { vs := [.agg [.ro false 1, .ro false 1, .ro false 1], .agg [.ro false 1, .ro false 1, .ro false 1]] }, o := { vs := [.bool] } }
/-- laws.szIntS -/
def sgl_szIntS : Sig := { i := { vs := [.ro false 1, .int .i64] }, o := { vs := [.int .i64] } }
/-- laws.szIntSS -/
def sgl_szIntSS : Sig := { i := { vs := [.ro false 1, .int .i64] }, o := { vs := [.int .i64] } }
/-- laws.toIntSS -/
def sgl_toIntSS : Sig := { i := { vs := [.ro false 1] }, o := { vs := [.own 1] } }
/-- spec.l02DfaOK -/
def sgs_l02DfaOK : Sig := { i := { vs := [.agg [.ro false 1, .ro false 1, .ro false 1]] }, o := { vs := [.bool] } }
/-- impl.dfaOK -/
def sgi_dfaOK : Sig := { i := { vs := [.agg [.ro false 1, .ro false 1, .ro false 1]] }, o := { vs := [.bool] } }
/-- impl.run -/
def sgi_run : Sig := { i := { vs := [.agg [.ro false 1, .ro false 1, .ro false 1], .str, .int .i64] }, o := { vs := [.int .i64, .int .i64, .int .i64] } }
/-- laws.eqIntSS -/
def sgl_eqIntSS : Sig := { i := { vs := [.ro false 1, .ro false 1] }, o := { vs := [.bool] } }
/-- laws.FnExactTreeYield -/
def sgl_FnExactTreeYield : Sig := { i := { vs := [.agg [.str, .str, .bool, .ro false 4]] }, o := { vs := [.bool] } }
/-- spec.TreeYield -/
def sgs_TreeYield : Sig := { i := { vs := [.agg [.str, .str, .bool, .ro false 4]] }, o := { vs := [.str, .int .i64] } }
/-- impl.TreeYield -/
def sgi_TreeYield : Sig := { i := { vs := [.agg [.str, .str, .bool, .ro false 4]] }, o := { vs := [.str, .int .i64] } }
/-- spec.l01Yield -/
def sgs_l01Yield : Sig := { i := { vs := [.agg [.str, .str, .bool, .ro false 4]] }, o := { vs := [.str] } }
/-- impl.yield -/
def sgi_yield : Sig := { i := { vs := [.agg [.str, .str, .bool, .ro false 4]] }, o := { vs := [.str] } }
/-- laws.FnExactSgOK -/
def sgl_FnExactSgOK : Sig := { i := { vs := [.agg [.int .i64, .ro false 3, .ro false 2, .ro false 2]] }, o := { vs := [.bool] } }
/-- laws.szSg -/
def sgl_szSg : Sig := { i := { vs := [.agg [.int .i64, .ro false 3, .ro false 2, .ro false 2], .int .i64] }, o := { vs := [.int .i64] } }
/-- laws.toSg -/
def sgl_toSg : Sig := { i := { vs := [.agg [.int .i64, .ro false 3, .ro false 2, .ro false 2]] }, o := { vs := [.agg [.int .i64, .own 3, .own 2, .own 2]] } }
/-- spec.SgOK -/
def sgs_SgOK : Sig := { i := { vs := [.agg [.int .i64, .ro false 3, .ro false 2, .ro false 2]] }, o := { vs := [.bool] } }
/-- impl.SgOK -/
def sgi_SgOK : Sig := { i := { vs := [.agg [.int .i64, .ro false 3, .ro false 2, .ro false 2]] }, o := { vs := [.bool] } }
/-- laws.eqSg -/
def sgl_eqSg : Sig := { i := { vs := [.agg [.int .i64, .ro false 3, .ro false 2, .ro false 2], .agg [.int .i64, .ro false 3, .ro false 2, .ro false 2]] }, o := { vs := [.bool] } }
/-- laws.szSEdgeS -/
def sgl_szSEdgeS : Sig := { i := { vs := [.ro false 3, .int .i64] }, o := { vs := [.int .i64] } }
/-- laws.szSpotS -/
def sgl_szSpotS : Sig := { i := { vs := [.ro false 2, .int .i64] }, o := { vs := [.int .i64] } }
/-- laws.toSEdgeS -/
def sgl_toSEdgeS : Sig := { i := { vs := [.ro false 3] }, o := { vs := [.own 3] } }
/-- laws.toSpotS -/
def sgl_toSpotS : Sig := { i := { vs := [.ro false 2] }, o := { vs := [.own 2] } }
/-- spec.l12Spots -/
def sgs_l12Spots : Sig := { i := { vs := [.ro false 2, .int .i64] }, o := { vs := [.bool] } }
/-- impl.SgOK$1 -/
def sgi_SgOK_1 : Sig := { i := { vs := [.int .i64, .ptr 0 [] none], os := [(true, .agg [.int .i64, .ro false 3, .ro false 2, .ro false 2])] }, o := { vs := [.bool], os := [(true, .agg [.int .i64, .ro false 3, .ro false 2, .ro false 2])] } }
/-- laws.eqSEdgeS -/
def sgl_eqSEdgeS : Sig := { i := { vs := [.ro false 3, .ro false 3] }, o := { vs := [.bool] } }
/-- laws.eqSpotS -/
def sgl_eqSpotS : Sig := { i := { vs := [.ro false 2, .ro false 2] }, o := { vs := [.bool] } }
/-- laws.szSpot -/
def sgl_szSpot : Sig := { i := { vs := [.agg [.int .i64, .str], .int .i64] }, o := { vs := [.int .i64] } }
/-- laws.toSEdge -/
def sgl_toSEdge : Sig := { i := { vs := [.agg [.int .i64, .int .i64, .int .i64]] }, o := { vs := [.agg [.int .i64, .int .i64, .int .i64]] } }
/-- laws.toSpot -/
def sgl_toSpot : Sig := { i := { vs := [.agg [.int .i64, .str]] }, o := { vs := [.agg [.int .i64, .str]] } }
/-- laws.eqSEdge -/
def sgl_eqSEdge : Sig := { i := { vs := [.agg [.int .i64, .int .i64, .int .i64], .agg [.int .i64, .int .i64, .int .i64]] }, o := { vs := [.bool] } }
/-- laws.eqSpot -/
def sgl_eqSpot : Sig := { i := { vs := [.agg [.int .i64, .str], .agg [.int .i64, .str]] }, o := { vs := [.bool] } }
/-- laws.FnExactTermOK -/
def sgl_FnExactTermOK : Sig := { i := { vs := [.agg [.str, .str, .bool, .ro false 4]] }, o := { vs := [.bool] } }
/-- spec.TermOK -/
def sgs_TermOK : Sig := { i := { vs := [.agg [.str, .str, .bool, .ro false 4]] }, o := { vs := [.bool] } }
/-- impl.TermOK -/
def sgi_TermOK : Sig := { i := { vs := [.agg [.str, .str, .bool, .ro false 4]] }, o := { vs := [.bool] } }
/-- spec.l12Term -/
def sgs_l12Term : Sig := { i := { vs := [.agg [.str, .str, .bool, .ro false 4]] }, o := { vs := [.bool] } }
/-- impl.termForm -/
def sgi_termForm : Sig := { i := { vs := [.agg [.str, .str, .bool, .ro false 4]] }, o := { vs := [.bool] } }
/-- spec.l12Num -/
def sgs_l12Num : Sig := { i := { vs := [.str] }, o := { vs := [.bool] } }
/-- impl.numOK -/
def sgi_numOK : Sig := { i := { vs := [.str] }, o := { vs := [.bool] } }
/-- spec.l03Bytes -/
def sgs_l03Bytes : Sig := { i := { vs := [.str, .int .u8, .int .u8] }, o := { vs := [.bool] } }
/-- laws.FnExactTreeAt -/
def sgl_FnExactTreeAt : Sig := { i := { vs := [.agg [.str, .str, .bool, .ro false 4], .ro false 1] }, o := { vs := [.bool] } }
/-- spec.TreeAt -/
def sgs_TreeAt : Sig := { i := { vs := [.agg [.str, .str, .bool, .ro false 4], .ro false 1] }, o := { vs := [.agg [.str, .str, .bool, .ro false 4], .int .i64] } }
/-- impl.TreeAt -/
def sgi_TreeAt : Sig := { i := { vs := [.agg [.str, .str, .bool, .ro false 4], .ro false 1] }, o := { vs := [.agg [.str, .str, .bool, .own 4], .int .i64] } }
/-- laws.markTree -/
def sgl_markTree : Sig := { i := { vs := [.agg [.str, .str, .bool, .ref 0 []], .int .i64], os := [(false, .own 4)] }, o := { vs := [.int .i64], os := [(false, .own 4)] } }
/-- laws.heldTree -/
def sgl_heldTree : Sig := { i := { vs := [.agg [.str, .str, .bool, .ro false 4], .int .i64] }, o := { vs := [.int .i64] } }
/-- spec.l01Leads -/
def sgs_l01Leads : Sig := { i := { vs := [.agg [.str, .str, .bool, .ro false 4], .ro false 1] }, o := { vs := [.bool] } }
/-- spec.l01At -/
def sgs_l01At : Sig := { i := { vs := [.agg [.str, .str, .bool, .ro false 4], .ro false 1] }, o := { vs := [.agg [.str, .str, .bool, .ro false 4]] } }
/-- spec.l01Copy -/
def sgs_l01Copy : Sig := { i := { vs := [.agg [.str, .str, .bool, .ro false 4]] }, o := { vs := [.agg [.str, .str, .bool, .ro false 4]] } }
/-- impl.at -/
def sgi_at : Sig := { i := { vs := [.agg [.str, .str, .bool, .ro false 4], .ro false 1] }, o := { vs := [.agg [.str, .str, .bool, .ro false 4], .bool] } }
/-- impl.copyTree -/
def sgi_copyTree : Sig := { i := { vs := [.agg [.str, .str, .bool, .ro false 4]] }, o := { vs := [.agg [.str, .str, .bool, .own 4]] } }
/-- laws.markTreeS -/
def sgl_markTreeS : Sig := { i := { vs := [.ref 0 [], .int .i64], os := [(false, .own 4)] }, o := { vs := [.int .i64], os := [(false, .own 4)] } }
/-- laws.heldTreeS -/
def sgl_heldTreeS : Sig := { i := { vs := [.ro false 4, .int .i64] }, o := { vs := [.int .i64] } }
/-- laws.markText -/
def sgl_markText : Sig := { i := { vs := [.int .i64] }, o := { vs := [.str] } }
/-- laws.FnExactLayoutOK -/
def sgl_FnExactLayoutOK : Sig := { i := { vs := [.ro false 4] }, o := { vs := [.bool] } }
/-- laws.szLNodeS -/
def sgl_szLNodeS : Sig := { i := { vs := [.ro false 4, .int .i64] }, o := { vs := [.int .i64] } }
/-- laws.toLNodeS -/
def sgl_toLNodeS : Sig := { i := { vs := [.ro false 4] }, o := { vs := [.own 4] } }
/-- spec.LayoutOK -/
def sgs_LayoutOK : Sig := { i := { vs := [.ro false 4] }, o := { vs := [.bool] } }
/-- impl.LayoutOK -/
def sgi_LayoutOK : Sig := { i := { vs := [.ro false 4] }, o := { vs := [.bool] } }
/-- laws.eqLNodeS -/
def sgl_eqLNodeS : Sig := { i := { vs := [.ro false 4, .ro false 4] }, o := { vs := [.bool] } }
/-- laws.szLNode -/
def sgl_szLNode : Sig := { i := { vs := [.agg [.int .i64, .str, .int .i64, .ro false 1], .int .i64] }, o := { vs := [.int .i64] } }
/-- laws.toLNode -/
def sgl_toLNode : Sig := { i := { vs := [.agg [.int .i64, .str, .int .i64, .ro false 1]] }, o := { vs := [.agg [.int .i64, .str, .int .i64, .own 1]] } }
/-- spec.l14Groups -/
def sgs_l14Groups : Sig := { i := { vs := [.ro false 4] }, o := { vs := [.int .i64] } }
/-- spec.l02In -/
def sgs_l02In : Sig := { i := { vs := [.str, .int .u8] }, o := { vs := [.bool] } }
/-- impl.groups -/
def sgi_groups : Sig := { i := { vs := [.ro false 4] }, o := { vs := [.int .i64] } }
/-- laws.eqLNode -/
def sgl_eqLNode : Sig := { i := { vs := [.agg [.int .i64, .str, .int .i64, .ro false 1], .agg [.int .i64, .str, .int .i64, .ro false 1]] }, o := { vs := [.bool] } }
/-- laws.FnExactTreePut -/
def sgl_FnExactTreePut : Sig := { i := { vs := [.agg [.str, .str, .bool, .ro false 4], .ro false 1, .agg [.str, .str, .bool, .ro false 4]] }, o := { vs := [.bool] } }
/-- spec.TreePut -/
def sgs_TreePut : Sig := { i := { vs := [.agg [.str, .str, .bool, .ro false 4], .ro false 1, .agg [.str, .str, .bool, .ro false 4]] }, o := { vs := [.agg [.str, .str, .bool, .ro false 4], .int .i64] } }
/-- impl.TreePut -/
def sgi_TreePut : Sig := { i := { vs := [.agg [.str, .str, .bool, .ro false 4], .ro false 1, .agg [.str, .str, .bool, .ro false 4]] }, o := { vs := [.agg [.str, .str, .bool, .own 4], .int .i64] } }
/-- spec.l01Put -/
def sgs_l01Put : Sig := { i := { vs := [.agg [.str, .str, .bool, .ro false 4], .ro false 1, .agg [.str, .str, .bool, .ro false 4]] }, o := { vs := [.agg [.str, .str, .bool, .ro false 4]] } }
/-- impl.put -/
def sgi_put : Sig := { i := { vs := [.agg [.str, .str, .bool, .ro false 4], .ro false 1, .agg [.str, .str, .bool, .ro false 4]] }, o := { vs := [.agg [.str, .str, .bool, .own 4]] } }
def sigs : List (Nat × Sig) := [(4, sgl_FnExactEdited), (15, sgl_szTextEdit), (17, sgl_toTextEdit), (16, sgs_Edited), (18, sgi_Edited), (61, sgs_l01Between), (5, sgl_FnExactApply), (19, sgl_szEditS), (21, sgl_toIntS), (22, sgl_toEditS), (20, sgs_Apply), (23, sgi_Apply), (24, sgl_eqIntS), (25, sgl_eqEditS), (26, sgl_markIntS), (27, sgl_markEditS), (28, sgl_heldIntS), (62, sgl_toEdit), (63, sgl_eqEdit), (6, sgl_FnExactTreeOK), (29, sgl_szTree), (31, sgl_toTree), (30, sgs_TreeOK), (32, sgi_TreeOK), (33, sgl_eqTree), (64, sgl_szTreeS), (67, sgl_toTreeS), (65, sgs_l01Room), (66, sgs_l01Right), (68, sgi_measure), (69, sgl_eqTreeS), (108, sgs_l01Name), (87, sgi_nameOK), (124, sgs_l01Letter), (125, sgs_l01NameByte), (114, sgi_isLetter), (115, sgi_inName), (131, sgs_l01Digit), (127, sgi_isDigit), (7, sgl_FnExactTreeSize), (34, sgs_TreeSize), (35, sgi_TreeSize), (70, sgs_l01Count), (71, sgs_l01Deep), (8, sgl_FnExactDfaRun), (36, sgl_szDfa), (38, sgl_toDfa), (37, sgs_DfaRun), (39, sgi_DfaRun), (40, sgl_eqDfa), (72, sgl_szIntS), (73, sgl_szIntSS), (75, sgl_toIntSS), (74, sgs_l02DfaOK), (76, sgi_dfaOK), (77, sgi_run), (78, sgl_eqIntSS), (9, sgl_FnExactTreeYield), (41, sgs_TreeYield), (42, sgi_TreeYield), (79, sgs_l01Yield), (80, sgi_yield), (10, sgl_FnExactSgOK), (43, sgl_szSg), (45, sgl_toSg), (44, sgs_SgOK), (46, sgi_SgOK), (47, sgl_eqSg), (81, sgl_szSEdgeS), (82, sgl_szSpotS), (84, sgl_toSEdgeS), (85, sgl_toSpotS), (83, sgs_l12Spots), (86, sgi_SgOK_1), (88, sgl_eqSEdgeS), (89, sgl_eqSpotS), (111, sgl_szSpot), (112, sgl_toSEdge), (113, sgl_toSpot), (116, sgl_eqSEdge), (117, sgl_eqSpot), (11, sgl_FnExactTermOK), (48, sgs_TermOK), (49, sgi_TermOK), (90, sgs_l12Term), (91, sgi_termForm), (118, sgs_l12Num), (119, sgi_numOK), (128, sgs_l03Bytes), (12, sgl_FnExactTreeAt), (50, sgs_TreeAt), (51, sgi_TreeAt), (52, sgl_markTree), (53, sgl_heldTree), (92, sgs_l01Leads), (94, sgs_l01At), (93, sgs_l01Copy), (95, sgi_at), (96, sgi_copyTree), (97, sgl_markTreeS), (98, sgl_heldTreeS), (122, sgl_markText), (13, sgl_FnExactLayoutOK), (54, sgl_szLNodeS), (56, sgl_toLNodeS), (55, sgs_LayoutOK), (57, sgi_LayoutOK), (58, sgl_eqLNodeS), (99, sgl_szLNode), (102, sgl_toLNode), (100, sgs_l14Groups), (101, sgs_l02In), (103, sgi_groups), (105, sgl_eqLNode), (14, sgl_FnExactTreePut), (59, sgs_TreePut), (60, sgi_TreePut), (106, sgs_l01Put), (107, sgi_put)]
noncomputable def Fl_FnExactEdited (x0 : ByteArray) (x1 : Int) (x2 : Int) (x3 : ByteArray) : Option (Bool) := FnV ctx 4 sgl_FnExactEdited (x0, x1, x2, x3)
def lsl_FnExactEdited : List LSig := []
noncomputable def Fl_szTextEdit (x0 : Int) (x1 : Int) (x2 : ByteArray) (x3 : Int) : Option (Int) := FnV ctx 15 sgl_szTextEdit (x0, x1, x2, x3)
def lsl_szTextEdit : List LSig := []
noncomputable def Fl_toTextEdit (x0 : Int) (x1 : Int) (x2 : ByteArray) : Option (Int × Int × ByteArray) := FnV ctx 17 sgl_toTextEdit (x0, x1, x2)
def lsl_toTextEdit : List LSig := []
noncomputable def Fs_Edited (x0 : ByteArray) (x1 : Int) (x2 : Int) (x3 : ByteArray) : Option (ByteArray × Int) := FnV ctx 16 sgs_Edited (x0, x1, x2, x3)
def lss_Edited : List LSig := []
noncomputable def Fi_Edited (x0 : ByteArray) (x1 : Int) (x2 : Int) (x3 : ByteArray) : Option (ByteArray × Int) := FnV ctx 18 sgi_Edited (x0, x1, x2, x3)
def lsi_Edited : List LSig := []
noncomputable def Fs_l01Between (x0 : Int) (x1 : Int) (x2 : Int) : Option (Bool) := FnV ctx 61 sgs_l01Between (x0, x1, x2)
def lss_l01Between : List LSig := []
noncomputable def Fl_FnExactApply (x0 : List AVal) (x1 : List AVal) : Option (Bool) := FnV ctx 5 sgl_FnExactApply (x0, x1)
def lsl_FnExactApply : List LSig := []
noncomputable def Fl_szEditS (x0 : List AVal) (x1 : Int) : Option (Int) := FnV ctx 19 sgl_szEditS (x0, x1)
def lsl_szEditS : List LSig := []
noncomputable def Fl_toIntS (x0 : List AVal) : Option (List AVal) := FnV ctx 21 sgl_toIntS x0
def Xl_toIntS_0 : List Ex := [{ out := .exit 0, st := { env := [(3, .ref 3 [])], objs := [(3, false, .own 1)] } }]
def Sl_toIntS_0 : SP := { env := [(0, .ro false 1), (3, .ref 3 []), (4, .int .i64)], objs := [(3, false, .own 1)] }
noncomputable def Ll_toIntS_0 (x0 : List AVal) (x1 : Int) (x2 : List AVal) : Option (List AVal) := LpV ctx fn21 0 0 Xl_toIntS_0 Sl_toIntS_0 (x0, x1, x2)
def lsl_toIntS : List LSig := [{ h := 0, X := Xl_toIntS_0, Ss := [Sl_toIntS_0] }]
noncomputable def Fl_toEditS (x0 : List AVal) : Option (List AVal) := FnV ctx 22 sgl_toEditS x0
def Xl_toEditS_0 : List Ex := [{ out := .exit 0, st := { env := [(3, .ref 3 [])], objs := [(3, false, .own 2)] } }]
def Sl_toEditS_0 : SP := { env := [(0, .ro false 2), (3, .ref 3 []), (4, .int .i64)], objs := [(3, false, .own 2)] }
noncomputable def Ll_toEditS_0 (x0 : List AVal) (x1 : Int) (x2 : List AVal) : Option (List AVal) := LpV ctx fn22 0 0 Xl_toEditS_0 Sl_toEditS_0 (x0, x1, x2)
def lsl_toEditS : List LSig := [{ h := 0, X := Xl_toEditS_0, Ss := [Sl_toEditS_0] }]
noncomputable def Fs_Apply (x0 : List AVal) (x1 : List AVal) : Option (List AVal × Int) := FnV ctx 20 sgs_Apply (x0, x1)
def Xs_Apply_0 : List Ex := [{ out := .ret, st := { env := [(4, .ref 4 []), (5, .int .i64)], objs := [(4, false, .own 1)] } }, { out := .exit 0, st := { env := [(0, .ro false 1), (6, .ref 6 []), (7, .int .i64)], objs := [(6, false, .own 1)] } }]
def Ss_Apply_0 : SP := { env := [(0, .ro false 1), (1, .ro false 2), (6, .ref 6 []), (7, .int .i64), (8, .int .i64)], objs := [(6, false, .own 1)] }
noncomputable def Ls_Apply_0 (x0 : List AVal) (x1 : List AVal) (x2 : Int) (x3 : Int) (x4 : List AVal) : Option ((Int × List AVal) ⊕ (List AVal × Int × List AVal)) := LpV ctx fn20 0 0 Xs_Apply_0 Ss_Apply_0 (x0, x1, x2, x3, x4)
def lss_Apply : List LSig := [{ h := 0, X := Xs_Apply_0, Ss := [Ss_Apply_0] }]
noncomputable def Fi_Apply (x0 : List AVal) (x1 : List AVal) : Option (List AVal × Int) := FnV ctx 23 sgi_Apply (x0, x1)
def Xi_Apply_0 : List Ex := [{ out := .ret, st := { env := [(4, .nils 1), (5, .int .i64)] } }, { out := .exit 0, st := { env := [(0, .ro false 1), (6, .ref 6 []), (7, .int .i64)], objs := [(6, false, .own 1)] } }]
def Si_Apply_0 : SP := { env := [(0, .ro false 1), (6, .ref 6 []), (7, .int .i64), (10, .ro false 2), (11, .int .i64), (12, .int .i64)], objs := [(6, false, .own 1)] }
noncomputable def Li_Apply_0 (x0 : List AVal) (x1 : Int) (x2 : List AVal) (x3 : Int) (x4 : Int) (x5 : List AVal) : Option ((Int) ⊕ (List AVal × Int × List AVal)) := LpV ctx fn23 0 0 Xi_Apply_0 Si_Apply_0 (x0, x1, x2, x3, x4, x5)
def lsi_Apply : List LSig := [{ h := 0, X := Xi_Apply_0, Ss := [Si_Apply_0] }]
noncomputable def Fl_eqIntS (x0 : List AVal) (x1 : List AVal) : Option (Bool) := FnV ctx 24 sgl_eqIntS (x0, x1)
def Xl_eqIntS_0 : List Ex := [{ out := .ret, st := { env := [(4, .bool)] } }, { out := .exit 0, st := { env := [] } }]
def Sl_eqIntS_0 : SP := { env := [(0, .ro false 1), (1, .ro false 1), (5, .int .i64)] }
noncomputable def Ll_eqIntS_0 (x0 : List AVal) (x1 : List AVal) (x2 : Int) : Option ((Bool) ⊕ (Unit)) := LpV ctx fn24 0 0 Xl_eqIntS_0 Sl_eqIntS_0 (x0, x1, x2)
def lsl_eqIntS : List LSig := [{ h := 0, X := Xl_eqIntS_0, Ss := [Sl_eqIntS_0] }]
noncomputable def Fl_eqEditS (x0 : List AVal) (x1 : List AVal) : Option (Bool) := FnV ctx 25 sgl_eqEditS (x0, x1)
def Xl_eqEditS_0 : List Ex := [{ out := .ret, st := { env := [(4, .bool)] } }, { out := .exit 0, st := { env := [] } }]
def Sl_eqEditS_0 : SP := { env := [(0, .ro false 2), (1, .ro false 2), (5, .int .i64)] }
noncomputable def Ll_eqEditS_0 (x0 : List AVal) (x1 : List AVal) (x2 : Int) : Option ((Bool) ⊕ (Unit)) := LpV ctx fn25 0 0 Xl_eqEditS_0 Sl_eqEditS_0 (x0, x1, x2)
def lsl_eqEditS : List LSig := [{ h := 0, X := Xl_eqEditS_0, Ss := [Sl_eqEditS_0] }]
noncomputable def Fl_markIntS (x0 : Int) (x1 : List AVal) : Option (Int × List AVal) := FnV ctx 26 sgl_markIntS (x0, x1)
def Xl_markIntS_0 : List Ex := [{ out := .exit 0, st := { env := [(1, .int .i64)], objs := [(2000000, false, .own 1)] } }]
def Sl_markIntS_0 : SP := { env := [(0, .ref 2000000 []), (1, .int .i64), (5, .int .i64)], objs := [(2000000, false, .own 1)] }
noncomputable def Ll_markIntS_0 (x0 : Int) (x1 : Int) (x2 : List AVal) : Option (Int × List AVal) := LpV ctx fn26 1 0 Xl_markIntS_0 Sl_markIntS_0 (x0, x1, x2)
def lsl_markIntS : List LSig := [{ h := 0, X := Xl_markIntS_0, Ss := [Sl_markIntS_0] }]
noncomputable def Fl_markEditS (x0 : Int) (x1 : List AVal) : Option (Int × List AVal) := FnV ctx 27 sgl_markEditS (x0, x1)
def Xl_markEditS_0 : List Ex := [{ out := .exit 0, st := { env := [(1, .int .i64)], objs := [(2000000, false, .own 2)] } }]
def Sl_markEditS_0 : SP := { env := [(0, .ref 2000000 []), (1, .int .i64), (5, .int .i64)], objs := [(2000000, false, .own 2)] }
noncomputable def Ll_markEditS_0 (x0 : Int) (x1 : Int) (x2 : List AVal) : Option (Int × List AVal) := LpV ctx fn27 1 0 Xl_markEditS_0 Sl_markEditS_0 (x0, x1, x2)
def lsl_markEditS : List LSig := [{ h := 0, X := Xl_markEditS_0, Ss := [Sl_markEditS_0] }]
noncomputable def Fl_heldIntS (x0 : List AVal) (x1 : Int) : Option (Int) := FnV ctx 28 sgl_heldIntS (x0, x1)
def Xl_heldIntS_0 : List Ex := [{ out := .ret, st := { env := [(4, .int .i64)] } }, { out := .exit 0, st := { env := [(1, .int .i64)] } }]
def Sl_heldIntS_0 : SP := { env := [(0, .ro false 1), (1, .int .i64), (5, .int .i64)] }
noncomputable def Ll_heldIntS_0 (x0 : List AVal) (x1 : Int) (x2 : Int) : Option ((Int) ⊕ (Int)) := LpV ctx fn28 0 0 Xl_heldIntS_0 Sl_heldIntS_0 (x0, x1, x2)
def lsl_heldIntS : List LSig := [{ h := 0, X := Xl_heldIntS_0, Ss := [Sl_heldIntS_0] }]
noncomputable def Fl_toEdit (x0 : Int) (x1 : Int) : Option (Int × Int) := FnV ctx 62 sgl_toEdit (x0, x1)
def lsl_toEdit : List LSig := []
noncomputable def Fl_eqEdit (x0 : Int) (x1 : Int) (x2 : Int) (x3 : Int) : Option (Bool) := FnV ctx 63 sgl_eqEdit (x0, x1, x2, x3)
def lsl_eqEdit : List LSig := []
noncomputable def Fl_FnExactTreeOK (x0 : ByteArray) (x1 : ByteArray) (x2 : Bool) (x3 : List AVal) : Option (Bool) := FnV ctx 6 sgl_FnExactTreeOK (x0, x1, x2, x3)
def lsl_FnExactTreeOK : List LSig := []
noncomputable def Fl_szTree (x0 : ByteArray) (x1 : ByteArray) (x2 : Bool) (x3 : List AVal) (x4 : Int) : Option (Int) := FnV ctx 29 sgl_szTree (x0, x1, x2, x3, x4)
def lsl_szTree : List LSig := []
noncomputable def Fl_toTree (x0 : ByteArray) (x1 : ByteArray) (x2 : Bool) (x3 : List AVal) : Option (ByteArray × ByteArray × Bool × List AVal) := FnV ctx 31 sgl_toTree (x0, x1, x2, x3)
def lsl_toTree : List LSig := []
noncomputable def Fs_TreeOK (x0 : ByteArray) (x1 : ByteArray) (x2 : Bool) (x3 : List AVal) : Option (Bool) := FnV ctx 30 sgs_TreeOK (x0, x1, x2, x3)
def lss_TreeOK : List LSig := []
noncomputable def Fi_TreeOK (x0 : ByteArray) (x1 : ByteArray) (x2 : Bool) (x3 : List AVal) : Option (Bool) := FnV ctx 32 sgi_TreeOK (x0, x1, x2, x3)
def lsi_TreeOK : List LSig := []
noncomputable def Fl_eqTree (x0 : ByteArray) (x1 : ByteArray) (x2 : Bool) (x3 : List AVal) (x4 : ByteArray) (x5 : ByteArray) (x6 : Bool) (x7 : List AVal) : Option (Bool) := FnV ctx 33 sgl_eqTree (x0, x1, x2, x3, x4, x5, x6, x7)
def lsl_eqTree : List LSig := []
noncomputable def Fl_szTreeS (x0 : List AVal) (x1 : Int) : Option (Int) := FnV ctx 64 sgl_szTreeS (x0, x1)
def Xl_szTreeS_0 : List Ex := [{ out := .ret, st := { env := [(4, .int .i64)] } }, { out := .exit 0, st := { env := [(1, .int .i64)] } }]
def Sl_szTreeS_0 : SP := { env := [(0, .ro false 4), (1, .int .i64), (5, .int .i64)] }
noncomputable def Ll_szTreeS_0 (x0 : List AVal) (x1 : Int) (x2 : Int) : Option ((Int) ⊕ (Int)) := LpV ctx fn64 0 0 Xl_szTreeS_0 Sl_szTreeS_0 (x0, x1, x2)
def lsl_szTreeS : List LSig := [{ h := 0, X := Xl_szTreeS_0, Ss := [Sl_szTreeS_0] }]
noncomputable def Fl_toTreeS (x0 : List AVal) : Option (List AVal) := FnV ctx 67 sgl_toTreeS x0
def Xl_toTreeS_0 : List Ex := [{ out := .exit 0, st := { env := [(3, .ref 3 [])], objs := [(3, false, .own 4)] } }]
def Sl_toTreeS_0 : SP := { env := [(0, .ro false 4), (3, .ref 3 []), (4, .int .i64)], objs := [(3, false, .own 4)] }
noncomputable def Ll_toTreeS_0 (x0 : List AVal) (x1 : Int) (x2 : List AVal) : Option (List AVal) := LpV ctx fn67 0 0 Xl_toTreeS_0 Sl_toTreeS_0 (x0, x1, x2)
def lsl_toTreeS : List LSig := [{ h := 0, X := Xl_toTreeS_0, Ss := [Sl_toTreeS_0] }]
noncomputable def Fs_l01Room (x0 : ByteArray) (x1 : ByteArray) (x2 : Bool) (x3 : List AVal) (x4 : Int) (x5 : Int) : Option (Int) := FnV ctx 65 sgs_l01Room (x0, x1, x2, x3, x4, x5)
def Xs_l01Room_0 : List Ex := [{ out := .exit 0, st := { env := [(1, .int .i64)] } }]
def Ss_l01Room_0 : SP := { env := [(1, .int .i64), (2, .int .i64), (3, .ptr 3 [] none), (7, .int .i64)], objs := [(3, true, .agg [.str, .str, .bool, .ro false 4])] }
noncomputable def Ls_l01Room_0 (x0 : Int) (x1 : Int) (x2 : Int) (x3 : ByteArray) (x4 : ByteArray) (x5 : Bool) (x6 : List AVal) : Option (Int) := LpV ctx fn65 0 0 Xs_l01Room_0 Ss_l01Room_0 (x0, x1, x2, x3, x4, x5, x6)
def lss_l01Room : List LSig := [{ h := 0, X := Xs_l01Room_0, Ss := [Ss_l01Room_0] }]
noncomputable def Fs_l01Right (x0 : ByteArray) (x1 : ByteArray) (x2 : Bool) (x3 : List AVal) : Option (Bool) := FnV ctx 66 sgs_l01Right (x0, x1, x2, x3)
def Xs_l01Right_0 : List Ex := [{ out := .ret, st := { env := [(2, .bool)] } }, { out := .exit 0, st := { env := [] } }]
def Ss_l01Right_0 : SP := { env := [(1, .ptr 1 [] none), (3, .int .i64)], objs := [(1, true, .agg [.str, .str, .bool, .ro false 4])] }
noncomputable def Ls_l01Right_0 (x0 : Int) (x1 : ByteArray) (x2 : ByteArray) (x3 : Bool) (x4 : List AVal) : Option ((Bool) ⊕ (Unit)) := LpV ctx fn66 0 0 Xs_l01Right_0 Ss_l01Right_0 (x0, x1, x2, x3, x4)
def lss_l01Right : List LSig := [{ h := 0, X := Xs_l01Right_0, Ss := [Ss_l01Right_0] }]
noncomputable def Fi_measure (x0 : ByteArray) (x1 : ByteArray) (x2 : Bool) (x3 : List AVal) (x4 : Int) (x5 : Int) (x6 : Int) : Option (Bool × Int × Int) := FnV ctx 68 sgi_measure (x0, x1, x2, x3, x4, x5, x6)
def Xi_measure_0 : List Ex := [{ out := .ret, st := { env := [(8, .bool)], objs := [(2000000, true, .int .i64), (2000001, true, .int .i64)] } }, { out := .exit 0, st := { env := [], objs := [(2000000, true, .int .i64), (2000001, true, .int .i64)] } }]
def Si_measure_0 : SP := { env := [(1, .int .i64), (2, .ptr 2000000 [] none), (3, .ptr 2000001 [] none), (53, .ro false 4), (54, .int .i64), (55, .int .i64)], objs := [(2000000, true, .int .i64), (2000001, true, .int .i64)] }
noncomputable def Li_measure_0 (x0 : Int) (x1 : List AVal) (x2 : Int) (x3 : Int) (x4 : Int) (x5 : Int) : Option ((Bool × Int × Int) ⊕ (Int × Int)) := LpV ctx fn68 2 0 Xi_measure_0 Si_measure_0 (x0, x1, x2, x3, x4, x5)
def lsi_measure : List LSig := [{ h := 0, X := Xi_measure_0, Ss := [Si_measure_0] }]
noncomputable def Fl_eqTreeS (x0 : List AVal) (x1 : List AVal) : Option (Bool) := FnV ctx 69 sgl_eqTreeS (x0, x1)
def Xl_eqTreeS_0 : List Ex := [{ out := .ret, st := { env := [(4, .bool)] } }, { out := .exit 0, st := { env := [] } }]
def Sl_eqTreeS_0 : SP := { env := [(0, .ro false 4), (1, .ro false 4), (5, .int .i64)] }
noncomputable def Ll_eqTreeS_0 (x0 : List AVal) (x1 : List AVal) (x2 : Int) : Option ((Bool) ⊕ (Unit)) := LpV ctx fn69 0 0 Xl_eqTreeS_0 Sl_eqTreeS_0 (x0, x1, x2)
def lsl_eqTreeS : List LSig := [{ h := 0, X := Xl_eqTreeS_0, Ss := [Sl_eqTreeS_0] }]
noncomputable def Fs_l01Name (x0 : ByteArray) : Option (Bool) := FnV ctx 108 sgs_l01Name x0
def Xs_l01Name_0 : List Ex := [{ out := .ret, st := { env := [(2, .bool)] } }, { out := .exit 0, st := { env := [] } }]
def Ss_l01Name_0 : SP := { env := [(0, .str), (3, .int .i64)] }
noncomputable def Ls_l01Name_0 (x0 : ByteArray) (x1 : Int) : Option ((Bool) ⊕ (Unit)) := LpV ctx fn108 0 0 Xs_l01Name_0 Ss_l01Name_0 (x0, x1)
def lss_l01Name : List LSig := [{ h := 0, X := Xs_l01Name_0, Ss := [Ss_l01Name_0] }]
noncomputable def Fi_nameOK (x0 : ByteArray) : Option (Bool) := FnV ctx 87 sgi_nameOK x0
def Xi_nameOK_0 : List Ex := [{ out := .ret, st := { env := [(2, .bool)] } }, { out := .exit 0, st := { env := [] } }]
def Si_nameOK_0 : SP := { env := [(0, .str), (3, .int .i64)] }
noncomputable def Li_nameOK_0 (x0 : ByteArray) (x1 : Int) : Option ((Bool) ⊕ (Unit)) := LpV ctx fn87 0 0 Xi_nameOK_0 Si_nameOK_0 (x0, x1)
def lsi_nameOK : List LSig := [{ h := 0, X := Xi_nameOK_0, Ss := [Si_nameOK_0] }]
noncomputable def Fs_l01Letter (x0 : Int) : Option (Bool) := FnV ctx 124 sgs_l01Letter x0
def lss_l01Letter : List LSig := []
noncomputable def Fs_l01NameByte (x0 : Int) : Option (Bool) := FnV ctx 125 sgs_l01NameByte x0
def lss_l01NameByte : List LSig := []
noncomputable def Fi_isLetter (x0 : Int) : Option (Bool) := FnV ctx 114 sgi_isLetter x0
def lsi_isLetter : List LSig := []
noncomputable def Fi_inName (x0 : Int) : Option (Bool) := FnV ctx 115 sgi_inName x0
def lsi_inName : List LSig := []
noncomputable def Fs_l01Digit (x0 : Int) : Option (Bool) := FnV ctx 131 sgs_l01Digit x0
def lss_l01Digit : List LSig := []
noncomputable def Fi_isDigit (x0 : Int) : Option (Bool) := FnV ctx 127 sgi_isDigit x0
def lsi_isDigit : List LSig := []
noncomputable def Fl_FnExactTreeSize (x0 : ByteArray) (x1 : ByteArray) (x2 : Bool) (x3 : List AVal) : Option (Bool) := FnV ctx 7 sgl_FnExactTreeSize (x0, x1, x2, x3)
def lsl_FnExactTreeSize : List LSig := []
noncomputable def Fs_TreeSize (x0 : ByteArray) (x1 : ByteArray) (x2 : Bool) (x3 : List AVal) : Option (Int × Int × Int) := FnV ctx 34 sgs_TreeSize (x0, x1, x2, x3)
def lss_TreeSize : List LSig := []
noncomputable def Fi_TreeSize (x0 : ByteArray) (x1 : ByteArray) (x2 : Bool) (x3 : List AVal) : Option (Int × Int × Int) := FnV ctx 35 sgi_TreeSize (x0, x1, x2, x3)
def lsi_TreeSize : List LSig := []
noncomputable def Fs_l01Count (x0 : ByteArray) (x1 : ByteArray) (x2 : Bool) (x3 : List AVal) : Option (Int) := FnV ctx 70 sgs_l01Count (x0, x1, x2, x3)
def Xs_l01Count_0 : List Ex := [{ out := .exit 0, st := { env := [(3, .int .i64)] } }]
def Ss_l01Count_0 : SP := { env := [(1, .ptr 1 [] none), (3, .int .i64), (4, .int .i64)], objs := [(1, true, .agg [.str, .str, .bool, .ro false 4])] }
noncomputable def Ls_l01Count_0 (x0 : Int) (x1 : Int) (x2 : ByteArray) (x3 : ByteArray) (x4 : Bool) (x5 : List AVal) : Option (Int) := LpV ctx fn70 0 0 Xs_l01Count_0 Ss_l01Count_0 (x0, x1, x2, x3, x4, x5)
def lss_l01Count : List LSig := [{ h := 0, X := Xs_l01Count_0, Ss := [Ss_l01Count_0] }]
noncomputable def Fs_l01Deep (x0 : ByteArray) (x1 : ByteArray) (x2 : Bool) (x3 : List AVal) : Option (Int) := FnV ctx 71 sgs_l01Deep (x0, x1, x2, x3)
def Xs_l01Deep_0 : List Ex := [{ out := .exit 0, st := { env := [(3, .int .i64)] } }]
def Ss_l01Deep_0 : SP := { env := [(1, .ptr 1 [] none), (3, .int .i64), (4, .int .i64)], objs := [(1, true, .agg [.str, .str, .bool, .ro false 4])] }
noncomputable def Ls_l01Deep_0 (x0 : Int) (x1 : Int) (x2 : ByteArray) (x3 : ByteArray) (x4 : Bool) (x5 : List AVal) : Option (Int) := LpV ctx fn71 0 0 Xs_l01Deep_0 Ss_l01Deep_0 (x0, x1, x2, x3, x4, x5)
def lss_l01Deep : List LSig := [{ h := 0, X := Xs_l01Deep_0, Ss := [Ss_l01Deep_0] }]
noncomputable def Fl_FnExactDfaRun (x0 : List AVal) (x1 : List AVal) (x2 : List AVal) (x3 : ByteArray) (x4 : Int) : Option (Bool) := FnV ctx 8 sgl_FnExactDfaRun (x0, x1, x2, x3, x4)
def lsl_FnExactDfaRun : List LSig := []
noncomputable def Fl_szDfa (x0 : List AVal) (x1 : List AVal) (x2 : List AVal) (x3 : Int) : Option (Int) := FnV ctx 36 sgl_szDfa (x0, x1, x2, x3)
def lsl_szDfa : List LSig := []
noncomputable def Fl_toDfa (x0 : List AVal) (x1 : List AVal) (x2 : List AVal) : Option (List AVal × List AVal × List AVal) := FnV ctx 38 sgl_toDfa (x0, x1, x2)
def lsl_toDfa : List LSig := []
noncomputable def Fs_DfaRun (x0 : List AVal) (x1 : List AVal) (x2 : List AVal) (x3 : ByteArray) (x4 : Int) : Option (Int × Int × Int × Int) := FnV ctx 37 sgs_DfaRun (x0, x1, x2, x3, x4)
def Xs_DfaRun_0 : List Ex := [{ out := .ret, st := { env := [(6, .int .i64), (7, .int .i64), (8, .int .i64), (9, .int .i64)] } }, { out := .exit 0, st := { env := [(1, .str), (10, .int .i64), (11, .int .i64)] } }]
def Ss_DfaRun_0 : SP := { env := [(1, .str), (2, .int .i64), (3, .ptr 3 [] none), (10, .int .i64), (11, .int .i64), (12, .int .i64), (13, .int .i64)], objs := [(3, true, .agg [.ro false 1, .ro false 1, .ro false 1])] }
noncomputable def Ls_DfaRun_0 (x0 : ByteArray) (x1 : Int) (x2 : Int) (x3 : Int) (x4 : Int) (x5 : Int) (x6 : List AVal) (x7 : List AVal) (x8 : List AVal) : Option ((Int × Int × Int × Int) ⊕ (ByteArray × Int × Int)) := LpV ctx fn37 0 0 Xs_DfaRun_0 Ss_DfaRun_0 (x0, x1, x2, x3, x4, x5, x6, x7, x8)
def lss_DfaRun : List LSig := [{ h := 0, X := Xs_DfaRun_0, Ss := [Ss_DfaRun_0] }]
noncomputable def Fi_DfaRun (x0 : List AVal) (x1 : List AVal) (x2 : List AVal) (x3 : ByteArray) (x4 : Int) : Option (Int × Int × Int × Int) := FnV ctx 39 sgi_DfaRun (x0, x1, x2, x3, x4)
def lsi_DfaRun : List LSig := []
noncomputable def Fl_eqDfa (x0 : List AVal) (x1 : List AVal) (x2 : List AVal) (x3 : List AVal) (x4 : List AVal) (x5 : List AVal) : Option (Bool) := FnV ctx 40 sgl_eqDfa (x0, x1, x2, x3, x4, x5)
def lsl_eqDfa : List LSig := []
noncomputable def Fl_szIntS (x0 : List AVal) (x1 : Int) : Option (Int) := FnV ctx 72 sgl_szIntS (x0, x1)
def lsl_szIntS : List LSig := []
noncomputable def Fl_szIntSS (x0 : List AVal) (x1 : Int) : Option (Int) := FnV ctx 73 sgl_szIntSS (x0, x1)
def Xl_szIntSS_0 : List Ex := [{ out := .ret, st := { env := [(4, .int .i64)] } }, { out := .exit 0, st := { env := [(1, .int .i64)] } }]
def Sl_szIntSS_0 : SP := { env := [(0, .ro false 1), (1, .int .i64), (5, .int .i64)] }
noncomputable def Ll_szIntSS_0 (x0 : List AVal) (x1 : Int) (x2 : Int) : Option ((Int) ⊕ (Int)) := LpV ctx fn73 0 0 Xl_szIntSS_0 Sl_szIntSS_0 (x0, x1, x2)
def lsl_szIntSS : List LSig := [{ h := 0, X := Xl_szIntSS_0, Ss := [Sl_szIntSS_0] }]
noncomputable def Fl_toIntSS (x0 : List AVal) : Option (List AVal) := FnV ctx 75 sgl_toIntSS x0
def Xl_toIntSS_0 : List Ex := [{ out := .exit 0, st := { env := [(3, .ref 3 [])], objs := [(3, false, .own 1)] } }]
def Sl_toIntSS_0 : SP := { env := [(0, .ro false 1), (3, .ref 3 []), (4, .int .i64)], objs := [(3, false, .own 1)] }
noncomputable def Ll_toIntSS_0 (x0 : List AVal) (x1 : Int) (x2 : List AVal) : Option (List AVal) := LpV ctx fn75 0 0 Xl_toIntSS_0 Sl_toIntSS_0 (x0, x1, x2)
def lsl_toIntSS : List LSig := [{ h := 0, X := Xl_toIntSS_0, Ss := [Sl_toIntSS_0] }]
noncomputable def Fs_l02DfaOK (x0 : List AVal) (x1 : List AVal) (x2 : List AVal) : Option (Bool) := FnV ctx 74 sgs_l02DfaOK (x0, x1, x2)
def Xs_l02DfaOK_0 : List Ex := [{ out := .ret, st := { env := [(2, .bool)] } }, { out := .exit 0, st := { env := [(1, .ptr 1 [] none), (3, .int .i64)], objs := [(1, true, .agg [.ro false 1, .ro false 1, .ro false 1])] } }]
def Ss_l02DfaOK_0 : SP := { env := [(1, .ptr 1 [] none), (3, .int .i64), (4, .int .i64)], objs := [(1, true, .agg [.ro false 1, .ro false 1, .ro false 1])] }
noncomputable def Ls_l02DfaOK_0 (x0 : Int) (x1 : Int) (x2 : List AVal) (x3 : List AVal) (x4 : List AVal) : Option ((Bool) ⊕ (Int × List AVal × List AVal × List AVal)) := LpV ctx fn74 0 0 Xs_l02DfaOK_0 Ss_l02DfaOK_0 (x0, x1, x2, x3, x4)
def Xs_l02DfaOK_1 : List Ex := [{ out := .ret, st := { env := [(2, .bool)] } }, { out := .exit 2, st := { env := [] } }]
def Ss_l02DfaOK_1 : SP := { env := [(1, .ptr 1 [] none), (3, .int .i64), (5, .int .i64)], objs := [(1, true, .agg [.ro false 1, .ro false 1, .ro false 1])] }
noncomputable def Ls_l02DfaOK_1 (x0 : Int) (x1 : Int) (x2 : List AVal) (x3 : List AVal) (x4 : List AVal) : Option ((Bool) ⊕ (Unit)) := LpV ctx fn74 0 1 Xs_l02DfaOK_1 Ss_l02DfaOK_1 (x0, x1, x2, x3, x4)
def Xs_l02DfaOK_2 : List Ex := [{ out := .ret, st := { env := [(2, .bool)] } }, { out := .exit 4, st := { env := [(1, .ptr 1 [] none), (3, .int .i64), (5, .int .i64)], objs := [(1, true, .agg [.ro false 1, .ro false 1, .ro false 1])] } }]
def Ss_l02DfaOK_2 : SP := { env := [(1, .ptr 1 [] none), (3, .int .i64), (5, .int .i64), (6, .int .i64)], objs := [(1, true, .agg [.ro false 1, .ro false 1, .ro false 1])] }
noncomputable def Ls_l02DfaOK_2 (x0 : Int) (x1 : Int) (x2 : Int) (x3 : List AVal) (x4 : List AVal) (x5 : List AVal) : Option ((Bool) ⊕ (Int × Int × List AVal × List AVal × List AVal)) := LpV ctx fn74 0 2 Xs_l02DfaOK_2 Ss_l02DfaOK_2 (x0, x1, x2, x3, x4, x5)
def lss_l02DfaOK : List LSig := [{ h := 0, X := Xs_l02DfaOK_0, Ss := [Ss_l02DfaOK_0] }, { h := 1, X := Xs_l02DfaOK_1, Ss := [Ss_l02DfaOK_1] }, { h := 2, X := Xs_l02DfaOK_2, Ss := [Ss_l02DfaOK_2] }]
noncomputable def Fi_dfaOK (x0 : List AVal) (x1 : List AVal) (x2 : List AVal) : Option (Bool) := FnV ctx 76 sgi_dfaOK (x0, x1, x2)
def Xi_dfaOK_0 : List Ex := [{ out := .ret, st := { env := [(2, .bool)] } }, { out := .exit 0, st := { env := [(1, .ptr 1 [] none), (3, .int .i64)], objs := [(1, true, .agg [.ro false 1, .ro false 1, .ro false 1])] } }]
def Si_dfaOK_0 : SP := { env := [(1, .ptr 1 [] none), (3, .int .i64), (47, .ro false 1), (48, .int .i64), (49, .int .i64)], objs := [(1, true, .agg [.ro false 1, .ro false 1, .ro false 1])] }
noncomputable def Li_dfaOK_0 (x0 : Int) (x1 : List AVal) (x2 : Int) (x3 : Int) (x4 : List AVal) (x5 : List AVal) (x6 : List AVal) : Option ((Bool) ⊕ (Int × List AVal × List AVal × List AVal)) := LpV ctx fn76 0 0 Xi_dfaOK_0 Si_dfaOK_0 (x0, x1, x2, x3, x4, x5, x6)
def Xi_dfaOK_1 : List Ex := [{ out := .ret, st := { env := [(2, .bool)] } }, { out := .exit 2, st := { env := [] } }]
def Si_dfaOK_1 : SP := { env := [(1, .ptr 1 [] none), (3, .int .i64), (62, .ro false 1), (63, .int .i64), (64, .int .i64)], objs := [(1, true, .agg [.ro false 1, .ro false 1, .ro false 1])] }
noncomputable def Li_dfaOK_1 (x0 : Int) (x1 : List AVal) (x2 : Int) (x3 : Int) (x4 : List AVal) (x5 : List AVal) (x6 : List AVal) : Option ((Bool) ⊕ (Unit)) := LpV ctx fn76 0 1 Xi_dfaOK_1 Si_dfaOK_1 (x0, x1, x2, x3, x4, x5, x6)
def Xi_dfaOK_2 : List Ex := [{ out := .ret, st := { env := [(2, .bool)] } }, { out := .exit 4, st := { env := [(1, .ptr 1 [] none), (3, .int .i64), (62, .ro false 1), (63, .int .i64), (64, .int .i64)], objs := [(1, true, .agg [.ro false 1, .ro false 1, .ro false 1])] } }]
def Si_dfaOK_2 : SP := { env := [(1, .ptr 1 [] none), (3, .int .i64), (62, .ro false 1), (63, .int .i64), (64, .int .i64), (81, .ro false 1), (82, .int .i64), (83, .int .i64)], objs := [(1, true, .agg [.ro false 1, .ro false 1, .ro false 1])] }
noncomputable def Li_dfaOK_2 (x0 : Int) (x1 : List AVal) (x2 : Int) (x3 : Int) (x4 : List AVal) (x5 : Int) (x6 : Int) (x7 : List AVal) (x8 : List AVal) (x9 : List AVal) : Option ((Bool) ⊕ (Int × List AVal × Int × Int × List AVal × List AVal × List AVal)) := LpV ctx fn76 0 2 Xi_dfaOK_2 Si_dfaOK_2 (x0, x1, x2, x3, x4, x5, x6, x7, x8, x9)
def lsi_dfaOK : List LSig := [{ h := 0, X := Xi_dfaOK_0, Ss := [Si_dfaOK_0] }, { h := 1, X := Xi_dfaOK_1, Ss := [Si_dfaOK_1] }, { h := 2, X := Xi_dfaOK_2, Ss := [Si_dfaOK_2] }]
noncomputable def Fi_run (x0 : List AVal) (x1 : List AVal) (x2 : List AVal) (x3 : ByteArray) (x4 : Int) : Option (Int × Int × Int) := FnV ctx 77 sgi_run (x0, x1, x2, x3, x4)
def Xi_run_0 : List Ex := [{ out := .ret, st := { env := [(6, .int .i64), (7, .int .i64), (8, .int .i64)] } }, { out := .exit 0, st := { env := [(1, .str), (9, .int .i64), (10, .int .i64)] } }]
def Si_run_0 : SP := { env := [(1, .str), (2, .int .i64), (3, .ptr 3 [] none), (9, .int .i64), (10, .int .i64), (11, .int .i64), (12, .int .i64)], objs := [(3, true, .agg [.ro false 1, .ro false 1, .ro false 1])] }
noncomputable def Li_run_0 (x0 : ByteArray) (x1 : Int) (x2 : Int) (x3 : Int) (x4 : Int) (x5 : Int) (x6 : List AVal) (x7 : List AVal) (x8 : List AVal) : Option ((Int × Int × Int) ⊕ (ByteArray × Int × Int)) := LpV ctx fn77 0 0 Xi_run_0 Si_run_0 (x0, x1, x2, x3, x4, x5, x6, x7, x8)
def lsi_run : List LSig := [{ h := 0, X := Xi_run_0, Ss := [Si_run_0] }]
noncomputable def Fl_eqIntSS (x0 : List AVal) (x1 : List AVal) : Option (Bool) := FnV ctx 78 sgl_eqIntSS (x0, x1)
def Xl_eqIntSS_0 : List Ex := [{ out := .ret, st := { env := [(4, .bool)] } }, { out := .exit 0, st := { env := [] } }]
def Sl_eqIntSS_0 : SP := { env := [(0, .ro false 1), (1, .ro false 1), (5, .int .i64)] }
noncomputable def Ll_eqIntSS_0 (x0 : List AVal) (x1 : List AVal) (x2 : Int) : Option ((Bool) ⊕ (Unit)) := LpV ctx fn78 0 0 Xl_eqIntSS_0 Sl_eqIntSS_0 (x0, x1, x2)
def lsl_eqIntSS : List LSig := [{ h := 0, X := Xl_eqIntSS_0, Ss := [Sl_eqIntSS_0] }]
noncomputable def Fl_FnExactTreeYield (x0 : ByteArray) (x1 : ByteArray) (x2 : Bool) (x3 : List AVal) : Option (Bool) := FnV ctx 9 sgl_FnExactTreeYield (x0, x1, x2, x3)
def lsl_FnExactTreeYield : List LSig := []
noncomputable def Fs_TreeYield (x0 : ByteArray) (x1 : ByteArray) (x2 : Bool) (x3 : List AVal) : Option (ByteArray × Int) := FnV ctx 41 sgs_TreeYield (x0, x1, x2, x3)
def lss_TreeYield : List LSig := []
noncomputable def Fi_TreeYield (x0 : ByteArray) (x1 : ByteArray) (x2 : Bool) (x3 : List AVal) : Option (ByteArray × Int) := FnV ctx 42 sgi_TreeYield (x0, x1, x2, x3)
def lsi_TreeYield : List LSig := []
noncomputable def Fs_l01Yield (x0 : ByteArray) (x1 : ByteArray) (x2 : Bool) (x3 : List AVal) : Option (ByteArray) := FnV ctx 79 sgs_l01Yield (x0, x1, x2, x3)
def Xs_l01Yield_0 : List Ex := [{ out := .exit 0, st := { env := [(3, .str)] } }]
def Ss_l01Yield_0 : SP := { env := [(1, .ptr 1 [] none), (3, .str), (4, .int .i64)], objs := [(1, true, .agg [.str, .str, .bool, .ro false 4])] }
noncomputable def Ls_l01Yield_0 (x0 : ByteArray) (x1 : Int) (x2 : ByteArray) (x3 : ByteArray) (x4 : Bool) (x5 : List AVal) : Option (ByteArray) := LpV ctx fn79 0 0 Xs_l01Yield_0 Ss_l01Yield_0 (x0, x1, x2, x3, x4, x5)
def lss_l01Yield : List LSig := [{ h := 0, X := Xs_l01Yield_0, Ss := [Ss_l01Yield_0] }]
noncomputable def Fi_yield (x0 : ByteArray) (x1 : ByteArray) (x2 : Bool) (x3 : List AVal) : Option (ByteArray) := FnV ctx 80 sgi_yield (x0, x1, x2, x3)
def Xi_yield_0 : List Ex := []
def Si_yield_0 : SP := { env := [(3, .ptr 3 [] none), (11, .ro false 4), (12, .int .i64), (13, .int .i64)], objs := [(3, true, .agg [.nilp, .own 1])] }
noncomputable def Li_yield_0 (x0 : List AVal) (x1 : Int) (x2 : Int) (x3 : List AVal) : Option (Empty) := LpV ctx fn80 0 0 Xi_yield_0 Si_yield_0 (x0, x1, x2, x3)
def lsi_yield : List LSig := [{ h := 0, X := Xi_yield_0, Ss := [Si_yield_0] }]
noncomputable def Fl_FnExactSgOK (x0 : Int) (x1 : List AVal) (x2 : List AVal) (x3 : List AVal) : Option (Bool) := FnV ctx 10 sgl_FnExactSgOK (x0, x1, x2, x3)
def lsl_FnExactSgOK : List LSig := []
noncomputable def Fl_szSg (x0 : Int) (x1 : List AVal) (x2 : List AVal) (x3 : List AVal) (x4 : Int) : Option (Int) := FnV ctx 43 sgl_szSg (x0, x1, x2, x3, x4)
def lsl_szSg : List LSig := []
noncomputable def Fl_toSg (x0 : Int) (x1 : List AVal) (x2 : List AVal) (x3 : List AVal) : Option (Int × List AVal × List AVal × List AVal) := FnV ctx 45 sgl_toSg (x0, x1, x2, x3)
def lsl_toSg : List LSig := []
noncomputable def Fs_SgOK (x0 : Int) (x1 : List AVal) (x2 : List AVal) (x3 : List AVal) : Option (Bool) := FnV ctx 44 sgs_SgOK (x0, x1, x2, x3)
def Xs_SgOK_0 : List Ex := [{ out := .ret, st := { env := [(2, .bool)] } }, { out := .exit 0, st := { env := [] } }]
def Ss_SgOK_0 : SP := { env := [(1, .ptr 1 [] none), (3, .int .i64)], objs := [(1, true, .agg [.int .i64, .ro false 3, .ro false 2, .ro false 2])] }
noncomputable def Ls_SgOK_0 (x0 : Int) (x1 : Int) (x2 : List AVal) (x3 : List AVal) (x4 : List AVal) : Option ((Bool) ⊕ (Unit)) := LpV ctx fn44 0 0 Xs_SgOK_0 Ss_SgOK_0 (x0, x1, x2, x3, x4)
def lss_SgOK : List LSig := [{ h := 0, X := Xs_SgOK_0, Ss := [Ss_SgOK_0] }]
noncomputable def Fi_SgOK (x0 : Int) (x1 : List AVal) (x2 : List AVal) (x3 : List AVal) : Option (Bool) := FnV ctx 46 sgi_SgOK (x0, x1, x2, x3)
def Xi_SgOK_0 : List Ex := [{ out := .ret, st := { env := [(2, .bool)] } }, { out := .exit 0, st := { env := [(1, .ptr 1 [] none), (3, .clo 86 [.ptr 1 [] none])], objs := [(1, true, .agg [.int .i64, .ro false 3, .ro false 2, .ro false 2])] } }]
def Si_SgOK_0 : SP := { env := [(1, .ptr 1 [] none), (3, .clo 86 [.ptr 1 [] none]), (38, .ro false 3), (39, .int .i64), (40, .int .i64)], objs := [(1, true, .agg [.int .i64, .ro false 3, .ro false 2, .ro false 2])] }
noncomputable def Li_SgOK_0 (x0 : List AVal) (x1 : Int) (x2 : Int) (x3 : Int) (x4 : List AVal) (x5 : List AVal) (x6 : List AVal) : Option ((Bool) ⊕ (Int × List AVal × List AVal × List AVal)) := LpV ctx fn46 0 0 Xi_SgOK_0 Si_SgOK_0 (x0, x1, x2, x3, x4, x5, x6)
def Xi_SgOK_1 : List Ex := [{ out := .ret, st := { env := [(2, .bool)] } }, { out := .exit 2, st := { env := [] } }]
def Si_SgOK_1 : SP := { env := [(3, .clo 86 [.ptr 1 [] none]), (71, .ref 71 []), (72, .int .i64), (73, .int .i64)], objs := [(1, true, .agg [.int .i64, .ro false 3, .ro false 2, .ro false 2]), (71, false, .own 1)] }
noncomputable def Li_SgOK_1 (x0 : Int) (x1 : Int) (x2 : Int) (x3 : List AVal) (x4 : List AVal) (x5 : List AVal) (x6 : List AVal) : Option ((Bool) ⊕ (Unit)) := LpV ctx fn46 0 1 Xi_SgOK_1 Si_SgOK_1 (x0, x1, x2, x3, x4, x5, x6)
def Xi_SgOK_2 : List Ex := [{ out := .ret, st := { env := [(2, .bool)] } }, { out := .exit 4, st := { env := [(3, .clo 86 [.ptr 1 [] none]), (71, .ref 71 []), (72, .int .i64), (73, .int .i64)], objs := [(1, true, .agg [.int .i64, .ro false 3, .ro false 2, .ro false 2]), (71, false, .own 1)] } }]
def Si_SgOK_2 : SP := { env := [(3, .clo 86 [.ptr 1 [] none]), (71, .ref 71 []), (72, .int .i64), (73, .int .i64), (77, .ref 71 [none]), (78, .int .i64), (79, .int .i64)], objs := [(1, true, .agg [.int .i64, .ro false 3, .ro false 2, .ro false 2]), (71, false, .own 1)] }
noncomputable def Li_SgOK_2 (x0 : Int) (x1 : Int) (x2 : Int) (x3 : Int) (x4 : Int) (x5 : Int) (x6 : List AVal) (x7 : List AVal) (x8 : List AVal) (x9 : List AVal) : Option ((Bool) ⊕ (Int × Int × Int × List AVal × List AVal × List AVal × List AVal)) := LpV ctx fn46 0 2 Xi_SgOK_2 Si_SgOK_2 (x0, x1, x2, x3, x4, x5, x6, x7, x8, x9)
def lsi_SgOK : List LSig := [{ h := 0, X := Xi_SgOK_0, Ss := [Si_SgOK_0] }, { h := 1, X := Xi_SgOK_1, Ss := [Si_SgOK_1] }, { h := 2, X := Xi_SgOK_2, Ss := [Si_SgOK_2] }]
noncomputable def Fl_eqSg (x0 : Int) (x1 : List AVal) (x2 : List AVal) (x3 : List AVal) (x4 : Int) (x5 : List AVal) (x6 : List AVal) (x7 : List AVal) : Option (Bool) := FnV ctx 47 sgl_eqSg (x0, x1, x2, x3, x4, x5, x6, x7)
def lsl_eqSg : List LSig := []
noncomputable def Fl_szSEdgeS (x0 : List AVal) (x1 : Int) : Option (Int) := FnV ctx 81 sgl_szSEdgeS (x0, x1)
def lsl_szSEdgeS : List LSig := []
noncomputable def Fl_szSpotS (x0 : List AVal) (x1 : Int) : Option (Int) := FnV ctx 82 sgl_szSpotS (x0, x1)
def Xl_szSpotS_0 : List Ex := [{ out := .ret, st := { env := [(4, .int .i64)] } }, { out := .exit 0, st := { env := [(1, .int .i64)] } }]
def Sl_szSpotS_0 : SP := { env := [(0, .ro false 2), (1, .int .i64), (5, .int .i64)] }
noncomputable def Ll_szSpotS_0 (x0 : List AVal) (x1 : Int) (x2 : Int) : Option ((Int) ⊕ (Int)) := LpV ctx fn82 0 0 Xl_szSpotS_0 Sl_szSpotS_0 (x0, x1, x2)
def lsl_szSpotS : List LSig := [{ h := 0, X := Xl_szSpotS_0, Ss := [Sl_szSpotS_0] }]
noncomputable def Fl_toSEdgeS (x0 : List AVal) : Option (List AVal) := FnV ctx 84 sgl_toSEdgeS x0
def Xl_toSEdgeS_0 : List Ex := [{ out := .exit 0, st := { env := [(3, .ref 3 [])], objs := [(3, false, .own 3)] } }]
def Sl_toSEdgeS_0 : SP := { env := [(0, .ro false 3), (3, .ref 3 []), (4, .int .i64)], objs := [(3, false, .own 3)] }
noncomputable def Ll_toSEdgeS_0 (x0 : List AVal) (x1 : Int) (x2 : List AVal) : Option (List AVal) := LpV ctx fn84 0 0 Xl_toSEdgeS_0 Sl_toSEdgeS_0 (x0, x1, x2)
def lsl_toSEdgeS : List LSig := [{ h := 0, X := Xl_toSEdgeS_0, Ss := [Sl_toSEdgeS_0] }]
noncomputable def Fl_toSpotS (x0 : List AVal) : Option (List AVal) := FnV ctx 85 sgl_toSpotS x0
def Xl_toSpotS_0 : List Ex := [{ out := .exit 0, st := { env := [(3, .ref 3 [])], objs := [(3, false, .own 2)] } }]
def Sl_toSpotS_0 : SP := { env := [(0, .ro false 2), (3, .ref 3 []), (4, .int .i64)], objs := [(3, false, .own 2)] }
noncomputable def Ll_toSpotS_0 (x0 : List AVal) (x1 : Int) (x2 : List AVal) : Option (List AVal) := LpV ctx fn85 0 0 Xl_toSpotS_0 Sl_toSpotS_0 (x0, x1, x2)
def lsl_toSpotS : List LSig := [{ h := 0, X := Xl_toSpotS_0, Ss := [Sl_toSpotS_0] }]
noncomputable def Fs_l12Spots (x0 : List AVal) (x1 : Int) : Option (Bool) := FnV ctx 83 sgs_l12Spots (x0, x1)
def Xs_l12Spots_0 : List Ex := [{ out := .ret, st := { env := [(4, .bool)] } }, { out := .exit 0, st := { env := [] } }]
def Ss_l12Spots_0 : SP := { env := [(0, .ro false 2), (1, .int .i64), (5, .int .i64)] }
noncomputable def Ls_l12Spots_0 (x0 : List AVal) (x1 : Int) (x2 : Int) : Option ((Bool) ⊕ (Unit)) := LpV ctx fn83 0 0 Xs_l12Spots_0 Ss_l12Spots_0 (x0, x1, x2)
def lss_l12Spots : List LSig := [{ h := 0, X := Xs_l12Spots_0, Ss := [Ss_l12Spots_0] }]
noncomputable def Fi_SgOK_1 (x0 : Int) (x1 : Int) (x2 : List AVal) (x3 : List AVal) (x4 : List AVal) : Option (Bool × Int × List AVal × List AVal × List AVal) := FnV ctx 86 sgi_SgOK_1 (x0, x1, x2, x3, x4)
def lsi_SgOK_1 : List LSig := []
noncomputable def Fl_eqSEdgeS (x0 : List AVal) (x1 : List AVal) : Option (Bool) := FnV ctx 88 sgl_eqSEdgeS (x0, x1)
def Xl_eqSEdgeS_0 : List Ex := [{ out := .ret, st := { env := [(4, .bool)] } }, { out := .exit 0, st := { env := [] } }]
def Sl_eqSEdgeS_0 : SP := { env := [(0, .ro false 3), (1, .ro false 3), (5, .int .i64)] }
noncomputable def Ll_eqSEdgeS_0 (x0 : List AVal) (x1 : List AVal) (x2 : Int) : Option ((Bool) ⊕ (Unit)) := LpV ctx fn88 0 0 Xl_eqSEdgeS_0 Sl_eqSEdgeS_0 (x0, x1, x2)
def lsl_eqSEdgeS : List LSig := [{ h := 0, X := Xl_eqSEdgeS_0, Ss := [Sl_eqSEdgeS_0] }]
noncomputable def Fl_eqSpotS (x0 : List AVal) (x1 : List AVal) : Option (Bool) := FnV ctx 89 sgl_eqSpotS (x0, x1)
def Xl_eqSpotS_0 : List Ex := [{ out := .ret, st := { env := [(4, .bool)] } }, { out := .exit 0, st := { env := [] } }]
def Sl_eqSpotS_0 : SP := { env := [(0, .ro false 2), (1, .ro false 2), (5, .int .i64)] }
noncomputable def Ll_eqSpotS_0 (x0 : List AVal) (x1 : List AVal) (x2 : Int) : Option ((Bool) ⊕ (Unit)) := LpV ctx fn89 0 0 Xl_eqSpotS_0 Sl_eqSpotS_0 (x0, x1, x2)
def lsl_eqSpotS : List LSig := [{ h := 0, X := Xl_eqSpotS_0, Ss := [Sl_eqSpotS_0] }]
noncomputable def Fl_szSpot (x0 : Int) (x1 : ByteArray) (x2 : Int) : Option (Int) := FnV ctx 111 sgl_szSpot (x0, x1, x2)
def lsl_szSpot : List LSig := []
noncomputable def Fl_toSEdge (x0 : Int) (x1 : Int) (x2 : Int) : Option (Int × Int × Int) := FnV ctx 112 sgl_toSEdge (x0, x1, x2)
def lsl_toSEdge : List LSig := []
noncomputable def Fl_toSpot (x0 : Int) (x1 : ByteArray) : Option (Int × ByteArray) := FnV ctx 113 sgl_toSpot (x0, x1)
def lsl_toSpot : List LSig := []
noncomputable def Fl_eqSEdge (x0 : Int) (x1 : Int) (x2 : Int) (x3 : Int) (x4 : Int) (x5 : Int) : Option (Bool) := FnV ctx 116 sgl_eqSEdge (x0, x1, x2, x3, x4, x5)
def lsl_eqSEdge : List LSig := []
noncomputable def Fl_eqSpot (x0 : Int) (x1 : ByteArray) (x2 : Int) (x3 : ByteArray) : Option (Bool) := FnV ctx 117 sgl_eqSpot (x0, x1, x2, x3)
def lsl_eqSpot : List LSig := []
noncomputable def Fl_FnExactTermOK (x0 : ByteArray) (x1 : ByteArray) (x2 : Bool) (x3 : List AVal) : Option (Bool) := FnV ctx 11 sgl_FnExactTermOK (x0, x1, x2, x3)
def lsl_FnExactTermOK : List LSig := []
noncomputable def Fs_TermOK (x0 : ByteArray) (x1 : ByteArray) (x2 : Bool) (x3 : List AVal) : Option (Bool) := FnV ctx 48 sgs_TermOK (x0, x1, x2, x3)
def lss_TermOK : List LSig := []
noncomputable def Fi_TermOK (x0 : ByteArray) (x1 : ByteArray) (x2 : Bool) (x3 : List AVal) : Option (Bool) := FnV ctx 49 sgi_TermOK (x0, x1, x2, x3)
def lsi_TermOK : List LSig := []
noncomputable def Fs_l12Term (x0 : ByteArray) (x1 : ByteArray) (x2 : Bool) (x3 : List AVal) : Option (Bool) := FnV ctx 90 sgs_l12Term (x0, x1, x2, x3)
def Xs_l12Term_0 : List Ex := [{ out := .ret, st := { env := [(2, .bool)] } }, { out := .exit 2, st := { env := [] } }]
def Ss_l12Term_0 : SP := { env := [(1, .ptr 1 [] none), (4, .int .i64), (5, .int .i64)], objs := [(1, true, .agg [.str, .str, .bool, .ro false 4])] }
noncomputable def Ls_l12Term_0 (x0 : Int) (x1 : Int) (x2 : ByteArray) (x3 : ByteArray) (x4 : Bool) (x5 : List AVal) : Option ((Bool) ⊕ (Unit)) := LpV ctx fn90 0 0 Xs_l12Term_0 Ss_l12Term_0 (x0, x1, x2, x3, x4, x5)
def lss_l12Term : List LSig := [{ h := 0, X := Xs_l12Term_0, Ss := [Ss_l12Term_0] }]
noncomputable def Fi_termForm (x0 : ByteArray) (x1 : ByteArray) (x2 : Bool) (x3 : List AVal) : Option (Bool) := FnV ctx 91 sgi_termForm (x0, x1, x2, x3)
def lsi_termForm : List LSig := []
noncomputable def Fs_l12Num (x0 : ByteArray) : Option (Bool) := FnV ctx 118 sgs_l12Num x0
def lss_l12Num : List LSig := []
noncomputable def Fi_numOK (x0 : ByteArray) : Option (Bool) := FnV ctx 119 sgi_numOK x0
def Xi_numOK_0 : List Ex := [{ out := .ret, st := { env := [(2, .bool)] } }, { out := .exit 0, st := { env := [] } }]
def Si_numOK_0 : SP := { env := [(0, .str), (23, .int .i64), (24, .int .i64)] }
noncomputable def Li_numOK_0 (x0 : ByteArray) (x1 : Int) (x2 : Int) : Option ((Bool) ⊕ (Unit)) := LpV ctx fn119 0 0 Xi_numOK_0 Si_numOK_0 (x0, x1, x2)
def lsi_numOK : List LSig := [{ h := 0, X := Xi_numOK_0, Ss := [Si_numOK_0] }]
noncomputable def Fs_l03Bytes (x0 : ByteArray) (x1 : Int) (x2 : Int) : Option (Bool) := FnV ctx 128 sgs_l03Bytes (x0, x1, x2)
def Xs_l03Bytes_0 : List Ex := [{ out := .ret, st := { env := [(6, .bool)] } }, { out := .exit 0, st := { env := [] } }]
def Ss_l03Bytes_0 : SP := { env := [(0, .str), (1, .int .u8), (2, .int .u8), (7, .int .i64)] }
noncomputable def Ls_l03Bytes_0 (x0 : ByteArray) (x1 : Int) (x2 : Int) (x3 : Int) : Option ((Bool) ⊕ (Unit)) := LpV ctx fn128 0 0 Xs_l03Bytes_0 Ss_l03Bytes_0 (x0, x1, x2, x3)
def lss_l03Bytes : List LSig := [{ h := 0, X := Xs_l03Bytes_0, Ss := [Ss_l03Bytes_0] }]
noncomputable def Fl_FnExactTreeAt (x0 : ByteArray) (x1 : ByteArray) (x2 : Bool) (x3 : List AVal) (x4 : List AVal) : Option (Bool) := FnV ctx 12 sgl_FnExactTreeAt (x0, x1, x2, x3, x4)
def lsl_FnExactTreeAt : List LSig := []
noncomputable def Fs_TreeAt (x0 : ByteArray) (x1 : ByteArray) (x2 : Bool) (x3 : List AVal) (x4 : List AVal) : Option (ByteArray × ByteArray × Bool × List AVal × Int) := FnV ctx 50 sgs_TreeAt (x0, x1, x2, x3, x4)
def lss_TreeAt : List LSig := []
noncomputable def Fi_TreeAt (x0 : ByteArray) (x1 : ByteArray) (x2 : Bool) (x3 : List AVal) (x4 : List AVal) : Option (ByteArray × ByteArray × Bool × List AVal × Int) := FnV ctx 51 sgi_TreeAt (x0, x1, x2, x3, x4)
def lsi_TreeAt : List LSig := []
noncomputable def Fl_markTree (x0 : ByteArray) (x1 : ByteArray) (x2 : Bool) (x3 : Int) (x4 : List AVal) : Option (Int × List AVal) := FnV ctx 52 sgl_markTree (x0, x1, x2, x3, x4)
def lsl_markTree : List LSig := []
noncomputable def Fl_heldTree (x0 : ByteArray) (x1 : ByteArray) (x2 : Bool) (x3 : List AVal) (x4 : Int) : Option (Int) := FnV ctx 53 sgl_heldTree (x0, x1, x2, x3, x4)
def lsl_heldTree : List LSig := []
noncomputable def Fs_l01Leads (x0 : ByteArray) (x1 : ByteArray) (x2 : Bool) (x3 : List AVal) (x4 : List AVal) : Option (Bool) := FnV ctx 92 sgs_l01Leads (x0, x1, x2, x3, x4)
def Xs_l01Leads_0 : List Ex := [{ out := .ret, st := { env := [(4, .bool)] } }, { out := .exit 0, st := { env := [] } }]
def Ss_l01Leads_0 : SP := { env := [(1, .ro false 1), (2, .ptr 2 [] none), (5, .int .i64)], objs := [(2, true, .agg [.str, .str, .bool, .ro false 4])] }
noncomputable def Ls_l01Leads_0 (x0 : List AVal) (x1 : Int) (x2 : ByteArray) (x3 : ByteArray) (x4 : Bool) (x5 : List AVal) : Option ((Bool) ⊕ (Unit)) := LpV ctx fn92 0 0 Xs_l01Leads_0 Ss_l01Leads_0 (x0, x1, x2, x3, x4, x5)
def lss_l01Leads : List LSig := [{ h := 0, X := Xs_l01Leads_0, Ss := [Ss_l01Leads_0] }]
noncomputable def Fs_l01At (x0 : ByteArray) (x1 : ByteArray) (x2 : Bool) (x3 : List AVal) (x4 : List AVal) : Option (ByteArray × ByteArray × Bool × List AVal) := FnV ctx 94 sgs_l01At (x0, x1, x2, x3, x4)
def Xs_l01At_0 : List Ex := [{ out := .exit 0, st := { env := [(2, .ptr 2 [] none), (4, .ptr 4 [] none)], objs := [(2, true, .agg [.str, .str, .bool, .ro false 4]), (4, true, .agg [.str, .str, .bool, .own 4])] } }]
def Ss_l01At_0 : SP := { env := [(1, .ro false 1), (2, .ptr 2 [] none), (4, .ptr 4 [] none), (5, .int .i64)], objs := [(2, true, .agg [.str, .str, .bool, .ro false 4]), (4, true, .agg [.str, .str, .bool, .own 4])] }
noncomputable def Ls_l01At_0 (x0 : List AVal) (x1 : Int) (x2 : ByteArray) (x3 : ByteArray) (x4 : Bool) (x5 : List AVal) (x6 : ByteArray) (x7 : ByteArray) (x8 : Bool) (x9 : List AVal) : Option (ByteArray × ByteArray × Bool × List AVal × ByteArray × ByteArray × Bool × List AVal) := LpV ctx fn94 0 0 Xs_l01At_0 Ss_l01At_0 (x0, x1, x2, x3, x4, x5, x6, x7, x8, x9)
def lss_l01At : List LSig := [{ h := 0, X := Xs_l01At_0, Ss := [Ss_l01At_0] }]
noncomputable def Fs_l01Copy (x0 : ByteArray) (x1 : ByteArray) (x2 : Bool) (x3 : List AVal) : Option (ByteArray × ByteArray × Bool × List AVal) := FnV ctx 93 sgs_l01Copy (x0, x1, x2, x3)
def Xs_l01Copy_0 : List Ex := [{ out := .exit 0, st := { env := [(1, .ptr 1 [] none), (2, .ptr 2 [] none), (3, .ref 3 [])], objs := [(1, true, .agg [.str, .str, .bool, .ro false 4]), (2, true, .agg [.str, .str, .bool, .own 4]), (3, false, .own 4)] } }]
def Ss_l01Copy_0 : SP := { env := [(1, .ptr 1 [] none), (2, .ptr 2 [] none), (3, .ref 3 []), (4, .int .i64)], objs := [(1, true, .agg [.str, .str, .bool, .ro false 4]), (2, true, .agg [.str, .str, .bool, .own 4]), (3, false, .own 4)] }
noncomputable def Ls_l01Copy_0 (x0 : Int) (x1 : ByteArray) (x2 : ByteArray) (x3 : Bool) (x4 : List AVal) (x5 : ByteArray) (x6 : ByteArray) (x7 : Bool) (x8 : List AVal) (x9 : List AVal) : Option (ByteArray × ByteArray × Bool × List AVal × ByteArray × ByteArray × Bool × List AVal × List AVal) := LpV ctx fn93 0 0 Xs_l01Copy_0 Ss_l01Copy_0 (x0, x1, x2, x3, x4, x5, x6, x7, x8, x9)
def lss_l01Copy : List LSig := [{ h := 0, X := Xs_l01Copy_0, Ss := [Ss_l01Copy_0] }]
noncomputable def Fi_at (x0 : ByteArray) (x1 : ByteArray) (x2 : Bool) (x3 : List AVal) (x4 : List AVal) : Option (ByteArray × ByteArray × Bool × List AVal × Bool) := FnV ctx 95 sgi_at (x0, x1, x2, x3, x4)
def Xi_at_0 : List Ex := [{ out := .ret, st := { env := [(4, .ptr 4 [] none), (5, .bool)], objs := [(4, true, .agg [.str, .str, .bool, .own 4])] } }, { out := .exit 0, st := { env := [(2, .ptr 2 [] none), (4, .ptr 4 [] none)], objs := [(2, true, .agg [.str, .str, .bool, .ro false 4]), (4, true, .agg [.str, .str, .bool, .own 4])] } }]
def Si_at_0 : SP := { env := [(2, .ptr 2 [] none), (4, .ptr 4 [] none), (8, .ro false 1), (9, .int .i64), (10, .int .i64)], objs := [(2, true, .agg [.str, .str, .bool, .ro false 4]), (4, true, .agg [.str, .str, .bool, .own 4])] }
noncomputable def Li_at_0 (x0 : List AVal) (x1 : Int) (x2 : Int) (x3 : ByteArray) (x4 : ByteArray) (x5 : Bool) (x6 : List AVal) (x7 : ByteArray) (x8 : ByteArray) (x9 : Bool) (x10 : List AVal) : Option ((Bool × ByteArray × ByteArray × Bool × List AVal) ⊕ (ByteArray × ByteArray × Bool × List AVal × ByteArray × ByteArray × Bool × List AVal)) := LpV ctx fn95 0 0 Xi_at_0 Si_at_0 (x0, x1, x2, x3, x4, x5, x6, x7, x8, x9, x10)
def lsi_at : List LSig := [{ h := 0, X := Xi_at_0, Ss := [Si_at_0] }]
noncomputable def Fi_copyTree (x0 : ByteArray) (x1 : ByteArray) (x2 : Bool) (x3 : List AVal) : Option (ByteArray × ByteArray × Bool × List AVal) := FnV ctx 96 sgi_copyTree (x0, x1, x2, x3)
def Xi_copyTree_0 : List Ex := [{ out := .exit 0, st := { env := [(2, .ptr 2 [] none), (3, .ptr 3 [] none)], objs := [(2, true, .agg [.str, .str, .bool, .own 4]), (3, true, .agg [.str, .str, .bool, .own 4])] } }]
def Si_copyTree_0 : SP := { env := [(2, .ptr 2 [] none), (3, .ptr 3 [] none), (14, .ro false 4), (15, .int .i64), (16, .int .i64)], objs := [(2, true, .agg [.str, .str, .bool, .own 4]), (3, true, .agg [.str, .str, .bool, .own 4])] }
noncomputable def Li_copyTree_0 (x0 : List AVal) (x1 : Int) (x2 : Int) (x3 : ByteArray) (x4 : ByteArray) (x5 : Bool) (x6 : List AVal) (x7 : ByteArray) (x8 : ByteArray) (x9 : Bool) (x10 : List AVal) : Option (ByteArray × ByteArray × Bool × List AVal × ByteArray × ByteArray × Bool × List AVal) := LpV ctx fn96 0 0 Xi_copyTree_0 Si_copyTree_0 (x0, x1, x2, x3, x4, x5, x6, x7, x8, x9, x10)
def lsi_copyTree : List LSig := [{ h := 0, X := Xi_copyTree_0, Ss := [Si_copyTree_0] }]
noncomputable def Fl_markTreeS (x0 : Int) (x1 : List AVal) : Option (Int × List AVal) := FnV ctx 97 sgl_markTreeS (x0, x1)
def Xl_markTreeS_0 : List Ex := [{ out := .exit 0, st := { env := [(1, .int .i64)], objs := [(2000000, false, .own 4)] } }]
def Sl_markTreeS_0 : SP := { env := [(0, .ref 2000000 []), (1, .int .i64), (5, .int .i64)], objs := [(2000000, false, .own 4)] }
noncomputable def Ll_markTreeS_0 (x0 : Int) (x1 : Int) (x2 : List AVal) : Option (Int × List AVal) := LpV ctx fn97 1 0 Xl_markTreeS_0 Sl_markTreeS_0 (x0, x1, x2)
def lsl_markTreeS : List LSig := [{ h := 0, X := Xl_markTreeS_0, Ss := [Sl_markTreeS_0] }]
noncomputable def Fl_heldTreeS (x0 : List AVal) (x1 : Int) : Option (Int) := FnV ctx 98 sgl_heldTreeS (x0, x1)
def Xl_heldTreeS_0 : List Ex := [{ out := .ret, st := { env := [(4, .int .i64)] } }, { out := .exit 0, st := { env := [(1, .int .i64)] } }]
def Sl_heldTreeS_0 : SP := { env := [(0, .ro false 4), (1, .int .i64), (5, .int .i64)] }
noncomputable def Ll_heldTreeS_0 (x0 : List AVal) (x1 : Int) (x2 : Int) : Option ((Int) ⊕ (Int)) := LpV ctx fn98 0 0 Xl_heldTreeS_0 Sl_heldTreeS_0 (x0, x1, x2)
def lsl_heldTreeS : List LSig := [{ h := 0, X := Xl_heldTreeS_0, Ss := [Sl_heldTreeS_0] }]
noncomputable def Fl_markText (x0 : Int) : Option (ByteArray) := FnV ctx 122 sgl_markText x0
def Xl_markText_0 : List Ex := [{ out := .exit 0, st := { env := [(3, .str)] } }]
def Sl_markText_0 : SP := { env := [(0, .int .i64), (3, .str)] }
noncomputable def Ll_markText_0 (x0 : Int) (x1 : ByteArray) : Option (ByteArray) := LpV ctx fn122 0 0 Xl_markText_0 Sl_markText_0 (x0, x1)
def lsl_markText : List LSig := [{ h := 0, X := Xl_markText_0, Ss := [Sl_markText_0] }]
noncomputable def Fl_FnExactLayoutOK (x0 : List AVal) : Option (Bool) := FnV ctx 13 sgl_FnExactLayoutOK x0
def lsl_FnExactLayoutOK : List LSig := []
noncomputable def Fl_szLNodeS (x0 : List AVal) (x1 : Int) : Option (Int) := FnV ctx 54 sgl_szLNodeS (x0, x1)
def Xl_szLNodeS_0 : List Ex := [{ out := .ret, st := { env := [(4, .int .i64)] } }, { out := .exit 0, st := { env := [(1, .int .i64)] } }]
def Sl_szLNodeS_0 : SP := { env := [(0, .ro false 4), (1, .int .i64), (5, .int .i64)] }
noncomputable def Ll_szLNodeS_0 (x0 : List AVal) (x1 : Int) (x2 : Int) : Option ((Int) ⊕ (Int)) := LpV ctx fn54 0 0 Xl_szLNodeS_0 Sl_szLNodeS_0 (x0, x1, x2)
def lsl_szLNodeS : List LSig := [{ h := 0, X := Xl_szLNodeS_0, Ss := [Sl_szLNodeS_0] }]
noncomputable def Fl_toLNodeS (x0 : List AVal) : Option (List AVal) := FnV ctx 56 sgl_toLNodeS x0
def Xl_toLNodeS_0 : List Ex := [{ out := .exit 0, st := { env := [(3, .ref 3 [])], objs := [(3, false, .own 4)] } }]
def Sl_toLNodeS_0 : SP := { env := [(0, .ro false 4), (3, .ref 3 []), (4, .int .i64)], objs := [(3, false, .own 4)] }
noncomputable def Ll_toLNodeS_0 (x0 : List AVal) (x1 : Int) (x2 : List AVal) : Option (List AVal) := LpV ctx fn56 0 0 Xl_toLNodeS_0 Sl_toLNodeS_0 (x0, x1, x2)
def lsl_toLNodeS : List LSig := [{ h := 0, X := Xl_toLNodeS_0, Ss := [Sl_toLNodeS_0] }]
noncomputable def Fs_LayoutOK (x0 : List AVal) : Option (Bool) := FnV ctx 55 sgs_LayoutOK x0
def Xs_LayoutOK_0 : List Ex := [{ out := .ret, st := { env := [(2, .bool)] } }, { out := .exit 0, st := { env := [(0, .ro false 4), (3, .ref 3 [])], objs := [(3, false, .own 1)] } }]
def Ss_LayoutOK_0 : SP := { env := [(0, .ro false 4), (3, .ref 3 []), (4, .int .i64)], objs := [(3, false, .own 1)] }
noncomputable def Ls_LayoutOK_0 (x0 : List AVal) (x1 : Int) (x2 : List AVal) : Option ((Bool) ⊕ (List AVal × List AVal)) := LpV ctx fn55 0 0 Xs_LayoutOK_0 Ss_LayoutOK_0 (x0, x1, x2)
def Xs_LayoutOK_1 : List Ex := [{ out := .ret, st := { env := [(2, .bool)] } }, { out := .exit 3, st := { env := [(0, .ro false 4), (3, .ref 3 []), (4, .int .i64)], objs := [(3, false, .own 1)] } }]
def Ss_LayoutOK_1 : SP := { env := [(0, .ro false 4), (3, .ref 3 []), (4, .int .i64), (5, .ptr 5 [] none), (6, .int .i64), (7, .int .i64)], objs := [(3, false, .own 1), (5, true, .agg [.int .i64, .str, .int .i64, .ro false 1])] }
noncomputable def Ls_LayoutOK_1 (x0 : List AVal) (x1 : Int) (x2 : Int) (x3 : Int) (x4 : List AVal) (x5 : Int) (x6 : ByteArray) (x7 : Int) (x8 : List AVal) : Option ((Bool) ⊕ (List AVal × Int × List AVal)) := LpV ctx fn55 0 1 Xs_LayoutOK_1 Ss_LayoutOK_1 (x0, x1, x2, x3, x4, x5, x6, x7, x8)
def Xs_LayoutOK_2 : List Ex := [{ out := .ret, st := { env := [(2, .bool)] } }, { out := .exit 5, st := { env := [] } }]
def Ss_LayoutOK_2 : SP := { env := [(0, .ro false 4), (3, .ref 3 []), (8, .int .i64)], objs := [(3, false, .own 1)] }
noncomputable def Ls_LayoutOK_2 (x0 : List AVal) (x1 : Int) (x2 : List AVal) : Option ((Bool) ⊕ (Unit)) := LpV ctx fn55 0 2 Xs_LayoutOK_2 Ss_LayoutOK_2 (x0, x1, x2)
def lss_LayoutOK : List LSig := [{ h := 0, X := Xs_LayoutOK_0, Ss := [Ss_LayoutOK_0] }, { h := 1, X := Xs_LayoutOK_1, Ss := [Ss_LayoutOK_1] }, { h := 2, X := Xs_LayoutOK_2, Ss := [Ss_LayoutOK_2] }]
noncomputable def Fi_LayoutOK (x0 : List AVal) : Option (Bool) := FnV ctx 57 sgi_LayoutOK x0
def lsi_LayoutOK : List LSig := []
noncomputable def Fl_eqLNodeS (x0 : List AVal) (x1 : List AVal) : Option (Bool) := FnV ctx 58 sgl_eqLNodeS (x0, x1)
def Xl_eqLNodeS_0 : List Ex := [{ out := .ret, st := { env := [(4, .bool)] } }, { out := .exit 0, st := { env := [] } }]
def Sl_eqLNodeS_0 : SP := { env := [(0, .ro false 4), (1, .ro false 4), (5, .int .i64)] }
noncomputable def Ll_eqLNodeS_0 (x0 : List AVal) (x1 : List AVal) (x2 : Int) : Option ((Bool) ⊕ (Unit)) := LpV ctx fn58 0 0 Xl_eqLNodeS_0 Sl_eqLNodeS_0 (x0, x1, x2)
def lsl_eqLNodeS : List LSig := [{ h := 0, X := Xl_eqLNodeS_0, Ss := [Sl_eqLNodeS_0] }]
noncomputable def Fl_szLNode (x0 : Int) (x1 : ByteArray) (x2 : Int) (x3 : List AVal) (x4 : Int) : Option (Int) := FnV ctx 99 sgl_szLNode (x0, x1, x2, x3, x4)
def lsl_szLNode : List LSig := []
noncomputable def Fl_toLNode (x0 : Int) (x1 : ByteArray) (x2 : Int) (x3 : List AVal) : Option (Int × ByteArray × Int × List AVal) := FnV ctx 102 sgl_toLNode (x0, x1, x2, x3)
def lsl_toLNode : List LSig := []
noncomputable def Fs_l14Groups (x0 : List AVal) : Option (Int) := FnV ctx 100 sgs_l14Groups x0
def Xs_l14Groups_0 : List Ex := [{ out := .exit 0, st := { env := [(3, .int .i64)] } }]
def Ss_l14Groups_0 : SP := { env := [(0, .ro false 4), (3, .int .i64), (4, .int .i64)] }
noncomputable def Ls_l14Groups_0 (x0 : List AVal) (x1 : Int) (x2 : Int) : Option (Int) := LpV ctx fn100 0 0 Xs_l14Groups_0 Ss_l14Groups_0 (x0, x1, x2)
def lss_l14Groups : List LSig := [{ h := 0, X := Xs_l14Groups_0, Ss := [Ss_l14Groups_0] }]
noncomputable def Fs_l02In (x0 : ByteArray) (x1 : Int) : Option (Bool) := FnV ctx 101 sgs_l02In (x0, x1)
def Xs_l02In_0 : List Ex := [{ out := .ret, st := { env := [(4, .bool)] } }, { out := .exit 0, st := { env := [] } }]
def Ss_l02In_0 : SP := { env := [(0, .str), (1, .int .u8), (5, .int .i64)] }
noncomputable def Ls_l02In_0 (x0 : ByteArray) (x1 : Int) (x2 : Int) : Option ((Bool) ⊕ (Unit)) := LpV ctx fn101 0 0 Xs_l02In_0 Ss_l02In_0 (x0, x1, x2)
def lss_l02In : List LSig := [{ h := 0, X := Xs_l02In_0, Ss := [Ss_l02In_0] }]
noncomputable def Fi_groups (x0 : List AVal) : Option (Int) := FnV ctx 103 sgi_groups x0
def Xi_groups_0 : List Ex := [{ out := .exit 0, st := { env := [(3, .int .i64)] } }]
def Si_groups_0 : SP := { env := [(3, .int .i64), (6, .ro false 4), (7, .int .i64), (8, .int .i64)] }
noncomputable def Li_groups_0 (x0 : Int) (x1 : List AVal) (x2 : Int) (x3 : Int) : Option (Int) := LpV ctx fn103 0 0 Xi_groups_0 Si_groups_0 (x0, x1, x2, x3)
def lsi_groups : List LSig := [{ h := 0, X := Xi_groups_0, Ss := [Si_groups_0] }]
noncomputable def Fl_eqLNode (x0 : Int) (x1 : ByteArray) (x2 : Int) (x3 : List AVal) (x4 : Int) (x5 : ByteArray) (x6 : Int) (x7 : List AVal) : Option (Bool) := FnV ctx 105 sgl_eqLNode (x0, x1, x2, x3, x4, x5, x6, x7)
def lsl_eqLNode : List LSig := []
noncomputable def Fl_FnExactTreePut (x0 : ByteArray) (x1 : ByteArray) (x2 : Bool) (x3 : List AVal) (x4 : List AVal) (x5 : ByteArray) (x6 : ByteArray) (x7 : Bool) (x8 : List AVal) : Option (Bool) := FnV ctx 14 sgl_FnExactTreePut (x0, x1, x2, x3, x4, x5, x6, x7, x8)
def lsl_FnExactTreePut : List LSig := []
noncomputable def Fs_TreePut (x0 : ByteArray) (x1 : ByteArray) (x2 : Bool) (x3 : List AVal) (x4 : List AVal) (x5 : ByteArray) (x6 : ByteArray) (x7 : Bool) (x8 : List AVal) : Option (ByteArray × ByteArray × Bool × List AVal × Int) := FnV ctx 59 sgs_TreePut (x0, x1, x2, x3, x4, x5, x6, x7, x8)
def lss_TreePut : List LSig := []
noncomputable def Fi_TreePut (x0 : ByteArray) (x1 : ByteArray) (x2 : Bool) (x3 : List AVal) (x4 : List AVal) (x5 : ByteArray) (x6 : ByteArray) (x7 : Bool) (x8 : List AVal) : Option (ByteArray × ByteArray × Bool × List AVal × Int) := FnV ctx 60 sgi_TreePut (x0, x1, x2, x3, x4, x5, x6, x7, x8)
def lsi_TreePut : List LSig := []
noncomputable def Fs_l01Put (x0 : ByteArray) (x1 : ByteArray) (x2 : Bool) (x3 : List AVal) (x4 : List AVal) (x5 : ByteArray) (x6 : ByteArray) (x7 : Bool) (x8 : List AVal) : Option (ByteArray × ByteArray × Bool × List AVal) := FnV ctx 106 sgs_l01Put (x0, x1, x2, x3, x4, x5, x6, x7, x8)
def lss_l01Put : List LSig := []
noncomputable def Fi_put (x0 : ByteArray) (x1 : ByteArray) (x2 : Bool) (x3 : List AVal) (x4 : List AVal) (x5 : ByteArray) (x6 : ByteArray) (x7 : Bool) (x8 : List AVal) : Option (ByteArray × ByteArray × Bool × List AVal) := FnV ctx 107 sgi_put (x0, x1, x2, x3, x4, x5, x6, x7, x8)
def lsi_put : List LSig := []
end Go.Proofs.Ytlaalinfmhiehaa
