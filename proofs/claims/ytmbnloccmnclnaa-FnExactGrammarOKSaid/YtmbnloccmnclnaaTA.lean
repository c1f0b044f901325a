/- What the functions of the laws are given and give back, and their names on values; no condition. -/
import Derived.Test.YtmbnloccmnclnaaVmd
import Derived.Test.YtmbnloccmnclnaaVC
import Derived.Tactics
namespace Go.Proofs.Ytmbnloccmnclnaa
open Go.VK AVal

abbrev ty_int64 : Nat := 2
abbrev ty_int : Nat := 3
abbrev ty_bool : Nat := 4
abbrev ty_uint8 : Nat := 5
abbrev ty_abi_BoundsErrorCode : Nat := 6
abbrev ty_runtime_boundsError : Nat := 8
abbrev ty_string : Nat := 9
abbrev ty_runtime_errorString : Nat := 10
abbrev ty_runtime_plainError : Nat := 11
abbrev ty_uintptr : Nat := 12
abbrev ty_runtime_errorAddressString : Nat := 14
abbrev ty_P_runtime_TypeAssertionError : Nat := 15
abbrev ty_P_runtime_PanicNilError : Nat := 16
abbrev ty_P_abi_Type : Nat := 17
abbrev ty_maps_unhashableTypeError : Nat := 19
abbrev ty_int32 : Nat := 21
abbrev ty_S_laws_Term : Nat := 22
abbrev ty_S_string : Nat := 23
abbrev ty_S_laws_Prod : Nat := 24
abbrev ty_laws_Bnf : Nat := 26
abbrev ty_S_laws_LNode : Nat := 37
abbrev ty_S_bool : Nat := 38
abbrev ty_S_laws_Word : Nat := 48
abbrev ty_S_int : Nat := 50
abbrev ty_S_laws_Tree : Nat := 61
abbrev ty_laws_Tree : Nat := 63
abbrev ty_S_S_int : Nat := 69
abbrev ty_S_laws_Token : Nat := 86
abbrev ty_S_laws_Level : Nat := 87
abbrev ty_S_laws_GRule : Nat := 88
abbrev ty_S_laws_Part : Nat := 89
abbrev ty_laws_Grammar : Nat := 91
abbrev ty_S_laws_Same : Nat := 106
abbrev ty_laws_LNode : Nat := 133
abbrev ty_laws_Word : Nat := 142
abbrev ty_map_string_int : Nat := 149
abbrev ty_P_int : Nat := 207
abbrev ty_S_S_bool : Nat := 218
abbrev ty_laws_Same : Nat := 225
abbrev ty_laws_Term : Nat := 254
abbrev ty_laws_Prod : Nat := 256
abbrev ty_S_uint8 : Nat := 269
abbrev ty_map_int_int : Nat := 273
abbrev ty_P_strings_Builder : Nat := 275
abbrev ty_strings_Builder : Nat := 277
abbrev ty_error : Nat := 279
abbrev ty_laws_Token : Nat := 296
abbrev ty_laws_Level : Nat := 298
abbrev ty_S_laws_GAlt : Nat := 300
abbrev ty_laws_GRule : Nat := 302
abbrev ty_laws_Part : Nat := 305
abbrev ty_S_S_string : Nat := 319
abbrev ty_uint : Nat := 339
abbrev ty_P_uint8 : Nat := 343
abbrev ty_uint32 : Nat := 356
abbrev ty_uint64 : Nat := 359
abbrev ty_laws_GAlt : Nat := 364
abbrev ty_runtime_TypeAssertionError : Nat := 375
abbrev ty_abi_TFlag : Nat := 379
abbrev ty_abi_Kind : Nat := 380
abbrev ty_abi_NameOff : Nat := 382
abbrev ty_abi_TypeOff : Nat := 383
abbrev ty_abi_Type : Nat := 385
abbrev n_l_FnExactCyclic : Nat := 3
abbrev n_l_FnExactSet : Nat := 4
abbrev n_l_FnExactTerminals : Nat := 5
abbrev n_l_FnExactScopesOf : Nat := 6
abbrev n_l_FnExactLayout : Nat := 7
abbrev n_l_FnExactGrammarOK : Nat := 8
abbrev n_l_FnExactShortest : Nat := 9
abbrev n_l_FnExactUnify : Nat := 10
/-- laws.FnExactTerminals -/
def sgl_FnExactTerminals : Sig := { i := { vs := [.agg [.ro false 3, .ro false 1, .int .i64, .ro false 5], .ro false 6] }, o := { vs := [.bool] } }
/-- laws.szBnf -/
def sgl_szBnf : Sig := { i := { vs := [.agg [.ro false 3, .ro false 1, .int .i64, .ro false 5], .int .i64] }, o := { vs := [.int .i64] } }
/-- laws.szWordS -/
def sgl_szWordS : Sig := { i := { vs := [.ro false 6, .int .i64] }, o := { vs := [.int .i64] } }
/-- laws.toBnf -/
def sgl_toBnf : Sig := { i := { vs := [.agg [.ro false 3, .ro false 1, .int .i64, .ro false 5]] }, o := { vs := [.agg [.own 3, .own 1, .int .i64, .own 5]] } }
/-- laws.toWordS -/
def sgl_toWordS : Sig := { i := { vs := [.ro false 6] }, o := { vs := [.own 6] } }
/-- spec.Terminals -/
def sgs_Terminals : Sig := { i := { vs := [.agg [.ro false 3, .ro false 1, .int .i64, .ro false 5], .ro false 6] }, o := { vs := [.ro false 1, .ro false 1, .int .i64] } }
/-- impl.Terminals -/
def sgi_Terminals : Sig := { i := { vs := [.agg [.ro false 3, .ro false 1, .int .i64, .ro false 5], .ro false 6] }, o := { vs := [.own 1, .own 1, .int .i64] } }
/-- laws.eqIntS -/
def sgl_eqIntS : Sig := { i := { vs := [.ro false 1, .ro false 1] }, o := { vs := [.bool] } }
/-- laws.eqBnf -/
def sgl_eqBnf : Sig := { i := { vs := [.agg [.ro false 3, .ro false 1, .int .i64, .ro false 5], .agg [.ro false 3, .ro false 1, .int .i64, .ro false 5]] }, o := { vs := [.bool] } }
/-- laws.eqWordS -/
def sgl_eqWordS : Sig := { i := { vs := [.ro false 6, .ro false 6] }, o := { vs := [.bool] } }
/-- laws.markBnf -/
def sgl_markBnf : Sig := { i := { vs := [.agg [.ref 0 [], .ref 1 [], .int .i64, .ref 2 []], .int .i64], os := [(false, .own 3), (false, .own 1), (false, .own 5)] }, o := { vs := [.int .i64], os := [(false, .own 3), (false, .own 1), (false, .own 5)] } }
/-- laws.markWordS -/
def sgl_markWordS : Sig := { i := { vs := [.ref 0 [], .int .i64], os := [(false, .own 6)] }, o := { vs := [.int .i64], os := [(false, .own 6)] } }
/-- laws.markIntS -/
def sgl_markIntS : Sig := { i := { vs := [.ref 0 [], .int .i64], os := [(false, .own 1)] }, o := { vs := [.int .i64], os := [(false, .own 1)] } }
/-- laws.heldIntS -/
def sgl_heldIntS : Sig := { i := { vs := [.ro false 1, .int .i64] }, o := { vs := [.int .i64] } }
/-- laws.szTermS -/
def sgl_szTermS : Sig := { i := { vs := [.ro false 3, .int .i64] }, o := { vs := [.int .i64] } }
/-- laws.szStringS -/
def sgl_szStringS : Sig := { i := { vs := [.ro false 1, .int .i64] }, o := { vs := [.int .i64] } }
/-- laws.szProdS -/
def sgl_szProdS : Sig := { i := { vs := [.ro false 5, .int .i64] }, o := { vs := [.int .i64] } }
/-- laws.szWord -/
def sgl_szWord : Sig := { i := { vs := [.agg [.str, .str, .int .i64, .int .i64, .bool, .str], .int .i64] }, o := { vs := [.int .i64] } }
/-- laws.toTermS -/
def sgl_toTermS : Sig := { i := { vs := [.ro false 3] }, o := { vs := [.own 3] } }
/-- laws.toStringS -/
def sgl_toStringS : Sig := { i := { vs := [.ro false 1] }, o := { vs := [.own 1] } }
/-- laws.toProdS -/
def sgl_toProdS : Sig := { i := { vs := [.ro false 5] }, o := { vs := [.own 5] } }
/-- laws.toWord -/
def sgl_toWord : Sig := { i := { vs := [.agg [.str, .str, .int .i64, .int .i64, .bool, .str]] }, o := { vs := [.agg [.str, .str, .int .i64, .int .i64, .bool, .str]] } }
/-- spec.BnfOK -/
def sgs_BnfOK : Sig := { i := { vs := [.agg [.ro false 3, .ro false 1, .int .i64, .ro false 5]] }, o := { vs := [.bool] } }
/-- spec.l03Lower).term -/
def sgs_l03Lower_term : Sig := { i := { vs := [.ptr 0 [] none, .str], os := [(true, .agg [.str, .own 3, .own 2, .own 2, .own 3, .ro false 3, .ro false 1, .int .i64, .ro false 5, .own 1, .bool])] }, o := { vs := [.int .i64], os := [(true, .agg [.str, .own 3, .own 2, .own 2, .own 3, .ro false 3, .ro false 1, .int .i64, .ro false 5, .own 1, .bool])] } }
/-- impl.BnfOK -/
def sgi_BnfOK : Sig := { i := { vs := [.agg [.ro false 3, .ro false 1, .int .i64, .ro false 5]] }, o := { vs := [.bool] } }
/-- laws.eqTermS -/
def sgl_eqTermS : Sig := { i := { vs := [.ro false 3, .ro false 3] }, o := { vs := [.bool] } }
/-- laws.eqStringS -/
def sgl_eqStringS : Sig := { i := { vs := [.ro false 1, .ro false 1] }, o := { vs := [.bool] } }
/-- laws.eqProdS -/
def sgl_eqProdS : Sig := { i := { vs := [.ro false 5, .ro false 5] }, o := { vs := [.bool] } }
/-- laws.eqWord -/
def sgl_eqWord : Sig := { i := { vs := [.agg [.str, .str, .int .i64, .int .i64, .bool, .str], .agg [.str, .str, .int .i64, .int .i64, .bool, .str]] }, o := { vs := [.bool] } }
/-- laws.markTermS -/
def sgl_markTermS : Sig := { i := { vs := [.ref 0 [], .int .i64], os := [(false, .own 3)] }, o := { vs := [.int .i64], os := [(false, .own 3)] } }
/-- laws.markStringS -/
def sgl_markStringS : Sig := { i := { vs := [.ref 0 [], .int .i64], os := [(false, .own 1)] }, o := { vs := [.int .i64], os := [(false, .own 1)] } }
/-- laws.markProdS -/
def sgl_markProdS : Sig := { i := { vs := [.ref 0 [], .int .i64], os := [(false, .own 5)] }, o := { vs := [.int .i64], os := [(false, .own 5)] } }
/-- laws.markText -/
def sgl_markText : Sig := { i := { vs := [.int .i64] }, o := { vs := [.str] } }
/-- laws.szTerm -/
def sgl_szTerm : Sig := { i := { vs := [.agg [.str, .int .i64, .int .i64], .int .i64] }, o := { vs := [.int .i64] } }
/-- laws.szProd -/
def sgl_szProd : Sig := { i := { vs := [.agg [.int .i64, .ro false 1, .str, .int .i64, .int .i64], .int .i64] }, o := { vs := [.int .i64] } }
/-- laws.toTerm -/
def sgl_toTerm : Sig := { i := { vs := [.agg [.str, .int .i64, .int .i64]] }, o := { vs := [.agg [.str, .int .i64, .int .i64]] } }
/-- laws.toProd -/
def sgl_toProd : Sig := { i := { vs := [.agg [.int .i64, .ro false 1, .str, .int .i64, .int .i64]] }, o := { vs := [.agg [.int .i64, .own 1, .str, .int .i64, .int .i64]] } }
/-- spec.l01Between -/
def sgs_l01Between : Sig := { i := { vs := [.int .i64, .int .i64, .int .i64] }, o := { vs := [.bool] } }
/-- spec.l04Strength -/
def sgs_l04Strength : Sig := { i := { vs := [.int .i64, .int .i64] }, o := { vs := [.bool] } }
/-- spec.l03At -/
def sgs_l03At : Sig := { i := { vs := [.ro false 1, .str] }, o := { vs := [.int .i64] } }
/-- spec.l01Name -/
def sgs_l01Name : Sig := { i := { vs := [.str] }, o := { vs := [.bool] } }
/-- impl.levelOK -/
def sgi_levelOK : Sig := { i := { vs := [.int .i64, .int .i64] }, o := { vs := [.bool] } }
/-- impl.nameOK -/
def sgi_nameOK : Sig := { i := { vs := [.str] }, o := { vs := [.bool] } }
/-- laws.eqTerm -/
def sgl_eqTerm : Sig := { i := { vs := [.agg [.str, .int .i64, .int .i64], .agg [.str, .int .i64, .int .i64]] }, o := { vs := [.bool] } }
/-- laws.eqProd -/
def sgl_eqProd : Sig := { i := { vs := [.agg [.int .i64, .ro false 1, .str, .int .i64, .int .i64], .agg [.int .i64, .ro false 1, .str, .int .i64, .int .i64]] }, o := { vs := [.bool] } }
/-- laws.szIntS -/
def sgl_szIntS : Sig := { i := { vs := [.ro false 1, .int .i64] }, o := { vs := [.int .i64] } }
/-- laws.toIntS -/
def sgl_toIntS : Sig := { i := { vs := [.ro false 1] }, o := { vs := [.own 1] } }
/-- spec.l01Letter -/
def sgs_l01Letter : Sig := { i := { vs := [.int .u8] }, o := { vs := [.bool] } }
/-- spec.l01NameByte -/
def sgs_l01NameByte : Sig := { i := { vs := [.int .u8] }, o := { vs := [.bool] } }
/-- impl.isLetter -/
def sgi_isLetter : Sig := { i := { vs := [.int .u8] }, o := { vs := [.bool] } }
/-- impl.inName -/
def sgi_inName : Sig := { i := { vs := [.int .u8] }, o := { vs := [.bool] } }
/-- spec.l01Digit -/
def sgs_l01Digit : Sig := { i := { vs := [.int .u8] }, o := { vs := [.bool] } }
/-- impl.isDigit -/
def sgi_isDigit : Sig := { i := { vs := [.int .u8] }, o := { vs := [.bool] } }
/-- laws.FnExactGrammarOK -/
def sgl_FnExactGrammarOK : Sig := { i := { vs := [.agg [.str, .ro false 3, .ro false 2, .ro false 2, .ro false 3]] }, o := { vs := [.bool] } }
/-- laws.szGrammar -/
def sgl_szGrammar : Sig := { i := { vs := [.agg [.str, .ro false 3, .ro false 2, .ro false 2, .ro false 3], .int .i64] }, o := { vs := [.int .i64] } }
/-- laws.toGrammar -/
def sgl_toGrammar : Sig := { i := { vs := [.agg [.str, .ro false 3, .ro false 2, .ro false 2, .ro false 3]] }, o := { vs := [.agg [.str, .own 3, .own 2, .own 2, .own 3]] } }
/-- spec.GrammarOK -/
def sgs_GrammarOK : Sig := { i := { vs := [.agg [.str, .ro false 3, .ro false 2, .ro false 2, .ro false 3]] }, o := { vs := [.bool] } }
/-- impl.GrammarOK -/
def sgi_GrammarOK : Sig := { i := { vs := [.agg [.str, .ro false 3, .ro false 2, .ro false 2, .ro false 3]] }, o := { vs := [.bool] } }
/-- laws.eqGrammar -/
def sgl_eqGrammar : Sig := { i := { vs := [.agg [.str, .ro false 3, .ro false 2, .ro false 2, .ro false 3], .agg [.str, .ro false 3, .ro false 2, .ro false 2, .ro false 3]] }, o := { vs := [.bool] } }
/-- laws.szTokenS -/
def sgl_szTokenS : Sig := { i := { vs := [.ro false 3, .int .i64] }, o := { vs := [.int .i64] } }
/-- laws.szLevelS -/
def sgl_szLevelS : Sig := { i := { vs := [.ro false 2, .int .i64] }, o := { vs := [.int .i64] } }
/-- laws.szGRuleS -/
def sgl_szGRuleS : Sig := { i := { vs := [.ro false 2, .int .i64] }, o := { vs := [.int .i64] } }
/-- laws.szPartS -/
def sgl_szPartS : Sig := { i := { vs := [.ro false 3, .int .i64] }, o := { vs := [.int .i64] } }
/-- laws.toTokenS -/
def sgl_toTokenS : Sig := { i := { vs := [.ro false 3] }, o := { vs := [.own 3] } }
/-- laws.toLevelS -/
def sgl_toLevelS : Sig := { i := { vs := [.ro false 2] }, o := { vs := [.own 2] } }
/-- laws.toGRuleS -/
def sgl_toGRuleS : Sig := { i := { vs := [.ro false 2] }, o := { vs := [.own 2] } }
/-- laws.toPartS -/
def sgl_toPartS : Sig := { i := { vs := [.ro false 3] }, o := { vs := [.own 3] } }
/-- spec.l03Small -/
def sgs_l03Small : Sig := { i := { vs := [.agg [.str, .ro false 3, .ro false 2, .ro false 2, .ro false 3]] }, o := { vs := [.bool] } }
/-- spec.l03Plain -/
def sgs_l03Plain : Sig := { i := { vs := [.str] }, o := { vs := [.bool] } }
/-- spec.l03RxOK -/
def sgs_l03RxOK : Sig := { i := { vs := [.str] }, o := { vs := [.bool] } }
/-- spec.l03LitOK -/
def sgs_l03LitOK : Sig := { i := { vs := [.str] }, o := { vs := [.bool] } }
/-- spec.l03Walk).items -/
def sgs_l03Walk_items : Sig := { i := { vs := [.ptr 0 [] none, .ro false 1, .int .i64], os := [(true, .agg [.str, .ro false 3, .ro false 2, .ro false 2, .ro false 3, .int .i64, .bool])] }, o := { vs := [], os := [(true, .agg [.str, .ro false 3, .ro false 2, .ro false 2, .ro false 3, .int .i64, .bool])] } }
/-- impl.plainName -/
def sgi_plainName : Sig := { i := { vs := [.str] }, o := { vs := [.bool] } }
/-- impl.patternOK -/
def sgi_patternOK : Sig := { i := { vs := [.str] }, o := { vs := [.bool] } }
/-- impl.litOK -/
def sgi_litOK : Sig := { i := { vs := [.str] }, o := { vs := [.bool] } }
/-- impl.inOrder -/
def sgi_inOrder : Sig := { i := { vs := [.agg [.str, .ro false 3, .ro false 2, .ro false 2, .ro false 3], .ro false 1, .ptr 0 [] none, .int .i64], os := [(true, .int .i64)] }, o := { vs := [.bool], os := [(true, .int .i64)] } }
/-- laws.eqTokenS -/
def sgl_eqTokenS : Sig := { i := { vs := [.ro false 3, .ro false 3] }, o := { vs := [.bool] } }
/-- laws.eqLevelS -/
def sgl_eqLevelS : Sig := { i := { vs := [.ro false 2, .ro false 2] }, o := { vs := [.bool] } }
/-- laws.eqGRuleS -/
def sgl_eqGRuleS : Sig := { i := { vs := [.ro false 2, .ro false 2] }, o := { vs := [.bool] } }
/-- laws.eqPartS -/
def sgl_eqPartS : Sig := { i := { vs := [.ro false 3, .ro false 3] }, o := { vs := [.bool] } }
/-- laws.szToken -/
def sgl_szToken : Sig := { i := { vs := [.agg [.str, .str, .bool], .int .i64] }, o := { vs := [.int .i64] } }
/-- laws.szLevel -/
def sgl_szLevel : Sig := { i := { vs := [.agg [.int .i64, .ro false 1], .int .i64] }, o := { vs := [.int .i64] } }
/-- laws.szGRule -/
def sgl_szGRule : Sig := { i := { vs := [.agg [.str, .ro false 2], .int .i64] }, o := { vs := [.int .i64] } }
/-- laws.szPart -/
def sgl_szPart : Sig := { i := { vs := [.agg [.int .i64, .str, .ro false 1], .int .i64] }, o := { vs := [.int .i64] } }
/-- laws.toToken -/
def sgl_toToken : Sig := { i := { vs := [.agg [.str, .str, .bool]] }, o := { vs := [.agg [.str, .str, .bool]] } }
/-- laws.toLevel -/
def sgl_toLevel : Sig := { i := { vs := [.agg [.int .i64, .ro false 1]] }, o := { vs := [.agg [.int .i64, .own 1]] } }
/-- laws.toGRule -/
def sgl_toGRule : Sig := { i := { vs := [.agg [.str, .ro false 2]] }, o := { vs := [.agg [.str, .own 2]] } }
/-- laws.toPart -/
def sgl_toPart : Sig := { i := { vs := [.agg [.int .i64, .str, .ro false 1]] }, o := { vs := [.agg [.int .i64, .str, .own 1]] } }
/-- spec.l03Keyword -/
def sgs_l03Keyword : Sig := { i := { vs := [.str] }, o := { vs := [.bool] } }
/-- spec.l03Bytes -/
def sgs_l03Bytes : Sig := { i := { vs := [.str, .int .u8, .int .u8] }, o := { vs := [.bool] } }
/-- spec.l02In -/
def sgs_l02In : Sig := { i := { vs := [.str, .int .u8] }, o := { vs := [.bool] } }
/-- impl.keyword -/
def sgi_keyword : Sig := { i := { vs := [.str] }, o := { vs := [.bool] } }
/-- laws.eqToken -/
def sgl_eqToken : Sig := { i := { vs := [.agg [.str, .str, .bool], .agg [.str, .str, .bool]] }, o := { vs := [.bool] } }
/-- laws.eqLevel -/
def sgl_eqLevel : Sig := { i := { vs := [.agg [.int .i64, .ro false 1], .agg [.int .i64, .ro false 1]] }, o := { vs := [.bool] } }
/-- laws.eqGRule -/
def sgl_eqGRule : Sig := { i := { vs := [.agg [.str, .ro false 2], .agg [.str, .ro false 2]] }, o := { vs := [.bool] } }
/-- laws.eqPart -/
def sgl_eqPart : Sig := { i := { vs := [.agg [.int .i64, .str, .ro false 1], .agg [.int .i64, .str, .ro false 1]] }, o := { vs := [.bool] } }
/-- laws.szGAltS -/
def sgl_szGAltS : Sig := { i := { vs := [.ro false 2, .int .i64] }, o := { vs := [.int .i64] } }
/-- laws.szIntSS -/
def sgl_szIntSS : Sig := { i := { vs := [.ro false 1, .int .i64] }, o := { vs := [.int .i64] } }
/-- laws.toGAltS -/
def sgl_toGAltS : Sig := { i := { vs := [.ro false 2] }, o := { vs := [.own 2] } }
/-- laws.toIntSS -/
def sgl_toIntSS : Sig := { i := { vs := [.ro false 1] }, o := { vs := [.own 1] } }
/-- laws.eqGAltS -/
def sgl_eqGAltS : Sig := { i := { vs := [.ro false 2, .ro false 2] }, o := { vs := [.bool] } }
/-- laws.eqIntSS -/
def sgl_eqIntSS : Sig := { i := { vs := [.ro false 1, .ro false 1] }, o := { vs := [.bool] } }
/-- laws.szGAlt -/
def sgl_szGAlt : Sig := { i := { vs := [.agg [.ro false 1, .str], .int .i64] }, o := { vs := [.int .i64] } }
/-- laws.toGAlt -/
def sgl_toGAlt : Sig := { i := { vs := [.agg [.ro false 1, .str]] }, o := { vs := [.agg [.own 1, .str]] } }
/-- laws.eqGAlt -/
def sgl_eqGAlt : Sig := { i := { vs := [.agg [.ro false 1, .str], .agg [.ro false 1, .str]] }, o := { vs := [.bool] } }
def sigs : List (Nat × Sig) := [(5, sgl_FnExactTerminals), (11, sgl_szBnf), (23, sgl_szWordS), (13, sgl_toBnf), (25, sgl_toWordS), (24, sgs_Terminals), (26, sgi_Terminals), (27, sgl_eqIntS), (15, sgl_eqBnf), (28, sgl_eqWordS), (29, sgl_markBnf), (30, sgl_markWordS), (31, sgl_markIntS), (32, sgl_heldIntS), (63, sgl_szTermS), (64, sgl_szStringS), (65, sgl_szProdS), (86, sgl_szWord), (68, sgl_toTermS), (69, sgl_toStringS), (70, sgl_toProdS), (88, sgl_toWord), (66, sgs_BnfOK), (87, sgs_l03Lower_term), (71, sgi_BnfOK), (74, sgl_eqTermS), (75, sgl_eqStringS), (76, sgl_eqProdS), (89, sgl_eqWord), (90, sgl_markTermS), (91, sgl_markStringS), (92, sgl_markProdS), (93, sgl_markText), (162, sgl_szTerm), (163, sgl_szProd), (168, sgl_toTerm), (169, sgl_toProd), (110, sgs_l01Between), (164, sgs_l04Strength), (165, sgs_l03At), (166, sgs_l01Name), (170, sgi_levelOK), (171, sgi_nameOK), (178, sgl_eqTerm), (179, sgl_eqProd), (180, sgl_szIntS), (183, sgl_toIntS), (226, sgs_l01Letter), (227, sgs_l01NameByte), (230, sgi_isLetter), (231, sgi_inName), (258, sgs_l01Digit), (259, sgi_isDigit), (8, sgl_FnExactGrammarOK), (47, sgl_szGrammar), (49, sgl_toGrammar), (48, sgs_GrammarOK), (50, sgi_GrammarOK), (51, sgl_eqGrammar), (116, sgl_szTokenS), (117, sgl_szLevelS), (118, sgl_szGRuleS), (119, sgl_szPartS), (125, sgl_toTokenS), (126, sgl_toLevelS), (127, sgl_toGRuleS), (128, sgl_toPartS), (120, sgs_l03Small), (121, sgs_l03Plain), (122, sgs_l03RxOK), (123, sgs_l03LitOK), (124, sgs_l03Walk_items), (129, sgi_plainName), (130, sgi_patternOK), (131, sgi_litOK), (132, sgi_inOrder), (133, sgl_eqTokenS), (134, sgl_eqLevelS), (135, sgl_eqGRuleS), (136, sgl_eqPartS), (201, sgl_szToken), (202, sgl_szLevel), (203, sgl_szGRule), (204, sgl_szPart), (207, sgl_toToken), (208, sgl_toLevel), (209, sgl_toGRule), (210, sgl_toPart), (205, sgs_l03Keyword), (206, sgs_l03Bytes), (181, sgs_l02In), (211, sgi_keyword), (212, sgl_eqToken), (213, sgl_eqLevel), (214, sgl_eqGRule), (215, sgl_eqPart), (247, sgl_szGAltS), (248, sgl_szIntSS), (249, sgl_toGAltS), (250, sgl_toIntSS), (251, sgl_eqGAltS), (38, sgl_eqIntSS), (268, sgl_szGAlt), (269, sgl_toGAlt), (270, sgl_eqGAlt)]
noncomputable def Fl_FnExactTerminals (x0 : List AVal) (x1 : List AVal) (x2 : Int) (x3 : List AVal) (x4 : List AVal) : Option (Bool) := FnV ctx 5 sgl_FnExactTerminals (x0, x1, x2, x3, x4)
def lsl_FnExactTerminals : List LSig := []
noncomputable def Fl_szBnf (x0 : List AVal) (x1 : List AVal) (x2 : Int) (x3 : List AVal) (x4 : Int) : Option (Int) := FnV ctx 11 sgl_szBnf (x0, x1, x2, x3, x4)
def lsl_szBnf : List LSig := []
noncomputable def Fl_szWordS (x0 : List AVal) (x1 : Int) : Option (Int) := FnV ctx 23 sgl_szWordS (x0, x1)
def Xl_szWordS_0 : List Ex := [{ out := .ret, st := { env := [(4, .int .i64)] } }, { out := .exit 0, st := { env := [(1, .int .i64)] } }]
def Sl_szWordS_0 : SP := { env := [(0, .ro false 6), (1, .int .i64), (5, .int .i64)] }
noncomputable def Ll_szWordS_0 (x0 : List AVal) (x1 : Int) (x2 : Int) : Option ((Int) ⊕ (Int)) := LpV ctx fn23 0 0 Xl_szWordS_0 Sl_szWordS_0 (x0, x1, x2)
def lsl_szWordS : List LSig := [{ h := 0, X := Xl_szWordS_0, Ss := [Sl_szWordS_0] }]
noncomputable def Fl_toBnf (x0 : List AVal) (x1 : List AVal) (x2 : Int) (x3 : List AVal) : Option (List AVal × List AVal × Int × List AVal) := FnV ctx 13 sgl_toBnf (x0, x1, x2, x3)
def lsl_toBnf : List LSig := []
noncomputable def Fl_toWordS (x0 : List AVal) : Option (List AVal) := FnV ctx 25 sgl_toWordS x0
def Xl_toWordS_0 : List Ex := [{ out := .exit 0, st := { env := [(3, .ref 3 [])], objs := [(3, false, .own 6)] } }]
def Sl_toWordS_0 : SP := { env := [(0, .ro false 6), (3, .ref 3 []), (4, .int .i64)], objs := [(3, false, .own 6)] }
noncomputable def Ll_toWordS_0 (x0 : List AVal) (x1 : Int) (x2 : List AVal) : Option (List AVal) := LpV ctx fn25 0 0 Xl_toWordS_0 Sl_toWordS_0 (x0, x1, x2)
def lsl_toWordS : List LSig := [{ h := 0, X := Xl_toWordS_0, Ss := [Sl_toWordS_0] }]
noncomputable def Fs_Terminals (x0 : List AVal) (x1 : List AVal) (x2 : Int) (x3 : List AVal) (x4 : List AVal) : Option (List AVal × List AVal × Int) := FnV ctx 24 sgs_Terminals (x0, x1, x2, x3, x4)
def Xs_Terminals_0 : List Ex := [{ out := .ret, st := { env := [(4, .ref 4 []), (5, .ref 5 []), (6, .int .i64)], objs := [(4, false, .own 1), (5, false, .own 1)] } }, { out := .exit 0, st := { env := [(8, .ref 8 []), (9, .ref 9 [])], objs := [(8, false, .own 1), (9, false, .own 1)] } }]
def Ss_Terminals_0 : SP := { env := [(1, .ro false 6), (7, .ptr 25 [] none), (8, .ref 8 []), (9, .ref 9 []), (10, .int .i64)], objs := [(25, true, .agg [.str, .own 3, .own 2, .own 2, .own 3, .ro false 3, .ro false 1, .int .i64, .ro false 5, .own 1, .bool]), (8, false, .own 1), (9, false, .own 1)] }
noncomputable def Ls_Terminals_0 (x0 : List AVal) (x1 : Int) (x2 : ByteArray) (x3 : List AVal) (x4 : List AVal) (x5 : List AVal) (x6 : List AVal) (x7 : List AVal) (x8 : List AVal) (x9 : Int) (x10 : List AVal) (x11 : List AVal) (x12 : Bool) (x13 : List AVal) (x14 : List AVal) : Option ((Int × List AVal × List AVal) ⊕ (List AVal × List AVal)) := LpV ctx fn24 0 0 Xs_Terminals_0 Ss_Terminals_0 (x0, x1, x2, x3, x4, x5, x6, x7, x8, x9, x10, x11, x12, x13, x14)
def lss_Terminals : List LSig := [{ h := 0, X := Xs_Terminals_0, Ss := [Ss_Terminals_0] }]
noncomputable def Fi_Terminals (x0 : List AVal) (x1 : List AVal) (x2 : Int) (x3 : List AVal) (x4 : List AVal) : Option (List AVal × List AVal × Int) := FnV ctx 26 sgi_Terminals (x0, x1, x2, x3, x4)
def Xi_Terminals_0 : List Ex := [{ out := .exit 0, st := { env := [(1, .ro false 6), (7, .ref 7 [])], objs := [(7, false, .mp .str)] } }]
def Si_Terminals_0 : SP := { env := [(1, .ro false 6), (7, .ref 7 []), (27, .ro false 3), (28, .int .i64), (29, .int .i64)], objs := [(7, false, .mp .str)] }
noncomputable def Li_Terminals_0 (x0 : List AVal) (x1 : List AVal) (x2 : Int) (x3 : Int) (x4 : List AVal) : Option (List AVal × List AVal) := LpV ctx fn26 0 0 Xi_Terminals_0 Si_Terminals_0 (x0, x1, x2, x3, x4)
def Xi_Terminals_1 : List Ex := [{ out := .ret, st := { env := [(4, .nils 1), (5, .nils 1), (6, .int .i64)] } }, { out := .exit 2, st := { env := [(10, .ref 10 []), (11, .ref 11 [])], objs := [(10, false, .own 1), (11, false, .own 1)] } }]
def Si_Terminals_1 : SP := { env := [(7, .ref 7 []), (10, .ref 10 []), (11, .ref 11 []), (39, .ro false 6), (40, .int .i64), (41, .int .i64)], objs := [(7, false, .mp .str), (10, false, .own 1), (11, false, .own 1)] }
noncomputable def Li_Terminals_1 (x0 : List AVal) (x1 : Int) (x2 : Int) (x3 : List AVal) (x4 : List AVal) (x5 : List AVal) : Option ((Int) ⊕ (List AVal × List AVal)) := LpV ctx fn26 0 1 Xi_Terminals_1 Si_Terminals_1 (x0, x1, x2, x3, x4, x5)
def lsi_Terminals : List LSig := [{ h := 0, X := Xi_Terminals_0, Ss := [Si_Terminals_0] }, { h := 1, X := Xi_Terminals_1, Ss := [Si_Terminals_1] }]
noncomputable def Fl_eqIntS (x0 : List AVal) (x1 : List AVal) : Option (Bool) := FnV ctx 27 sgl_eqIntS (x0, x1)
def Xl_eqIntS_0 : List Ex := [{ out := .ret, st := { env := [(4, .bool)] } }, { out := .exit 0, st := { env := [] } }]
def Sl_eqIntS_0 : SP := { env := [(0, .ro false 1), (1, .ro false 1), (5, .int .i64)] }
noncomputable def Ll_eqIntS_0 (x0 : List AVal) (x1 : List AVal) (x2 : Int) : Option ((Bool) ⊕ (Unit)) := LpV ctx fn27 0 0 Xl_eqIntS_0 Sl_eqIntS_0 (x0, x1, x2)
def lsl_eqIntS : List LSig := [{ h := 0, X := Xl_eqIntS_0, Ss := [Sl_eqIntS_0] }]
noncomputable def Fl_eqBnf (x0 : List AVal) (x1 : List AVal) (x2 : Int) (x3 : List AVal) (x4 : List AVal) (x5 : List AVal) (x6 : Int) (x7 : List AVal) : Option (Bool) := FnV ctx 15 sgl_eqBnf (x0, x1, x2, x3, x4, x5, x6, x7)
def lsl_eqBnf : List LSig := []
noncomputable def Fl_eqWordS (x0 : List AVal) (x1 : List AVal) : Option (Bool) := FnV ctx 28 sgl_eqWordS (x0, x1)
def Xl_eqWordS_0 : List Ex := [{ out := .ret, st := { env := [(4, .bool)] } }, { out := .exit 0, st := { env := [] } }]
def Sl_eqWordS_0 : SP := { env := [(0, .ro false 6), (1, .ro false 6), (5, .int .i64)] }
noncomputable def Ll_eqWordS_0 (x0 : List AVal) (x1 : List AVal) (x2 : Int) : Option ((Bool) ⊕ (Unit)) := LpV ctx fn28 0 0 Xl_eqWordS_0 Sl_eqWordS_0 (x0, x1, x2)
def lsl_eqWordS : List LSig := [{ h := 0, X := Xl_eqWordS_0, Ss := [Sl_eqWordS_0] }]
noncomputable def Fl_markBnf (x0 : Int) (x1 : Int) (x2 : List AVal) (x3 : List AVal) (x4 : List AVal) : Option (Int × List AVal × List AVal × List AVal) := FnV ctx 29 sgl_markBnf (x0, x1, x2, x3, x4)
def lsl_markBnf : List LSig := []
noncomputable def Fl_markWordS (x0 : Int) (x1 : List AVal) : Option (Int × List AVal) := FnV ctx 30 sgl_markWordS (x0, x1)
def Xl_markWordS_0 : List Ex := [{ out := .exit 0, st := { env := [(1, .int .i64)], objs := [(2000000, false, .own 6)] } }]
def Sl_markWordS_0 : SP := { env := [(0, .ref 2000000 []), (1, .int .i64), (5, .int .i64)], objs := [(2000000, false, .own 6)] }
noncomputable def Ll_markWordS_0 (x0 : Int) (x1 : Int) (x2 : List AVal) : Option (Int × List AVal) := LpV ctx fn30 1 0 Xl_markWordS_0 Sl_markWordS_0 (x0, x1, x2)
def lsl_markWordS : List LSig := [{ h := 0, X := Xl_markWordS_0, Ss := [Sl_markWordS_0] }]
noncomputable def Fl_markIntS (x0 : Int) (x1 : List AVal) : Option (Int × List AVal) := FnV ctx 31 sgl_markIntS (x0, x1)
def Xl_markIntS_0 : List Ex := [{ out := .exit 0, st := { env := [(1, .int .i64)], objs := [(2000000, false, .own 1)] } }]
def Sl_markIntS_0 : SP := { env := [(0, .ref 2000000 []), (1, .int .i64), (5, .int .i64)], objs := [(2000000, false, .own 1)] }
noncomputable def Ll_markIntS_0 (x0 : Int) (x1 : Int) (x2 : List AVal) : Option (Int × List AVal) := LpV ctx fn31 1 0 Xl_markIntS_0 Sl_markIntS_0 (x0, x1, x2)
def lsl_markIntS : List LSig := [{ h := 0, X := Xl_markIntS_0, Ss := [Sl_markIntS_0] }]
noncomputable def Fl_heldIntS (x0 : List AVal) (x1 : Int) : Option (Int) := FnV ctx 32 sgl_heldIntS (x0, x1)
def Xl_heldIntS_0 : List Ex := [{ out := .ret, st := { env := [(4, .int .i64)] } }, { out := .exit 0, st := { env := [(1, .int .i64)] } }]
def Sl_heldIntS_0 : SP := { env := [(0, .ro false 1), (1, .int .i64), (5, .int .i64)] }
noncomputable def Ll_heldIntS_0 (x0 : List AVal) (x1 : Int) (x2 : Int) : Option ((Int) ⊕ (Int)) := LpV ctx fn32 0 0 Xl_heldIntS_0 Sl_heldIntS_0 (x0, x1, x2)
def lsl_heldIntS : List LSig := [{ h := 0, X := Xl_heldIntS_0, Ss := [Sl_heldIntS_0] }]
noncomputable def Fl_szTermS (x0 : List AVal) (x1 : Int) : Option (Int) := FnV ctx 63 sgl_szTermS (x0, x1)
def Xl_szTermS_0 : List Ex := [{ out := .ret, st := { env := [(4, .int .i64)] } }, { out := .exit 0, st := { env := [(1, .int .i64)] } }]
def Sl_szTermS_0 : SP := { env := [(0, .ro false 3), (1, .int .i64), (5, .int .i64)] }
noncomputable def Ll_szTermS_0 (x0 : List AVal) (x1 : Int) (x2 : Int) : Option ((Int) ⊕ (Int)) := LpV ctx fn63 0 0 Xl_szTermS_0 Sl_szTermS_0 (x0, x1, x2)
def lsl_szTermS : List LSig := [{ h := 0, X := Xl_szTermS_0, Ss := [Sl_szTermS_0] }]
noncomputable def Fl_szStringS (x0 : List AVal) (x1 : Int) : Option (Int) := FnV ctx 64 sgl_szStringS (x0, x1)
def Xl_szStringS_0 : List Ex := [{ out := .ret, st := { env := [(4, .int .i64)] } }, { out := .exit 0, st := { env := [(1, .int .i64)] } }]
def Sl_szStringS_0 : SP := { env := [(0, .ro false 1), (1, .int .i64), (5, .int .i64)] }
noncomputable def Ll_szStringS_0 (x0 : List AVal) (x1 : Int) (x2 : Int) : Option ((Int) ⊕ (Int)) := LpV ctx fn64 0 0 Xl_szStringS_0 Sl_szStringS_0 (x0, x1, x2)
def lsl_szStringS : List LSig := [{ h := 0, X := Xl_szStringS_0, Ss := [Sl_szStringS_0] }]
noncomputable def Fl_szProdS (x0 : List AVal) (x1 : Int) : Option (Int) := FnV ctx 65 sgl_szProdS (x0, x1)
def Xl_szProdS_0 : List Ex := [{ out := .ret, st := { env := [(4, .int .i64)] } }, { out := .exit 0, st := { env := [(1, .int .i64)] } }]
def Sl_szProdS_0 : SP := { env := [(0, .ro false 5), (1, .int .i64), (5, .int .i64)] }
noncomputable def Ll_szProdS_0 (x0 : List AVal) (x1 : Int) (x2 : Int) : Option ((Int) ⊕ (Int)) := LpV ctx fn65 0 0 Xl_szProdS_0 Sl_szProdS_0 (x0, x1, x2)
def lsl_szProdS : List LSig := [{ h := 0, X := Xl_szProdS_0, Ss := [Sl_szProdS_0] }]
noncomputable def Fl_szWord (x0 : ByteArray) (x1 : ByteArray) (x2 : Int) (x3 : Int) (x4 : Bool) (x5 : ByteArray) (x6 : Int) : Option (Int) := FnV ctx 86 sgl_szWord (x0, x1, x2, x3, x4, x5, x6)
def lsl_szWord : List LSig := []
noncomputable def Fl_toTermS (x0 : List AVal) : Option (List AVal) := FnV ctx 68 sgl_toTermS x0
def Xl_toTermS_0 : List Ex := [{ out := .exit 0, st := { env := [(3, .ref 3 [])], objs := [(3, false, .own 3)] } }]
def Sl_toTermS_0 : SP := { env := [(0, .ro false 3), (3, .ref 3 []), (4, .int .i64)], objs := [(3, false, .own 3)] }
noncomputable def Ll_toTermS_0 (x0 : List AVal) (x1 : Int) (x2 : List AVal) : Option (List AVal) := LpV ctx fn68 0 0 Xl_toTermS_0 Sl_toTermS_0 (x0, x1, x2)
def lsl_toTermS : List LSig := [{ h := 0, X := Xl_toTermS_0, Ss := [Sl_toTermS_0] }]
noncomputable def Fl_toStringS (x0 : List AVal) : Option (List AVal) := FnV ctx 69 sgl_toStringS x0
def Xl_toStringS_0 : List Ex := [{ out := .exit 0, st := { env := [(3, .ref 3 [])], objs := [(3, false, .own 1)] } }]
def Sl_toStringS_0 : SP := { env := [(0, .ro false 1), (3, .ref 3 []), (4, .int .i64)], objs := [(3, false, .own 1)] }
noncomputable def Ll_toStringS_0 (x0 : List AVal) (x1 : Int) (x2 : List AVal) : Option (List AVal) := LpV ctx fn69 0 0 Xl_toStringS_0 Sl_toStringS_0 (x0, x1, x2)
def lsl_toStringS : List LSig := [{ h := 0, X := Xl_toStringS_0, Ss := [Sl_toStringS_0] }]
noncomputable def Fl_toProdS (x0 : List AVal) : Option (List AVal) := FnV ctx 70 sgl_toProdS x0
def Xl_toProdS_0 : List Ex := [{ out := .exit 0, st := { env := [(3, .ref 3 [])], objs := [(3, false, .own 5)] } }]
def Sl_toProdS_0 : SP := { env := [(0, .ro false 5), (3, .ref 3 []), (4, .int .i64)], objs := [(3, false, .own 5)] }
noncomputable def Ll_toProdS_0 (x0 : List AVal) (x1 : Int) (x2 : List AVal) : Option (List AVal) := LpV ctx fn70 0 0 Xl_toProdS_0 Sl_toProdS_0 (x0, x1, x2)
def lsl_toProdS : List LSig := [{ h := 0, X := Xl_toProdS_0, Ss := [Sl_toProdS_0] }]
noncomputable def Fl_toWord (x0 : ByteArray) (x1 : ByteArray) (x2 : Int) (x3 : Int) (x4 : Bool) (x5 : ByteArray) : Option (ByteArray × ByteArray × Int × Int × Bool × ByteArray) := FnV ctx 88 sgl_toWord (x0, x1, x2, x3, x4, x5)
def lsl_toWord : List LSig := []
noncomputable def Fs_BnfOK (x0 : List AVal) (x1 : List AVal) (x2 : Int) (x3 : List AVal) : Option (Bool) := FnV ctx 66 sgs_BnfOK (x0, x1, x2, x3)
def Xs_BnfOK_0 : List Ex := [{ out := .ret, st := { env := [(2, .bool)] } }, { out := .exit 0, st := { env := [(1, .ptr 1 [] none)], objs := [(1, true, .agg [.ro false 3, .ro false 1, .int .i64, .ro false 5])] } }]
def Ss_BnfOK_0 : SP := { env := [(1, .ptr 1 [] none), (3, .int .i64)], objs := [(1, true, .agg [.ro false 3, .ro false 1, .int .i64, .ro false 5])] }
noncomputable def Ls_BnfOK_0 (x0 : Int) (x1 : List AVal) (x2 : List AVal) (x3 : Int) (x4 : List AVal) : Option ((Bool) ⊕ (List AVal × List AVal × Int × List AVal)) := LpV ctx fn66 0 0 Xs_BnfOK_0 Ss_BnfOK_0 (x0, x1, x2, x3, x4)
def Xs_BnfOK_1 : List Ex := [{ out := .ret, st := { env := [(2, .bool)] } }, { out := .exit 2, st := { env := [(1, .ptr 1 [] none), (3, .int .i64)], objs := [(1, true, .agg [.ro false 3, .ro false 1, .int .i64, .ro false 5])] } }]
def Ss_BnfOK_1 : SP := { env := [(1, .ptr 1 [] none), (3, .int .i64), (4, .int .i64)], objs := [(1, true, .agg [.ro false 3, .ro false 1, .int .i64, .ro false 5])] }
noncomputable def Ls_BnfOK_1 (x0 : Int) (x1 : Int) (x2 : List AVal) (x3 : List AVal) (x4 : Int) (x5 : List AVal) : Option ((Bool) ⊕ (Int × List AVal × List AVal × Int × List AVal)) := LpV ctx fn66 0 1 Xs_BnfOK_1 Ss_BnfOK_1 (x0, x1, x2, x3, x4, x5)
def Xs_BnfOK_2 : List Ex := [{ out := .ret, st := { env := [(2, .bool)] } }, { out := .exit 4, st := { env := [(1, .ptr 1 [] none)], objs := [(1, true, .agg [.ro false 3, .ro false 1, .int .i64, .ro false 5])] } }]
def Ss_BnfOK_2 : SP := { env := [(1, .ptr 1 [] none), (5, .int .i64)], objs := [(1, true, .agg [.ro false 3, .ro false 1, .int .i64, .ro false 5])] }
noncomputable def Ls_BnfOK_2 (x0 : Int) (x1 : List AVal) (x2 : List AVal) (x3 : Int) (x4 : List AVal) : Option ((Bool) ⊕ (List AVal × List AVal × Int × List AVal)) := LpV ctx fn66 0 2 Xs_BnfOK_2 Ss_BnfOK_2 (x0, x1, x2, x3, x4)
def Xs_BnfOK_3 : List Ex := [{ out := .ret, st := { env := [(2, .bool)] } }, { out := .exit 6, st := { env := [] } }]
def Ss_BnfOK_3 : SP := { env := [(1, .ptr 1 [] none), (6, .int .i64), (7, .int .i64)], objs := [(1, true, .agg [.ro false 3, .ro false 1, .int .i64, .ro false 5])] }
noncomputable def Ls_BnfOK_3 (x0 : Int) (x1 : Int) (x2 : List AVal) (x3 : List AVal) (x4 : Int) (x5 : List AVal) : Option ((Bool) ⊕ (Unit)) := LpV ctx fn66 0 3 Xs_BnfOK_3 Ss_BnfOK_3 (x0, x1, x2, x3, x4, x5)
def Xs_BnfOK_4 : List Ex := [{ out := .ret, st := { env := [(2, .bool)] } }, { out := .exit 8, st := { env := [(1, .ptr 1 [] none), (6, .int .i64), (7, .int .i64)], objs := [(1, true, .agg [.ro false 3, .ro false 1, .int .i64, .ro false 5])] } }]
def Ss_BnfOK_4 : SP := { env := [(1, .ptr 1 [] none), (6, .int .i64), (7, .int .i64), (8, .ptr 8 [] none), (9, .int .i64)], objs := [(1, true, .agg [.ro false 3, .ro false 1, .int .i64, .ro false 5]), (8, true, .agg [.int .i64, .ro false 1, .str, .int .i64, .int .i64])] }
noncomputable def Ls_BnfOK_4 (x0 : Int) (x1 : Int) (x2 : Int) (x3 : List AVal) (x4 : List AVal) (x5 : Int) (x6 : List AVal) (x7 : Int) (x8 : List AVal) (x9 : ByteArray) (x10 : Int) (x11 : Int) : Option ((Bool) ⊕ (Int × Int × List AVal × List AVal × Int × List AVal)) := LpV ctx fn66 0 4 Xs_BnfOK_4 Ss_BnfOK_4 (x0, x1, x2, x3, x4, x5, x6, x7, x8, x9, x10, x11)
def lss_BnfOK : List LSig := [{ h := 0, X := Xs_BnfOK_0, Ss := [Ss_BnfOK_0] }, { h := 1, X := Xs_BnfOK_1, Ss := [Ss_BnfOK_1] }, { h := 2, X := Xs_BnfOK_2, Ss := [Ss_BnfOK_2] }, { h := 3, X := Xs_BnfOK_3, Ss := [Ss_BnfOK_3] }, { h := 4, X := Xs_BnfOK_4, Ss := [Ss_BnfOK_4] }]
noncomputable def Fs_l03Lower_term (x0 : ByteArray) (x1 : ByteArray) (x2 : List AVal) (x3 : List AVal) (x4 : List AVal) (x5 : List AVal) (x6 : List AVal) (x7 : List AVal) (x8 : Int) (x9 : List AVal) (x10 : List AVal) (x11 : Bool) : Option (Int × ByteArray × List AVal × List AVal × List AVal × List AVal × List AVal × List AVal × Int × List AVal × List AVal × Bool) := FnV ctx 87 sgs_l03Lower_term (x0, x1, x2, x3, x4, x5, x6, x7, x8, x9, x10, x11)
def Xs_l03Lower_term_0 : List Ex := [{ out := .ret, st := { env := [(4, .int .i64)], objs := [(2000000, true, .agg [.str, .own 3, .own 2, .own 2, .own 3, .ro false 3, .ro false 1, .int .i64, .ro false 5, .own 1, .bool])] } }, { out := .exit 0, st := { env := [], objs := [(2000000, true, .agg [.str, .own 3, .own 2, .own 2, .own 3, .ro false 3, .ro false 1, .int .i64, .ro false 5, .own 1, .bool])] } }]
def Ss_l03Lower_term_0 : SP := { env := [(0, .ptr 2000000 [] none), (1, .str), (5, .int .i64)], objs := [(2000000, true, .agg [.str, .own 3, .own 2, .own 2, .own 3, .ro false 3, .ro false 1, .int .i64, .ro false 5, .own 1, .bool])] }
noncomputable def Ls_l03Lower_term_0 (x0 : ByteArray) (x1 : Int) (x2 : ByteArray) (x3 : List AVal) (x4 : List AVal) (x5 : List AVal) (x6 : List AVal) (x7 : List AVal) (x8 : List AVal) (x9 : Int) (x10 : List AVal) (x11 : List AVal) (x12 : Bool) : Option ((Int × ByteArray × List AVal × List AVal × List AVal × List AVal × List AVal × List AVal × Int × List AVal × List AVal × Bool) ⊕ (ByteArray × List AVal × List AVal × List AVal × List AVal × List AVal × List AVal × Int × List AVal × List AVal × Bool)) := LpV ctx fn87 1 0 Xs_l03Lower_term_0 Ss_l03Lower_term_0 (x0, x1, x2, x3, x4, x5, x6, x7, x8, x9, x10, x11, x12)
def lss_l03Lower_term : List LSig := [{ h := 0, X := Xs_l03Lower_term_0, Ss := [Ss_l03Lower_term_0] }]
noncomputable def Fi_BnfOK (x0 : List AVal) (x1 : List AVal) (x2 : Int) (x3 : List AVal) : Option (Bool) := FnV ctx 71 sgi_BnfOK (x0, x1, x2, x3)
def Xi_BnfOK_0 : List Ex := [{ out := .ret, st := { env := [(2, .bool)] } }, { out := .exit 0, st := { env := [(1, .ptr 1 [] none)], objs := [(1, true, .agg [.ro false 3, .ro false 1, .int .i64, .ro false 5])] } }]
def Si_BnfOK_0 : SP := { env := [(1, .ptr 1 [] none), (3, .ref 3 []), (51, .ro false 3), (52, .int .i64), (53, .int .i64)], objs := [(1, true, .agg [.ro false 3, .ro false 1, .int .i64, .ro false 5]), (3, false, .mp .str)] }
noncomputable def Li_BnfOK_0 (x0 : List AVal) (x1 : Int) (x2 : Int) (x3 : List AVal) (x4 : List AVal) (x5 : Int) (x6 : List AVal) (x7 : List AVal) : Option ((Bool) ⊕ (List AVal × List AVal × Int × List AVal)) := LpV ctx fn71 0 0 Xi_BnfOK_0 Si_BnfOK_0 (x0, x1, x2, x3, x4, x5, x6, x7)
def Xi_BnfOK_1 : List Ex := [{ out := .ret, st := { env := [(2, .bool)] } }, { out := .exit 2, st := { env := [(1, .ptr 1 [] none)], objs := [(1, true, .agg [.ro false 3, .ro false 1, .int .i64, .ro false 5])] } }]
def Si_BnfOK_1 : SP := { env := [(1, .ptr 1 [] none), (6, .ref 6 []), (76, .ro false 1), (77, .int .i64), (78, .int .i64)], objs := [(1, true, .agg [.ro false 3, .ro false 1, .int .i64, .ro false 5]), (6, false, .mp .str)] }
noncomputable def Li_BnfOK_1 (x0 : List AVal) (x1 : Int) (x2 : Int) (x3 : List AVal) (x4 : List AVal) (x5 : Int) (x6 : List AVal) (x7 : List AVal) : Option ((Bool) ⊕ (List AVal × List AVal × Int × List AVal)) := LpV ctx fn71 0 1 Xi_BnfOK_1 Si_BnfOK_1 (x0, x1, x2, x3, x4, x5, x6, x7)
def Xi_BnfOK_2 : List Ex := [{ out := .ret, st := { env := [(2, .bool)] } }, { out := .exit 4, st := { env := [] } }]
def Si_BnfOK_2 : SP := { env := [(1, .ptr 1 [] none), (9, .int .i64), (97, .ro false 5), (98, .int .i64), (99, .int .i64)], objs := [(1, true, .agg [.ro false 3, .ro false 1, .int .i64, .ro false 5])] }
noncomputable def Li_BnfOK_2 (x0 : Int) (x1 : List AVal) (x2 : Int) (x3 : Int) (x4 : List AVal) (x5 : List AVal) (x6 : Int) (x7 : List AVal) : Option ((Bool) ⊕ (Unit)) := LpV ctx fn71 0 2 Xi_BnfOK_2 Si_BnfOK_2 (x0, x1, x2, x3, x4, x5, x6, x7)
def Xi_BnfOK_3 : List Ex := [{ out := .ret, st := { env := [(2, .bool)] } }, { out := .exit 6, st := { env := [(1, .ptr 1 [] none), (9, .int .i64), (97, .ro false 5), (98, .int .i64), (99, .int .i64)], objs := [(1, true, .agg [.ro false 3, .ro false 1, .int .i64, .ro false 5])] } }]
def Si_BnfOK_3 : SP := { env := [(1, .ptr 1 [] none), (9, .int .i64), (97, .ro false 5), (98, .int .i64), (99, .int .i64), (141, .ro false 1), (142, .int .i64), (143, .int .i64)], objs := [(1, true, .agg [.ro false 3, .ro false 1, .int .i64, .ro false 5])] }
noncomputable def Li_BnfOK_3 (x0 : Int) (x1 : List AVal) (x2 : Int) (x3 : Int) (x4 : List AVal) (x5 : Int) (x6 : Int) (x7 : List AVal) (x8 : List AVal) (x9 : Int) (x10 : List AVal) : Option ((Bool) ⊕ (Int × List AVal × Int × Int × List AVal × List AVal × Int × List AVal)) := LpV ctx fn71 0 3 Xi_BnfOK_3 Si_BnfOK_3 (x0, x1, x2, x3, x4, x5, x6, x7, x8, x9, x10)
def lsi_BnfOK : List LSig := [{ h := 0, X := Xi_BnfOK_0, Ss := [Si_BnfOK_0] }, { h := 1, X := Xi_BnfOK_1, Ss := [Si_BnfOK_1] }, { h := 2, X := Xi_BnfOK_2, Ss := [Si_BnfOK_2] }, { h := 3, X := Xi_BnfOK_3, Ss := [Si_BnfOK_3] }]
noncomputable def Fl_eqTermS (x0 : List AVal) (x1 : List AVal) : Option (Bool) := FnV ctx 74 sgl_eqTermS (x0, x1)
def Xl_eqTermS_0 : List Ex := [{ out := .ret, st := { env := [(4, .bool)] } }, { out := .exit 0, st := { env := [] } }]
def Sl_eqTermS_0 : SP := { env := [(0, .ro false 3), (1, .ro false 3), (5, .int .i64)] }
noncomputable def Ll_eqTermS_0 (x0 : List AVal) (x1 : List AVal) (x2 : Int) : Option ((Bool) ⊕ (Unit)) := LpV ctx fn74 0 0 Xl_eqTermS_0 Sl_eqTermS_0 (x0, x1, x2)
def lsl_eqTermS : List LSig := [{ h := 0, X := Xl_eqTermS_0, Ss := [Sl_eqTermS_0] }]
noncomputable def Fl_eqStringS (x0 : List AVal) (x1 : List AVal) : Option (Bool) := FnV ctx 75 sgl_eqStringS (x0, x1)
def Xl_eqStringS_0 : List Ex := [{ out := .ret, st := { env := [(4, .bool)] } }, { out := .exit 0, st := { env := [] } }]
def Sl_eqStringS_0 : SP := { env := [(0, .ro false 1), (1, .ro false 1), (5, .int .i64)] }
noncomputable def Ll_eqStringS_0 (x0 : List AVal) (x1 : List AVal) (x2 : Int) : Option ((Bool) ⊕ (Unit)) := LpV ctx fn75 0 0 Xl_eqStringS_0 Sl_eqStringS_0 (x0, x1, x2)
def lsl_eqStringS : List LSig := [{ h := 0, X := Xl_eqStringS_0, Ss := [Sl_eqStringS_0] }]
noncomputable def Fl_eqProdS (x0 : List AVal) (x1 : List AVal) : Option (Bool) := FnV ctx 76 sgl_eqProdS (x0, x1)
def Xl_eqProdS_0 : List Ex := [{ out := .ret, st := { env := [(4, .bool)] } }, { out := .exit 0, st := { env := [] } }]
def Sl_eqProdS_0 : SP := { env := [(0, .ro false 5), (1, .ro false 5), (5, .int .i64)] }
noncomputable def Ll_eqProdS_0 (x0 : List AVal) (x1 : List AVal) (x2 : Int) : Option ((Bool) ⊕ (Unit)) := LpV ctx fn76 0 0 Xl_eqProdS_0 Sl_eqProdS_0 (x0, x1, x2)
def lsl_eqProdS : List LSig := [{ h := 0, X := Xl_eqProdS_0, Ss := [Sl_eqProdS_0] }]
noncomputable def Fl_eqWord (x0 : ByteArray) (x1 : ByteArray) (x2 : Int) (x3 : Int) (x4 : Bool) (x5 : ByteArray) (x6 : ByteArray) (x7 : ByteArray) (x8 : Int) (x9 : Int) (x10 : Bool) (x11 : ByteArray) : Option (Bool) := FnV ctx 89 sgl_eqWord (x0, x1, x2, x3, x4, x5, x6, x7, x8, x9, x10, x11)
def lsl_eqWord : List LSig := []
noncomputable def Fl_markTermS (x0 : Int) (x1 : List AVal) : Option (Int × List AVal) := FnV ctx 90 sgl_markTermS (x0, x1)
def Xl_markTermS_0 : List Ex := [{ out := .exit 0, st := { env := [(1, .int .i64)], objs := [(2000000, false, .own 3)] } }]
def Sl_markTermS_0 : SP := { env := [(0, .ref 2000000 []), (1, .int .i64), (5, .int .i64)], objs := [(2000000, false, .own 3)] }
noncomputable def Ll_markTermS_0 (x0 : Int) (x1 : Int) (x2 : List AVal) : Option (Int × List AVal) := LpV ctx fn90 1 0 Xl_markTermS_0 Sl_markTermS_0 (x0, x1, x2)
def lsl_markTermS : List LSig := [{ h := 0, X := Xl_markTermS_0, Ss := [Sl_markTermS_0] }]
noncomputable def Fl_markStringS (x0 : Int) (x1 : List AVal) : Option (Int × List AVal) := FnV ctx 91 sgl_markStringS (x0, x1)
def Xl_markStringS_0 : List Ex := [{ out := .exit 0, st := { env := [(1, .int .i64)], objs := [(2000000, false, .own 1)] } }]
def Sl_markStringS_0 : SP := { env := [(0, .ref 2000000 []), (1, .int .i64), (5, .int .i64)], objs := [(2000000, false, .own 1)] }
noncomputable def Ll_markStringS_0 (x0 : Int) (x1 : Int) (x2 : List AVal) : Option (Int × List AVal) := LpV ctx fn91 1 0 Xl_markStringS_0 Sl_markStringS_0 (x0, x1, x2)
def lsl_markStringS : List LSig := [{ h := 0, X := Xl_markStringS_0, Ss := [Sl_markStringS_0] }]
noncomputable def Fl_markProdS (x0 : Int) (x1 : List AVal) : Option (Int × List AVal) := FnV ctx 92 sgl_markProdS (x0, x1)
def Xl_markProdS_0 : List Ex := [{ out := .exit 0, st := { env := [(1, .int .i64)], objs := [(2000000, false, .own 5)] } }]
def Sl_markProdS_0 : SP := { env := [(0, .ref 2000000 []), (1, .int .i64), (5, .int .i64)], objs := [(2000000, false, .own 5)] }
noncomputable def Ll_markProdS_0 (x0 : Int) (x1 : Int) (x2 : List AVal) : Option (Int × List AVal) := LpV ctx fn92 1 0 Xl_markProdS_0 Sl_markProdS_0 (x0, x1, x2)
def lsl_markProdS : List LSig := [{ h := 0, X := Xl_markProdS_0, Ss := [Sl_markProdS_0] }]
noncomputable def Fl_markText (x0 : Int) : Option (ByteArray) := FnV ctx 93 sgl_markText x0
def Xl_markText_0 : List Ex := [{ out := .exit 0, st := { env := [(3, .str)] } }]
def Sl_markText_0 : SP := { env := [(0, .int .i64), (3, .str)] }
noncomputable def Ll_markText_0 (x0 : Int) (x1 : ByteArray) : Option (ByteArray) := LpV ctx fn93 0 0 Xl_markText_0 Sl_markText_0 (x0, x1)
def lsl_markText : List LSig := [{ h := 0, X := Xl_markText_0, Ss := [Sl_markText_0] }]
noncomputable def Fl_szTerm (x0 : ByteArray) (x1 : Int) (x2 : Int) (x3 : Int) : Option (Int) := FnV ctx 162 sgl_szTerm (x0, x1, x2, x3)
def lsl_szTerm : List LSig := []
noncomputable def Fl_szProd (x0 : Int) (x1 : List AVal) (x2 : ByteArray) (x3 : Int) (x4 : Int) (x5 : Int) : Option (Int) := FnV ctx 163 sgl_szProd (x0, x1, x2, x3, x4, x5)
def lsl_szProd : List LSig := []
noncomputable def Fl_toTerm (x0 : ByteArray) (x1 : Int) (x2 : Int) : Option (ByteArray × Int × Int) := FnV ctx 168 sgl_toTerm (x0, x1, x2)
def lsl_toTerm : List LSig := []
noncomputable def Fl_toProd (x0 : Int) (x1 : List AVal) (x2 : ByteArray) (x3 : Int) (x4 : Int) : Option (Int × List AVal × ByteArray × Int × Int) := FnV ctx 169 sgl_toProd (x0, x1, x2, x3, x4)
def lsl_toProd : List LSig := []
noncomputable def Fs_l01Between (x0 : Int) (x1 : Int) (x2 : Int) : Option (Bool) := FnV ctx 110 sgs_l01Between (x0, x1, x2)
def lss_l01Between : List LSig := []
noncomputable def Fs_l04Strength (x0 : Int) (x1 : Int) : Option (Bool) := FnV ctx 164 sgs_l04Strength (x0, x1)
def lss_l04Strength : List LSig := []
noncomputable def Fs_l03At (x0 : List AVal) (x1 : ByteArray) : Option (Int) := FnV ctx 165 sgs_l03At (x0, x1)
def Xs_l03At_0 : List Ex := [{ out := .ret, st := { env := [(4, .int .i64)] } }, { out := .exit 0, st := { env := [] } }]
def Ss_l03At_0 : SP := { env := [(0, .ro false 1), (1, .str), (5, .int .i64)] }
noncomputable def Ls_l03At_0 (x0 : List AVal) (x1 : ByteArray) (x2 : Int) : Option ((Int) ⊕ (Unit)) := LpV ctx fn165 0 0 Xs_l03At_0 Ss_l03At_0 (x0, x1, x2)
def lss_l03At : List LSig := [{ h := 0, X := Xs_l03At_0, Ss := [Ss_l03At_0] }]
noncomputable def Fs_l01Name (x0 : ByteArray) : Option (Bool) := FnV ctx 166 sgs_l01Name x0
def Xs_l01Name_0 : List Ex := [{ out := .ret, st := { env := [(2, .bool)] } }, { out := .exit 0, st := { env := [] } }]
def Ss_l01Name_0 : SP := { env := [(0, .str), (3, .int .i64)] }
noncomputable def Ls_l01Name_0 (x0 : ByteArray) (x1 : Int) : Option ((Bool) ⊕ (Unit)) := LpV ctx fn166 0 0 Xs_l01Name_0 Ss_l01Name_0 (x0, x1)
def lss_l01Name : List LSig := [{ h := 0, X := Xs_l01Name_0, Ss := [Ss_l01Name_0] }]
noncomputable def Fi_levelOK (x0 : Int) (x1 : Int) : Option (Bool) := FnV ctx 170 sgi_levelOK (x0, x1)
def lsi_levelOK : List LSig := []
noncomputable def Fi_nameOK (x0 : ByteArray) : Option (Bool) := FnV ctx 171 sgi_nameOK x0
def Xi_nameOK_0 : List Ex := [{ out := .ret, st := { env := [(2, .bool)] } }, { out := .exit 0, st := { env := [] } }]
def Si_nameOK_0 : SP := { env := [(0, .str), (3, .int .i64)] }
noncomputable def Li_nameOK_0 (x0 : ByteArray) (x1 : Int) : Option ((Bool) ⊕ (Unit)) := LpV ctx fn171 0 0 Xi_nameOK_0 Si_nameOK_0 (x0, x1)
def lsi_nameOK : List LSig := [{ h := 0, X := Xi_nameOK_0, Ss := [Si_nameOK_0] }]
noncomputable def Fl_eqTerm (x0 : ByteArray) (x1 : Int) (x2 : Int) (x3 : ByteArray) (x4 : Int) (x5 : Int) : Option (Bool) := FnV ctx 178 sgl_eqTerm (x0, x1, x2, x3, x4, x5)
def lsl_eqTerm : List LSig := []
noncomputable def Fl_eqProd (x0 : Int) (x1 : List AVal) (x2 : ByteArray) (x3 : Int) (x4 : Int) (x5 : Int) (x6 : List AVal) (x7 : ByteArray) (x8 : Int) (x9 : Int) : Option (Bool) := FnV ctx 179 sgl_eqProd (x0, x1, x2, x3, x4, x5, x6, x7, x8, x9)
def lsl_eqProd : List LSig := []
noncomputable def Fl_szIntS (x0 : List AVal) (x1 : Int) : Option (Int) := FnV ctx 180 sgl_szIntS (x0, x1)
def lsl_szIntS : List LSig := []
noncomputable def Fl_toIntS (x0 : List AVal) : Option (List AVal) := FnV ctx 183 sgl_toIntS x0
def Xl_toIntS_0 : List Ex := [{ out := .exit 0, st := { env := [(3, .ref 3 [])], objs := [(3, false, .own 1)] } }]
def Sl_toIntS_0 : SP := { env := [(0, .ro false 1), (3, .ref 3 []), (4, .int .i64)], objs := [(3, false, .own 1)] }
noncomputable def Ll_toIntS_0 (x0 : List AVal) (x1 : Int) (x2 : List AVal) : Option (List AVal) := LpV ctx fn183 0 0 Xl_toIntS_0 Sl_toIntS_0 (x0, x1, x2)
def lsl_toIntS : List LSig := [{ h := 0, X := Xl_toIntS_0, Ss := [Sl_toIntS_0] }]
noncomputable def Fs_l01Letter (x0 : Int) : Option (Bool) := FnV ctx 226 sgs_l01Letter x0
def lss_l01Letter : List LSig := []
noncomputable def Fs_l01NameByte (x0 : Int) : Option (Bool) := FnV ctx 227 sgs_l01NameByte x0
def lss_l01NameByte : List LSig := []
noncomputable def Fi_isLetter (x0 : Int) : Option (Bool) := FnV ctx 230 sgi_isLetter x0
def lsi_isLetter : List LSig := []
noncomputable def Fi_inName (x0 : Int) : Option (Bool) := FnV ctx 231 sgi_inName x0
def lsi_inName : List LSig := []
noncomputable def Fs_l01Digit (x0 : Int) : Option (Bool) := FnV ctx 258 sgs_l01Digit x0
def lss_l01Digit : List LSig := []
noncomputable def Fi_isDigit (x0 : Int) : Option (Bool) := FnV ctx 259 sgi_isDigit x0
def lsi_isDigit : List LSig := []
noncomputable def Fl_FnExactGrammarOK (x0 : ByteArray) (x1 : List AVal) (x2 : List AVal) (x3 : List AVal) (x4 : List AVal) : Option (Bool) := FnV ctx 8 sgl_FnExactGrammarOK (x0, x1, x2, x3, x4)
def lsl_FnExactGrammarOK : List LSig := []
noncomputable def Fl_szGrammar (x0 : ByteArray) (x1 : List AVal) (x2 : List AVal) (x3 : List AVal) (x4 : List AVal) (x5 : Int) : Option (Int) := FnV ctx 47 sgl_szGrammar (x0, x1, x2, x3, x4, x5)
def lsl_szGrammar : List LSig := []
noncomputable def Fl_toGrammar (x0 : ByteArray) (x1 : List AVal) (x2 : List AVal) (x3 : List AVal) (x4 : List AVal) : Option (ByteArray × List AVal × List AVal × List AVal × List AVal) := FnV ctx 49 sgl_toGrammar (x0, x1, x2, x3, x4)
def lsl_toGrammar : List LSig := []
noncomputable def Fs_GrammarOK (x0 : ByteArray) (x1 : List AVal) (x2 : List AVal) (x3 : List AVal) (x4 : List AVal) : Option (Bool) := FnV ctx 48 sgs_GrammarOK (x0, x1, x2, x3, x4)
def Xs_GrammarOK_0 : List Ex := [{ out := .ret, st := { env := [(2, .bool)] } }, { out := .exit 0, st := { env := [(1, .ptr 1 [] none)], objs := [(1, true, .agg [.str, .ro false 3, .ro false 2, .ro false 2, .ro false 3])] } }]
def Ss_GrammarOK_0 : SP := { env := [(1, .ptr 1 [] none), (3, .int .i64)], objs := [(1, true, .agg [.str, .ro false 3, .ro false 2, .ro false 2, .ro false 3])] }
noncomputable def Ls_GrammarOK_0 (x0 : Int) (x1 : ByteArray) (x2 : List AVal) (x3 : List AVal) (x4 : List AVal) (x5 : List AVal) : Option ((Bool) ⊕ (ByteArray × List AVal × List AVal × List AVal × List AVal)) := LpV ctx fn48 0 0 Xs_GrammarOK_0 Ss_GrammarOK_0 (x0, x1, x2, x3, x4, x5)
def Xs_GrammarOK_1 : List Ex := [{ out := .ret, st := { env := [(2, .bool)] } }, { out := .exit 2, st := { env := [(1, .ptr 1 [] none)], objs := [(1, true, .agg [.str, .ro false 3, .ro false 2, .ro false 2, .ro false 3])] } }]
def Ss_GrammarOK_1 : SP := { env := [(1, .ptr 1 [] none), (4, .int .i64)], objs := [(1, true, .agg [.str, .ro false 3, .ro false 2, .ro false 2, .ro false 3])] }
noncomputable def Ls_GrammarOK_1 (x0 : Int) (x1 : ByteArray) (x2 : List AVal) (x3 : List AVal) (x4 : List AVal) (x5 : List AVal) : Option ((Bool) ⊕ (ByteArray × List AVal × List AVal × List AVal × List AVal)) := LpV ctx fn48 0 1 Xs_GrammarOK_1 Ss_GrammarOK_1 (x0, x1, x2, x3, x4, x5)
def Xs_GrammarOK_2 : List Ex := [{ out := .ret, st := { env := [(2, .bool)] } }, { out := .exit 4, st := { env := [(1, .ptr 1 [] none), (4, .int .i64)], objs := [(1, true, .agg [.str, .ro false 3, .ro false 2, .ro false 2, .ro false 3])] } }]
def Ss_GrammarOK_2 : SP := { env := [(1, .ptr 1 [] none), (4, .int .i64), (5, .ptr 5 [] none), (6, .int .i64)], objs := [(1, true, .agg [.str, .ro false 3, .ro false 2, .ro false 2, .ro false 3]), (5, true, .agg [.int .i64, .ro false 1])] }
noncomputable def Ls_GrammarOK_2 (x0 : Int) (x1 : Int) (x2 : ByteArray) (x3 : List AVal) (x4 : List AVal) (x5 : List AVal) (x6 : List AVal) (x7 : Int) (x8 : List AVal) : Option ((Bool) ⊕ (Int × ByteArray × List AVal × List AVal × List AVal × List AVal)) := LpV ctx fn48 0 2 Xs_GrammarOK_2 Ss_GrammarOK_2 (x0, x1, x2, x3, x4, x5, x6, x7, x8)
def Xs_GrammarOK_3 : List Ex := [{ out := .ret, st := { env := [(2, .bool)] } }, { out := .exit 6, st := { env := [(1, .ptr 1 [] none), (7, .ptr 83 [] none)], objs := [(1, true, .agg [.str, .ro false 3, .ro false 2, .ro false 2, .ro false 3]), (83, true, .agg [.str, .ro false 3, .ro false 2, .ro false 2, .ro false 3, .int .i64, .bool])] } }]
def Ss_GrammarOK_3 : SP := { env := [(1, .ptr 1 [] none), (7, .ptr 83 [] none), (8, .int .i64)], objs := [(1, true, .agg [.str, .ro false 3, .ro false 2, .ro false 2, .ro false 3]), (83, true, .agg [.str, .ro false 3, .ro false 2, .ro false 2, .ro false 3, .int .i64, .bool])] }
noncomputable def Ls_GrammarOK_3 (x0 : Int) (x1 : ByteArray) (x2 : List AVal) (x3 : List AVal) (x4 : List AVal) (x5 : List AVal) (x6 : ByteArray) (x7 : List AVal) (x8 : List AVal) (x9 : List AVal) (x10 : List AVal) (x11 : Int) (x12 : Bool) : Option ((Bool) ⊕ (ByteArray × List AVal × List AVal × List AVal × List AVal × ByteArray × List AVal × List AVal × List AVal × List AVal × Int × Bool)) := LpV ctx fn48 0 3 Xs_GrammarOK_3 Ss_GrammarOK_3 (x0, x1, x2, x3, x4, x5, x6, x7, x8, x9, x10, x11, x12)
def Xs_GrammarOK_4 : List Ex := [{ out := .ret, st := { env := [(2, .bool)] } }, { out := .exit 8, st := { env := [(1, .ptr 1 [] none), (7, .ptr 83 [] none), (8, .int .i64)], objs := [(1, true, .agg [.str, .ro false 3, .ro false 2, .ro false 2, .ro false 3]), (83, true, .agg [.str, .ro false 3, .ro false 2, .ro false 2, .ro false 3, .int .i64, .bool])] } }]
def Ss_GrammarOK_4 : SP := { env := [(1, .ptr 1 [] none), (7, .ptr 83 [] none), (8, .int .i64), (9, .ptr 9 [] none), (10, .int .i64)], objs := [(1, true, .agg [.str, .ro false 3, .ro false 2, .ro false 2, .ro false 3]), (83, true, .agg [.str, .ro false 3, .ro false 2, .ro false 2, .ro false 3, .int .i64, .bool]), (9, true, .agg [.str, .ro false 2])] }
noncomputable def Ls_GrammarOK_4 (x0 : Int) (x1 : Int) (x2 : ByteArray) (x3 : List AVal) (x4 : List AVal) (x5 : List AVal) (x6 : List AVal) (x7 : ByteArray) (x8 : List AVal) (x9 : List AVal) (x10 : List AVal) (x11 : List AVal) (x12 : Int) (x13 : Bool) (x14 : ByteArray) (x15 : List AVal) : Option ((Bool) ⊕ (Int × ByteArray × List AVal × List AVal × List AVal × List AVal × ByteArray × List AVal × List AVal × List AVal × List AVal × Int × Bool)) := LpV ctx fn48 0 4 Xs_GrammarOK_4 Ss_GrammarOK_4 (x0, x1, x2, x3, x4, x5, x6, x7, x8, x9, x10, x11, x12, x13, x14, x15)
def lss_GrammarOK : List LSig := [{ h := 0, X := Xs_GrammarOK_0, Ss := [Ss_GrammarOK_0] }, { h := 1, X := Xs_GrammarOK_1, Ss := [Ss_GrammarOK_1] }, { h := 2, X := Xs_GrammarOK_2, Ss := [Ss_GrammarOK_2] }, { h := 3, X := Xs_GrammarOK_3, Ss := [Ss_GrammarOK_3] }, { h := 4, X := Xs_GrammarOK_4, Ss := [Ss_GrammarOK_4] }]
noncomputable def Fi_GrammarOK (x0 : ByteArray) (x1 : List AVal) (x2 : List AVal) (x3 : List AVal) (x4 : List AVal) : Option (Bool) := FnV ctx 50 sgi_GrammarOK (x0, x1, x2, x3, x4)
def Xi_GrammarOK_0 : List Ex := [{ out := .ret, st := { env := [(2, .bool)] } }, { out := .exit 0, st := { env := [(1, .ptr 1 [] none)], objs := [(1, true, .agg [.str, .ro false 3, .ro false 2, .ro false 2, .ro false 3])] } }]
def Si_GrammarOK_0 : SP := { env := [(1, .ptr 1 [] none), (43, .ro false 3), (44, .int .i64), (45, .int .i64)], objs := [(1, true, .agg [.str, .ro false 3, .ro false 2, .ro false 2, .ro false 3])] }
noncomputable def Li_GrammarOK_0 (x0 : List AVal) (x1 : Int) (x2 : Int) (x3 : ByteArray) (x4 : List AVal) (x5 : List AVal) (x6 : List AVal) (x7 : List AVal) : Option ((Bool) ⊕ (ByteArray × List AVal × List AVal × List AVal × List AVal)) := LpV ctx fn50 0 0 Xi_GrammarOK_0 Si_GrammarOK_0 (x0, x1, x2, x3, x4, x5, x6, x7)
def Xi_GrammarOK_1 : List Ex := [{ out := .ret, st := { env := [(2, .bool)] } }, { out := .exit 2, st := { env := [(1, .ptr 1 [] none)], objs := [(1, true, .agg [.str, .ro false 3, .ro false 2, .ro false 2, .ro false 3])] } }]
def Si_GrammarOK_1 : SP := { env := [(1, .ptr 1 [] none), (61, .ro false 2), (62, .int .i64), (63, .int .i64)], objs := [(1, true, .agg [.str, .ro false 3, .ro false 2, .ro false 2, .ro false 3])] }
noncomputable def Li_GrammarOK_1 (x0 : List AVal) (x1 : Int) (x2 : Int) (x3 : ByteArray) (x4 : List AVal) (x5 : List AVal) (x6 : List AVal) (x7 : List AVal) : Option ((Bool) ⊕ (ByteArray × List AVal × List AVal × List AVal × List AVal)) := LpV ctx fn50 0 1 Xi_GrammarOK_1 Si_GrammarOK_1 (x0, x1, x2, x3, x4, x5, x6, x7)
def Xi_GrammarOK_2 : List Ex := [{ out := .ret, st := { env := [(2, .bool)] } }, { out := .exit 4, st := { env := [(1, .ptr 1 [] none), (61, .ro false 2), (62, .int .i64), (63, .int .i64)], objs := [(1, true, .agg [.str, .ro false 3, .ro false 2, .ro false 2, .ro false 3])] } }]
def Si_GrammarOK_2 : SP := { env := [(1, .ptr 1 [] none), (61, .ro false 2), (62, .int .i64), (63, .int .i64), (82, .ro false 1), (83, .int .i64), (84, .int .i64)], objs := [(1, true, .agg [.str, .ro false 3, .ro false 2, .ro false 2, .ro false 3])] }
noncomputable def Li_GrammarOK_2 (x0 : List AVal) (x1 : Int) (x2 : Int) (x3 : List AVal) (x4 : Int) (x5 : Int) (x6 : ByteArray) (x7 : List AVal) (x8 : List AVal) (x9 : List AVal) (x10 : List AVal) : Option ((Bool) ⊕ (List AVal × Int × Int × ByteArray × List AVal × List AVal × List AVal × List AVal)) := LpV ctx fn50 0 2 Xi_GrammarOK_2 Si_GrammarOK_2 (x0, x1, x2, x3, x4, x5, x6, x7, x8, x9, x10)
def Xi_GrammarOK_3 : List Ex := [{ out := .ret, st := { env := [(2, .bool)] } }, { out := .exit 6, st := { env := [(1, .ptr 1 [] none), (9, .ptr 9 [] none)], objs := [(1, true, .agg [.str, .ro false 3, .ro false 2, .ro false 2, .ro false 3]), (9, true, .int .i64)] } }]
def Si_GrammarOK_3 : SP := { env := [(1, .ptr 1 [] none), (9, .ptr 9 [] none), (94, .ro false 2), (95, .int .i64), (96, .int .i64)], objs := [(1, true, .agg [.str, .ro false 3, .ro false 2, .ro false 2, .ro false 3]), (9, true, .int .i64)] }
noncomputable def Li_GrammarOK_3 (x0 : List AVal) (x1 : Int) (x2 : Int) (x3 : ByteArray) (x4 : List AVal) (x5 : List AVal) (x6 : List AVal) (x7 : List AVal) (x8 : Int) : Option ((Bool) ⊕ (ByteArray × List AVal × List AVal × List AVal × List AVal × Int)) := LpV ctx fn50 0 3 Xi_GrammarOK_3 Si_GrammarOK_3 (x0, x1, x2, x3, x4, x5, x6, x7, x8)
def Xi_GrammarOK_4 : List Ex := [{ out := .ret, st := { env := [(2, .bool)] } }, { out := .exit 8, st := { env := [(1, .ptr 1 [] none), (9, .ptr 9 [] none), (94, .ro false 2), (95, .int .i64), (96, .int .i64)], objs := [(1, true, .agg [.str, .ro false 3, .ro false 2, .ro false 2, .ro false 3]), (9, true, .int .i64)] } }]
def Si_GrammarOK_4 : SP := { env := [(1, .ptr 1 [] none), (9, .ptr 9 [] none), (94, .ro false 2), (95, .int .i64), (96, .int .i64), (111, .ro false 2), (112, .int .i64), (113, .int .i64)], objs := [(1, true, .agg [.str, .ro false 3, .ro false 2, .ro false 2, .ro false 3]), (9, true, .int .i64)] }
noncomputable def Li_GrammarOK_4 (x0 : List AVal) (x1 : Int) (x2 : Int) (x3 : List AVal) (x4 : Int) (x5 : Int) (x6 : ByteArray) (x7 : List AVal) (x8 : List AVal) (x9 : List AVal) (x10 : List AVal) (x11 : Int) : Option ((Bool) ⊕ (List AVal × Int × Int × ByteArray × List AVal × List AVal × List AVal × List AVal × Int)) := LpV ctx fn50 0 4 Xi_GrammarOK_4 Si_GrammarOK_4 (x0, x1, x2, x3, x4, x5, x6, x7, x8, x9, x10, x11)
def lsi_GrammarOK : List LSig := [{ h := 0, X := Xi_GrammarOK_0, Ss := [Si_GrammarOK_0] }, { h := 1, X := Xi_GrammarOK_1, Ss := [Si_GrammarOK_1] }, { h := 2, X := Xi_GrammarOK_2, Ss := [Si_GrammarOK_2] }, { h := 3, X := Xi_GrammarOK_3, Ss := [Si_GrammarOK_3] }, { h := 4, X := Xi_GrammarOK_4, Ss := [Si_GrammarOK_4] }]
noncomputable def Fl_eqGrammar (x0 : ByteArray) (x1 : List AVal) (x2 : List AVal) (x3 : List AVal) (x4 : List AVal) (x5 : ByteArray) (x6 : List AVal) (x7 : List AVal) (x8 : List AVal) (x9 : List AVal) : Option (Bool) := FnV ctx 51 sgl_eqGrammar (x0, x1, x2, x3, x4, x5, x6, x7, x8, x9)
def lsl_eqGrammar : List LSig := []
noncomputable def Fl_szTokenS (x0 : List AVal) (x1 : Int) : Option (Int) := FnV ctx 116 sgl_szTokenS (x0, x1)
def Xl_szTokenS_0 : List Ex := [{ out := .ret, st := { env := [(4, .int .i64)] } }, { out := .exit 0, st := { env := [(1, .int .i64)] } }]
def Sl_szTokenS_0 : SP := { env := [(0, .ro false 3), (1, .int .i64), (5, .int .i64)] }
noncomputable def Ll_szTokenS_0 (x0 : List AVal) (x1 : Int) (x2 : Int) : Option ((Int) ⊕ (Int)) := LpV ctx fn116 0 0 Xl_szTokenS_0 Sl_szTokenS_0 (x0, x1, x2)
def lsl_szTokenS : List LSig := [{ h := 0, X := Xl_szTokenS_0, Ss := [Sl_szTokenS_0] }]
noncomputable def Fl_szLevelS (x0 : List AVal) (x1 : Int) : Option (Int) := FnV ctx 117 sgl_szLevelS (x0, x1)
def Xl_szLevelS_0 : List Ex := [{ out := .ret, st := { env := [(4, .int .i64)] } }, { out := .exit 0, st := { env := [(1, .int .i64)] } }]
def Sl_szLevelS_0 : SP := { env := [(0, .ro false 2), (1, .int .i64), (5, .int .i64)] }
noncomputable def Ll_szLevelS_0 (x0 : List AVal) (x1 : Int) (x2 : Int) : Option ((Int) ⊕ (Int)) := LpV ctx fn117 0 0 Xl_szLevelS_0 Sl_szLevelS_0 (x0, x1, x2)
def lsl_szLevelS : List LSig := [{ h := 0, X := Xl_szLevelS_0, Ss := [Sl_szLevelS_0] }]
noncomputable def Fl_szGRuleS (x0 : List AVal) (x1 : Int) : Option (Int) := FnV ctx 118 sgl_szGRuleS (x0, x1)
def Xl_szGRuleS_0 : List Ex := [{ out := .ret, st := { env := [(4, .int .i64)] } }, { out := .exit 0, st := { env := [(1, .int .i64)] } }]
def Sl_szGRuleS_0 : SP := { env := [(0, .ro false 2), (1, .int .i64), (5, .int .i64)] }
noncomputable def Ll_szGRuleS_0 (x0 : List AVal) (x1 : Int) (x2 : Int) : Option ((Int) ⊕ (Int)) := LpV ctx fn118 0 0 Xl_szGRuleS_0 Sl_szGRuleS_0 (x0, x1, x2)
def lsl_szGRuleS : List LSig := [{ h := 0, X := Xl_szGRuleS_0, Ss := [Sl_szGRuleS_0] }]
noncomputable def Fl_szPartS (x0 : List AVal) (x1 : Int) : Option (Int) := FnV ctx 119 sgl_szPartS (x0, x1)
def Xl_szPartS_0 : List Ex := [{ out := .ret, st := { env := [(4, .int .i64)] } }, { out := .exit 0, st := { env := [(1, .int .i64)] } }]
def Sl_szPartS_0 : SP := { env := [(0, .ro false 3), (1, .int .i64), (5, .int .i64)] }
noncomputable def Ll_szPartS_0 (x0 : List AVal) (x1 : Int) (x2 : Int) : Option ((Int) ⊕ (Int)) := LpV ctx fn119 0 0 Xl_szPartS_0 Sl_szPartS_0 (x0, x1, x2)
def lsl_szPartS : List LSig := [{ h := 0, X := Xl_szPartS_0, Ss := [Sl_szPartS_0] }]
noncomputable def Fl_toTokenS (x0 : List AVal) : Option (List AVal) := FnV ctx 125 sgl_toTokenS x0
def Xl_toTokenS_0 : List Ex := [{ out := .exit 0, st := { env := [(3, .ref 3 [])], objs := [(3, false, .own 3)] } }]
def Sl_toTokenS_0 : SP := { env := [(0, .ro false 3), (3, .ref 3 []), (4, .int .i64)], objs := [(3, false, .own 3)] }
noncomputable def Ll_toTokenS_0 (x0 : List AVal) (x1 : Int) (x2 : List AVal) : Option (List AVal) := LpV ctx fn125 0 0 Xl_toTokenS_0 Sl_toTokenS_0 (x0, x1, x2)
def lsl_toTokenS : List LSig := [{ h := 0, X := Xl_toTokenS_0, Ss := [Sl_toTokenS_0] }]
noncomputable def Fl_toLevelS (x0 : List AVal) : Option (List AVal) := FnV ctx 126 sgl_toLevelS x0
def Xl_toLevelS_0 : List Ex := [{ out := .exit 0, st := { env := [(3, .ref 3 [])], objs := [(3, false, .own 2)] } }]
def Sl_toLevelS_0 : SP := { env := [(0, .ro false 2), (3, .ref 3 []), (4, .int .i64)], objs := [(3, false, .own 2)] }
noncomputable def Ll_toLevelS_0 (x0 : List AVal) (x1 : Int) (x2 : List AVal) : Option (List AVal) := LpV ctx fn126 0 0 Xl_toLevelS_0 Sl_toLevelS_0 (x0, x1, x2)
def lsl_toLevelS : List LSig := [{ h := 0, X := Xl_toLevelS_0, Ss := [Sl_toLevelS_0] }]
noncomputable def Fl_toGRuleS (x0 : List AVal) : Option (List AVal) := FnV ctx 127 sgl_toGRuleS x0
def Xl_toGRuleS_0 : List Ex := [{ out := .exit 0, st := { env := [(3, .ref 3 [])], objs := [(3, false, .own 2)] } }]
def Sl_toGRuleS_0 : SP := { env := [(0, .ro false 2), (3, .ref 3 []), (4, .int .i64)], objs := [(3, false, .own 2)] }
noncomputable def Ll_toGRuleS_0 (x0 : List AVal) (x1 : Int) (x2 : List AVal) : Option (List AVal) := LpV ctx fn127 0 0 Xl_toGRuleS_0 Sl_toGRuleS_0 (x0, x1, x2)
def lsl_toGRuleS : List LSig := [{ h := 0, X := Xl_toGRuleS_0, Ss := [Sl_toGRuleS_0] }]
noncomputable def Fl_toPartS (x0 : List AVal) : Option (List AVal) := FnV ctx 128 sgl_toPartS x0
def Xl_toPartS_0 : List Ex := [{ out := .exit 0, st := { env := [(3, .ref 3 [])], objs := [(3, false, .own 3)] } }]
def Sl_toPartS_0 : SP := { env := [(0, .ro false 3), (3, .ref 3 []), (4, .int .i64)], objs := [(3, false, .own 3)] }
noncomputable def Ll_toPartS_0 (x0 : List AVal) (x1 : Int) (x2 : List AVal) : Option (List AVal) := LpV ctx fn128 0 0 Xl_toPartS_0 Sl_toPartS_0 (x0, x1, x2)
def lsl_toPartS : List LSig := [{ h := 0, X := Xl_toPartS_0, Ss := [Sl_toPartS_0] }]
noncomputable def Fs_l03Small (x0 : ByteArray) (x1 : List AVal) (x2 : List AVal) (x3 : List AVal) (x4 : List AVal) : Option (Bool) := FnV ctx 120 sgs_l03Small (x0, x1, x2, x3, x4)
def lss_l03Small : List LSig := []
noncomputable def Fs_l03Plain (x0 : ByteArray) : Option (Bool) := FnV ctx 121 sgs_l03Plain x0
def lss_l03Plain : List LSig := []
noncomputable def Fs_l03RxOK (x0 : ByteArray) : Option (Bool) := FnV ctx 122 sgs_l03RxOK x0
def lss_l03RxOK : List LSig := []
noncomputable def Fs_l03LitOK (x0 : ByteArray) : Option (Bool) := FnV ctx 123 sgs_l03LitOK x0
def lss_l03LitOK : List LSig := []
noncomputable def Fs_l03Walk_items (x0 : List AVal) (x1 : Int) (x2 : ByteArray) (x3 : List AVal) (x4 : List AVal) (x5 : List AVal) (x6 : List AVal) (x7 : Int) (x8 : Bool) : Option (ByteArray × List AVal × List AVal × List AVal × List AVal × Int × Bool) := FnV ctx 124 sgs_l03Walk_items (x0, x1, x2, x3, x4, x5, x6, x7, x8)
def Xs_l03Walk_items_0 : List Ex := [{ out := .ret, st := { env := [], objs := [(2000000, true, .agg [.str, .ro false 3, .ro false 2, .ro false 2, .ro false 3, .int .i64, .bool])] } }, { out := .exit 0, st := { env := [], objs := [(2000000, true, .agg [.str, .ro false 3, .ro false 2, .ro false 2, .ro false 3, .int .i64, .bool])] } }]
def Ss_l03Walk_items_0 : SP := { env := [(0, .ptr 2000000 [] none), (1, .ro false 1), (2, .int .i64), (6, .int .i64)], objs := [(2000000, true, .agg [.str, .ro false 3, .ro false 2, .ro false 2, .ro false 3, .int .i64, .bool])] }
noncomputable def Ls_l03Walk_items_0 (x0 : List AVal) (x1 : Int) (x2 : Int) (x3 : ByteArray) (x4 : List AVal) (x5 : List AVal) (x6 : List AVal) (x7 : List AVal) (x8 : Int) (x9 : Bool) : Option ((ByteArray × List AVal × List AVal × List AVal × List AVal × Int × Bool) ⊕ (ByteArray × List AVal × List AVal × List AVal × List AVal × Int × Bool)) := LpV ctx fn124 1 0 Xs_l03Walk_items_0 Ss_l03Walk_items_0 (x0, x1, x2, x3, x4, x5, x6, x7, x8, x9)
def Xs_l03Walk_items_1 : List Ex := [{ out := .exit 3, st := { env := [(0, .ptr 2000000 [] none), (1, .ro false 1), (2, .int .i64), (6, .int .i64)], objs := [(2000000, true, .agg [.str, .ro false 3, .ro false 2, .ro false 2, .ro false 3, .int .i64, .bool])] } }]
def Ss_l03Walk_items_1 : SP := { env := [(0, .ptr 2000000 [] none), (1, .ro false 1), (2, .int .i64), (6, .int .i64), (7, .ptr 7 [] none), (8, .int .i64)], objs := [(2000000, true, .agg [.str, .ro false 3, .ro false 2, .ro false 2, .ro false 3, .int .i64, .bool]), (7, true, .agg [.int .i64, .str, .ro false 1])] }
noncomputable def Ls_l03Walk_items_1 (x0 : List AVal) (x1 : Int) (x2 : Int) (x3 : Int) (x4 : ByteArray) (x5 : List AVal) (x6 : List AVal) (x7 : List AVal) (x8 : List AVal) (x9 : Int) (x10 : Bool) (x11 : Int) (x12 : ByteArray) (x13 : List AVal) : Option (List AVal × Int × Int × ByteArray × List AVal × List AVal × List AVal × List AVal × Int × Bool) := LpV ctx fn124 1 1 Xs_l03Walk_items_1 Ss_l03Walk_items_1 (x0, x1, x2, x3, x4, x5, x6, x7, x8, x9, x10, x11, x12, x13)
def lss_l03Walk_items : List LSig := [{ h := 0, X := Xs_l03Walk_items_0, Ss := [Ss_l03Walk_items_0] }, { h := 1, X := Xs_l03Walk_items_1, Ss := [Ss_l03Walk_items_1] }]
noncomputable def Fi_plainName (x0 : ByteArray) : Option (Bool) := FnV ctx 129 sgi_plainName x0
def lsi_plainName : List LSig := []
noncomputable def Fi_patternOK (x0 : ByteArray) : Option (Bool) := FnV ctx 130 sgi_patternOK x0
def Xi_patternOK_0 : List Ex := [{ out := .ret, st := { env := [(2, .bool)] } }, { out := .exit 0, st := { env := [] } }]
def Si_patternOK_0 : SP := { env := [(0, .str), (3, .int .i64)] }
noncomputable def Li_patternOK_0 (x0 : ByteArray) (x1 : Int) : Option ((Bool) ⊕ (Unit)) := LpV ctx fn130 0 0 Xi_patternOK_0 Si_patternOK_0 (x0, x1)
def lsi_patternOK : List LSig := [{ h := 0, X := Xi_patternOK_0, Ss := [Si_patternOK_0] }]
noncomputable def Fi_litOK (x0 : ByteArray) : Option (Bool) := FnV ctx 131 sgi_litOK x0
def Xi_litOK_0 : List Ex := [{ out := .ret, st := { env := [(2, .bool)] } }, { out := .exit 0, st := { env := [] } }]
def Si_litOK_0 : SP := { env := [(0, .str), (3, .int .i64)] }
noncomputable def Li_litOK_0 (x0 : ByteArray) (x1 : Int) : Option ((Bool) ⊕ (Unit)) := LpV ctx fn131 0 0 Xi_litOK_0 Si_litOK_0 (x0, x1)
def lsi_litOK : List LSig := [{ h := 0, X := Xi_litOK_0, Ss := [Si_litOK_0] }]
noncomputable def Fi_inOrder (x0 : ByteArray) (x1 : List AVal) (x2 : List AVal) (x3 : List AVal) (x4 : List AVal) (x5 : List AVal) (x6 : Int) (x7 : Int) : Option (Bool × Int) := FnV ctx 132 sgi_inOrder (x0, x1, x2, x3, x4, x5, x6, x7)
def Xi_inOrder_0 : List Ex := [{ out := .ret, st := { env := [(8, .bool)], objs := [(2000000, true, .int .i64)] } }, { out := .exit 0, st := { env := [], objs := [(2000000, true, .int .i64)] } }]
def Si_inOrder_0 : SP := { env := [(2, .ptr 2000000 [] none), (3, .int .i64), (4, .ptr 4 [] none), (14, .ro false 1), (15, .int .i64), (16, .int .i64)], objs := [(2000000, true, .int .i64), (4, true, .agg [.str, .ro false 3, .ro false 2, .ro false 2, .ro false 3])] }
noncomputable def Li_inOrder_0 (x0 : Int) (x1 : List AVal) (x2 : Int) (x3 : Int) (x4 : Int) (x5 : ByteArray) (x6 : List AVal) (x7 : List AVal) (x8 : List AVal) (x9 : List AVal) : Option ((Bool × Int) ⊕ (Int)) := LpV ctx fn132 1 0 Xi_inOrder_0 Si_inOrder_0 (x0, x1, x2, x3, x4, x5, x6, x7, x8, x9)
def Xi_inOrder_1 : List Ex := [{ out := .ret, st := { env := [(8, .bool)], objs := [(2000000, true, .int .i64)] } }, { out := .exit 2, st := { env := [(2, .ptr 2000000 [] none), (3, .int .i64), (4, .ptr 4 [] none), (14, .ro false 1), (15, .int .i64), (16, .int .i64)], objs := [(2000000, true, .int .i64), (4, true, .agg [.str, .ro false 3, .ro false 2, .ro false 2, .ro false 3])] } }]
def Si_inOrder_1 : SP := { env := [(2, .ptr 2000000 [] none), (3, .int .i64), (4, .ptr 4 [] none), (14, .ro false 1), (15, .int .i64), (16, .int .i64), (20, .ro false 1), (21, .int .i64), (22, .int .i64)], objs := [(2000000, true, .int .i64), (4, true, .agg [.str, .ro false 3, .ro false 2, .ro false 2, .ro false 3])] }
noncomputable def Li_inOrder_1 (x0 : Int) (x1 : List AVal) (x2 : Int) (x3 : Int) (x4 : List AVal) (x5 : Int) (x6 : Int) (x7 : Int) (x8 : ByteArray) (x9 : List AVal) (x10 : List AVal) (x11 : List AVal) (x12 : List AVal) : Option ((Bool × Int) ⊕ (Int × List AVal × Int × Int × Int × ByteArray × List AVal × List AVal × List AVal × List AVal)) := LpV ctx fn132 1 1 Xi_inOrder_1 Si_inOrder_1 (x0, x1, x2, x3, x4, x5, x6, x7, x8, x9, x10, x11, x12)
def lsi_inOrder : List LSig := [{ h := 0, X := Xi_inOrder_0, Ss := [Si_inOrder_0] }, { h := 1, X := Xi_inOrder_1, Ss := [Si_inOrder_1] }]
noncomputable def Fl_eqTokenS (x0 : List AVal) (x1 : List AVal) : Option (Bool) := FnV ctx 133 sgl_eqTokenS (x0, x1)
def Xl_eqTokenS_0 : List Ex := [{ out := .ret, st := { env := [(4, .bool)] } }, { out := .exit 0, st := { env := [] } }]
def Sl_eqTokenS_0 : SP := { env := [(0, .ro false 3), (1, .ro false 3), (5, .int .i64)] }
noncomputable def Ll_eqTokenS_0 (x0 : List AVal) (x1 : List AVal) (x2 : Int) : Option ((Bool) ⊕ (Unit)) := LpV ctx fn133 0 0 Xl_eqTokenS_0 Sl_eqTokenS_0 (x0, x1, x2)
def lsl_eqTokenS : List LSig := [{ h := 0, X := Xl_eqTokenS_0, Ss := [Sl_eqTokenS_0] }]
noncomputable def Fl_eqLevelS (x0 : List AVal) (x1 : List AVal) : Option (Bool) := FnV ctx 134 sgl_eqLevelS (x0, x1)
def Xl_eqLevelS_0 : List Ex := [{ out := .ret, st := { env := [(4, .bool)] } }, { out := .exit 0, st := { env := [] } }]
def Sl_eqLevelS_0 : SP := { env := [(0, .ro false 2), (1, .ro false 2), (5, .int .i64)] }
noncomputable def Ll_eqLevelS_0 (x0 : List AVal) (x1 : List AVal) (x2 : Int) : Option ((Bool) ⊕ (Unit)) := LpV ctx fn134 0 0 Xl_eqLevelS_0 Sl_eqLevelS_0 (x0, x1, x2)
def lsl_eqLevelS : List LSig := [{ h := 0, X := Xl_eqLevelS_0, Ss := [Sl_eqLevelS_0] }]
noncomputable def Fl_eqGRuleS (x0 : List AVal) (x1 : List AVal) : Option (Bool) := FnV ctx 135 sgl_eqGRuleS (x0, x1)
def Xl_eqGRuleS_0 : List Ex := [{ out := .ret, st := { env := [(4, .bool)] } }, { out := .exit 0, st := { env := [] } }]
def Sl_eqGRuleS_0 : SP := { env := [(0, .ro false 2), (1, .ro false 2), (5, .int .i64)] }
noncomputable def Ll_eqGRuleS_0 (x0 : List AVal) (x1 : List AVal) (x2 : Int) : Option ((Bool) ⊕ (Unit)) := LpV ctx fn135 0 0 Xl_eqGRuleS_0 Sl_eqGRuleS_0 (x0, x1, x2)
def lsl_eqGRuleS : List LSig := [{ h := 0, X := Xl_eqGRuleS_0, Ss := [Sl_eqGRuleS_0] }]
noncomputable def Fl_eqPartS (x0 : List AVal) (x1 : List AVal) : Option (Bool) := FnV ctx 136 sgl_eqPartS (x0, x1)
def Xl_eqPartS_0 : List Ex := [{ out := .ret, st := { env := [(4, .bool)] } }, { out := .exit 0, st := { env := [] } }]
def Sl_eqPartS_0 : SP := { env := [(0, .ro false 3), (1, .ro false 3), (5, .int .i64)] }
noncomputable def Ll_eqPartS_0 (x0 : List AVal) (x1 : List AVal) (x2 : Int) : Option ((Bool) ⊕ (Unit)) := LpV ctx fn136 0 0 Xl_eqPartS_0 Sl_eqPartS_0 (x0, x1, x2)
def lsl_eqPartS : List LSig := [{ h := 0, X := Xl_eqPartS_0, Ss := [Sl_eqPartS_0] }]
noncomputable def Fl_szToken (x0 : ByteArray) (x1 : ByteArray) (x2 : Bool) (x3 : Int) : Option (Int) := FnV ctx 201 sgl_szToken (x0, x1, x2, x3)
def lsl_szToken : List LSig := []
noncomputable def Fl_szLevel (x0 : Int) (x1 : List AVal) (x2 : Int) : Option (Int) := FnV ctx 202 sgl_szLevel (x0, x1, x2)
def lsl_szLevel : List LSig := []
noncomputable def Fl_szGRule (x0 : ByteArray) (x1 : List AVal) (x2 : Int) : Option (Int) := FnV ctx 203 sgl_szGRule (x0, x1, x2)
def lsl_szGRule : List LSig := []
noncomputable def Fl_szPart (x0 : Int) (x1 : ByteArray) (x2 : List AVal) (x3 : Int) : Option (Int) := FnV ctx 204 sgl_szPart (x0, x1, x2, x3)
def lsl_szPart : List LSig := []
noncomputable def Fl_toToken (x0 : ByteArray) (x1 : ByteArray) (x2 : Bool) : Option (ByteArray × ByteArray × Bool) := FnV ctx 207 sgl_toToken (x0, x1, x2)
def lsl_toToken : List LSig := []
noncomputable def Fl_toLevel (x0 : Int) (x1 : List AVal) : Option (Int × List AVal) := FnV ctx 208 sgl_toLevel (x0, x1)
def lsl_toLevel : List LSig := []
noncomputable def Fl_toGRule (x0 : ByteArray) (x1 : List AVal) : Option (ByteArray × List AVal) := FnV ctx 209 sgl_toGRule (x0, x1)
def lsl_toGRule : List LSig := []
noncomputable def Fl_toPart (x0 : Int) (x1 : ByteArray) (x2 : List AVal) : Option (Int × ByteArray × List AVal) := FnV ctx 210 sgl_toPart (x0, x1, x2)
def lsl_toPart : List LSig := []
noncomputable def Fs_l03Keyword (x0 : ByteArray) : Option (Bool) := FnV ctx 205 sgs_l03Keyword x0
def Xs_l03Keyword_0 : List Ex := [{ out := .ret, st := { env := [(2, .bool)] } }, { out := .exit 0, st := { env := [] } }]
def Ss_l03Keyword_0 : SP := { env := [(0, .str), (3, .ref 3 []), (4, .int .i64)], objs := [(3, false, .own 1)] }
noncomputable def Ls_l03Keyword_0 (x0 : ByteArray) (x1 : Int) (x2 : List AVal) : Option ((Bool) ⊕ (Unit)) := LpV ctx fn205 0 0 Xs_l03Keyword_0 Ss_l03Keyword_0 (x0, x1, x2)
def lss_l03Keyword : List LSig := [{ h := 0, X := Xs_l03Keyword_0, Ss := [Ss_l03Keyword_0] }]
noncomputable def Fs_l03Bytes (x0 : ByteArray) (x1 : Int) (x2 : Int) : Option (Bool) := FnV ctx 206 sgs_l03Bytes (x0, x1, x2)
def Xs_l03Bytes_0 : List Ex := [{ out := .ret, st := { env := [(6, .bool)] } }, { out := .exit 0, st := { env := [] } }]
def Ss_l03Bytes_0 : SP := { env := [(0, .str), (1, .int .u8), (2, .int .u8), (7, .int .i64)] }
noncomputable def Ls_l03Bytes_0 (x0 : ByteArray) (x1 : Int) (x2 : Int) (x3 : Int) : Option ((Bool) ⊕ (Unit)) := LpV ctx fn206 0 0 Xs_l03Bytes_0 Ss_l03Bytes_0 (x0, x1, x2, x3)
def lss_l03Bytes : List LSig := [{ h := 0, X := Xs_l03Bytes_0, Ss := [Ss_l03Bytes_0] }]
noncomputable def Fs_l02In (x0 : ByteArray) (x1 : Int) : Option (Bool) := FnV ctx 181 sgs_l02In (x0, x1)
def Xs_l02In_0 : List Ex := [{ out := .ret, st := { env := [(4, .bool)] } }, { out := .exit 0, st := { env := [] } }]
def Ss_l02In_0 : SP := { env := [(0, .str), (1, .int .u8), (5, .int .i64)] }
noncomputable def Ls_l02In_0 (x0 : ByteArray) (x1 : Int) (x2 : Int) : Option ((Bool) ⊕ (Unit)) := LpV ctx fn181 0 0 Xs_l02In_0 Ss_l02In_0 (x0, x1, x2)
def lss_l02In : List LSig := [{ h := 0, X := Xs_l02In_0, Ss := [Ss_l02In_0] }]
noncomputable def Fi_keyword (x0 : ByteArray) : Option (Bool) := FnV ctx 211 sgi_keyword x0
def lsi_keyword : List LSig := []
noncomputable def Fl_eqToken (x0 : ByteArray) (x1 : ByteArray) (x2 : Bool) (x3 : ByteArray) (x4 : ByteArray) (x5 : Bool) : Option (Bool) := FnV ctx 212 sgl_eqToken (x0, x1, x2, x3, x4, x5)
def lsl_eqToken : List LSig := []
noncomputable def Fl_eqLevel (x0 : Int) (x1 : List AVal) (x2 : Int) (x3 : List AVal) : Option (Bool) := FnV ctx 213 sgl_eqLevel (x0, x1, x2, x3)
def lsl_eqLevel : List LSig := []
noncomputable def Fl_eqGRule (x0 : ByteArray) (x1 : List AVal) (x2 : ByteArray) (x3 : List AVal) : Option (Bool) := FnV ctx 214 sgl_eqGRule (x0, x1, x2, x3)
def lsl_eqGRule : List LSig := []
noncomputable def Fl_eqPart (x0 : Int) (x1 : ByteArray) (x2 : List AVal) (x3 : Int) (x4 : ByteArray) (x5 : List AVal) : Option (Bool) := FnV ctx 215 sgl_eqPart (x0, x1, x2, x3, x4, x5)
def lsl_eqPart : List LSig := []
noncomputable def Fl_szGAltS (x0 : List AVal) (x1 : Int) : Option (Int) := FnV ctx 247 sgl_szGAltS (x0, x1)
def Xl_szGAltS_0 : List Ex := [{ out := .ret, st := { env := [(4, .int .i64)] } }, { out := .exit 0, st := { env := [(1, .int .i64)] } }]
def Sl_szGAltS_0 : SP := { env := [(0, .ro false 2), (1, .int .i64), (5, .int .i64)] }
noncomputable def Ll_szGAltS_0 (x0 : List AVal) (x1 : Int) (x2 : Int) : Option ((Int) ⊕ (Int)) := LpV ctx fn247 0 0 Xl_szGAltS_0 Sl_szGAltS_0 (x0, x1, x2)
def lsl_szGAltS : List LSig := [{ h := 0, X := Xl_szGAltS_0, Ss := [Sl_szGAltS_0] }]
noncomputable def Fl_szIntSS (x0 : List AVal) (x1 : Int) : Option (Int) := FnV ctx 248 sgl_szIntSS (x0, x1)
def Xl_szIntSS_0 : List Ex := [{ out := .ret, st := { env := [(4, .int .i64)] } }, { out := .exit 0, st := { env := [(1, .int .i64)] } }]
def Sl_szIntSS_0 : SP := { env := [(0, .ro false 1), (1, .int .i64), (5, .int .i64)] }
noncomputable def Ll_szIntSS_0 (x0 : List AVal) (x1 : Int) (x2 : Int) : Option ((Int) ⊕ (Int)) := LpV ctx fn248 0 0 Xl_szIntSS_0 Sl_szIntSS_0 (x0, x1, x2)
def lsl_szIntSS : List LSig := [{ h := 0, X := Xl_szIntSS_0, Ss := [Sl_szIntSS_0] }]
noncomputable def Fl_toGAltS (x0 : List AVal) : Option (List AVal) := FnV ctx 249 sgl_toGAltS x0
def Xl_toGAltS_0 : List Ex := [{ out := .exit 0, st := { env := [(3, .ref 3 [])], objs := [(3, false, .own 2)] } }]
def Sl_toGAltS_0 : SP := { env := [(0, .ro false 2), (3, .ref 3 []), (4, .int .i64)], objs := [(3, false, .own 2)] }
noncomputable def Ll_toGAltS_0 (x0 : List AVal) (x1 : Int) (x2 : List AVal) : Option (List AVal) := LpV ctx fn249 0 0 Xl_toGAltS_0 Sl_toGAltS_0 (x0, x1, x2)
def lsl_toGAltS : List LSig := [{ h := 0, X := Xl_toGAltS_0, Ss := [Sl_toGAltS_0] }]
noncomputable def Fl_toIntSS (x0 : List AVal) : Option (List AVal) := FnV ctx 250 sgl_toIntSS x0
def Xl_toIntSS_0 : List Ex := [{ out := .exit 0, st := { env := [(3, .ref 3 [])], objs := [(3, false, .own 1)] } }]
def Sl_toIntSS_0 : SP := { env := [(0, .ro false 1), (3, .ref 3 []), (4, .int .i64)], objs := [(3, false, .own 1)] }
noncomputable def Ll_toIntSS_0 (x0 : List AVal) (x1 : Int) (x2 : List AVal) : Option (List AVal) := LpV ctx fn250 0 0 Xl_toIntSS_0 Sl_toIntSS_0 (x0, x1, x2)
def lsl_toIntSS : List LSig := [{ h := 0, X := Xl_toIntSS_0, Ss := [Sl_toIntSS_0] }]
noncomputable def Fl_eqGAltS (x0 : List AVal) (x1 : List AVal) : Option (Bool) := FnV ctx 251 sgl_eqGAltS (x0, x1)
def Xl_eqGAltS_0 : List Ex := [{ out := .ret, st := { env := [(4, .bool)] } }, { out := .exit 0, st := { env := [] } }]
def Sl_eqGAltS_0 : SP := { env := [(0, .ro false 2), (1, .ro false 2), (5, .int .i64)] }
noncomputable def Ll_eqGAltS_0 (x0 : List AVal) (x1 : List AVal) (x2 : Int) : Option ((Bool) ⊕ (Unit)) := LpV ctx fn251 0 0 Xl_eqGAltS_0 Sl_eqGAltS_0 (x0, x1, x2)
def lsl_eqGAltS : List LSig := [{ h := 0, X := Xl_eqGAltS_0, Ss := [Sl_eqGAltS_0] }]
noncomputable def Fl_eqIntSS (x0 : List AVal) (x1 : List AVal) : Option (Bool) := FnV ctx 38 sgl_eqIntSS (x0, x1)
def Xl_eqIntSS_0 : List Ex := [{ out := .ret, st := { env := [(4, .bool)] } }, { out := .exit 0, st := { env := [] } }]
def Sl_eqIntSS_0 : SP := { env := [(0, .ro false 1), (1, .ro false 1), (5, .int .i64)] }
noncomputable def Ll_eqIntSS_0 (x0 : List AVal) (x1 : List AVal) (x2 : Int) : Option ((Bool) ⊕ (Unit)) := LpV ctx fn38 0 0 Xl_eqIntSS_0 Sl_eqIntSS_0 (x0, x1, x2)
def lsl_eqIntSS : List LSig := [{ h := 0, X := Xl_eqIntSS_0, Ss := [Sl_eqIntSS_0] }]
noncomputable def Fl_szGAlt (x0 : List AVal) (x1 : ByteArray) (x2 : Int) : Option (Int) := FnV ctx 268 sgl_szGAlt (x0, x1, x2)
def lsl_szGAlt : List LSig := []
noncomputable def Fl_toGAlt (x0 : List AVal) (x1 : ByteArray) : Option (List AVal × ByteArray) := FnV ctx 269 sgl_toGAlt (x0, x1)
def lsl_toGAlt : List LSig := []
noncomputable def Fl_eqGAlt (x0 : List AVal) (x1 : ByteArray) (x2 : List AVal) (x3 : ByteArray) : Option (Bool) := FnV ctx 270 sgl_eqGAlt (x0, x1, x2, x3)
def lsl_eqGAlt : List LSig := []
end Go.Proofs.Ytmbnloccmnclnaa
