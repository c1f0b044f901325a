/- What the functions of the laws are given and give back, and their names on values; no condition. -/
import Derived.Test.YtnbpmjfemeeecaaVmd
import Derived.Test.YtnbpmjfemeeecaaVC
import Derived.Tactics
namespace Go.Proofs.Ytnbpmjfemeeecaa
open Go.VK AVal
abbrev ty_func:Nat:=1
abbrev ty_int64:Nat:=2
abbrev ty_int:Nat:=3
abbrev ty_bool:Nat:=4
abbrev ty_uint8:Nat:=5
abbrev ty_abi_BoundsErrorCode:Nat:=6
abbrev ty_runtime_boundsError:Nat:=8
abbrev ty_string:Nat:=9
abbrev ty_runtime_errorString:Nat:=10
abbrev ty_runtime_plainError:Nat:=11
abbrev ty_uintptr:Nat:=12
abbrev ty_runtime_errorAddressString:Nat:=14
abbrev ty_P_runtime_TypeAssertionError:Nat:=15
abbrev ty_P_runtime_PanicNilError:Nat:=16
abbrev ty_P_abi_Type:Nat:=17
abbrev ty_maps_unhashableTypeError:Nat:=19
abbrev ty_int32:Nat:=21
abbrev ty_S_laws_Tree:Nat:=22
abbrev ty_laws_Tree:Nat:=24
abbrev ty_func_laws_Tree_int_int:Nat:=25
abbrev ty_S_S_int:Nat:=29
abbrev ty_func_S_S_int_S_S_int_bool:Nat:=34
abbrev ty_func_S_S_int_int_int:Nat:=36
abbrev ty_func_laws_Tree_laws_Tree_laws_Tree_bool:Nat:=37
abbrev ty_S_laws_LNode:Nat:=38
abbrev ty_S_bool:Nat:=39
abbrev ty_func_S_laws_LNode_int_int:Nat:=40
abbrev ty_func_S_bool_S_bool:Nat:=45
abbrev ty_func_S_bool_S_bool_bool:Nat:=47
abbrev ty_func_S_laws_LNode_S_bool_bool:Nat:=48
abbrev ty_func_S_laws_LNode_int_bool:Nat:=51
abbrev ty_S_laws_Term:Nat:=52
abbrev ty_S_string:Nat:=53
abbrev ty_S_laws_Prod:Nat:=54
abbrev ty_laws_Bnf:Nat:=56
abbrev ty_func_laws_Bnf_int_int:Nat:=57
abbrev ty_func_laws_Bnf_bool:Nat:=66
abbrev ty_S_S_laws_Act:Nat:=67
abbrev ty_laws_Table:Nat:=69
abbrev ty_S_int:Nat:=70
abbrev ty_func_laws_Table_int_int:Nat:=71
abbrev ty_func_S_int_S_int:Nat:=78
abbrev ty_func_S_int_S_int_bool:Nat:=79
abbrev ty_func_S_int_int_int:Nat:=83
abbrev ty_func_laws_Bnf_laws_Table_S_int_bool:Nat:=84
abbrev ty_func_string_int_int:Nat:=86
abbrev ty_func_string_bool:Nat:=87
abbrev ty_func_laws_Tree_laws_Tree_bool:Nat:=95
abbrev ty_func_S_laws_Tree_int_int:Nat:=96
abbrev ty_func_laws_LNode_int_int:Nat:=109
abbrev ty_laws_LNode:Nat:=111
abbrev ty_func_int_int_int_bool:Nat:=118
abbrev ty_func_string_int_int_int:Nat:=119
abbrev ty_func_string:Nat:=122
abbrev ty_func_int:Nat:=123
abbrev ty_func_int_int_bool:Nat:=126
abbrev ty_func_S_laws_Term_int_int:Nat:=127
abbrev ty_func_S_string_int_int:Nat:=128
abbrev ty_func_S_laws_Prod_int_int:Nat:=129
abbrev ty_func_S_string_S_string:Nat:=132
abbrev ty_func_bool:Nat:=136
abbrev ty_func_S_string_S_string_bool:Nat:=138
abbrev ty_func_S_S_laws_Act_int_int:Nat:=140
abbrev ty_func_S_S_int_S_S_int:Nat:=152
abbrev ty_func_int_bool_int:Nat:=157
abbrev ty_map_2_int_int:Nat:=177
abbrev ty_func_int_int_int:Nat:=184
abbrev ty_func_S_int:Nat:=190
abbrev ty_P_int:Nat:=192
abbrev ty_func_int_string:Nat:=196
abbrev ty_func_string_uint8_bool:Nat:=197
abbrev ty_S_uint8:Nat:=199
abbrev ty_map_int_int:Nat:=202
abbrev ty_P_strings_Builder:Nat:=204
abbrev ty_strings_Builder:Nat:=206
abbrev ty_error:Nat:=208
abbrev ty_func_string_int_error:Nat:=210
abbrev ty_func_string_int_string:Nat:=211
abbrev ty_func_laws_Term_int_int:Nat:=213
abbrev ty_laws_Term:Nat:=215
abbrev ty_func_laws_Prod_int_int:Nat:=216
abbrev ty_laws_Prod:Nat:=218
abbrev ty_func_S_string_string_int:Nat:=221
abbrev ty_S_S_bool:Nat:=223
abbrev ty_map_string_int:Nat:=227
abbrev ty_func_func_bool:Nat:=230
abbrev ty_func_int_int:Nat:=231
abbrev ty_func_S_int_S_bool:Nat:=232
abbrev ty_func_int_func_int_S_int_S_S_bool:Nat:=233
abbrev ty_func_int_S_int:Nat:=234
abbrev ty_func_S_laws_Act_int_int:Nat:=237
abbrev ty_S_laws_Act:Nat:=238
abbrev ty_func_int_int_S_S_int:Nat:=261
abbrev ty_func_string_string_bool:Nat:=265
abbrev ty_uint:Nat:=266
abbrev ty_func_uint_uint_uint_uint:Nat:=268
abbrev ty_P_uint8:Nat:=269
abbrev ty_func_uint8_bool:Nat:=270
abbrev ty_func_S_int_bool:Nat:=273
abbrev ty_laws_Act:Nat:=275
abbrev ty_func_S_int_int_S_int:Nat:=285
abbrev ty_func_string_string_int:Nat:=286
abbrev ty_func_unsafe_Pointer_unsafe_Pointer:Nat:=288
abbrev ty_uint32:Nat:=289
abbrev ty_func_uint32_uint32_uint32_uint32:Nat:=291
abbrev ty_uint64:Nat:=292
abbrev ty_func_uint64_uint64_uint64_uint64:Nat:=294
abbrev ty_func_int_bool:Nat:=295
abbrev ty_func_int_S_uint8:Nat:=296
abbrev ty_func_string_uint8_int:Nat:=297
abbrev ty_func_string_int:Nat:=300
abbrev ty_func_string_uint8:Nat:=303
abbrev ty_func_string_uint32_uint32:Nat:=304
abbrev ty_runtime_TypeAssertionError:Nat:=306
abbrev ty_abi_TFlag:Nat:=310
abbrev ty_abi_Kind:Nat:=311
abbrev ty_func_unsafe_Pointer_unsafe_Pointer_bool:Nat:=312
abbrev ty_abi_NameOff:Nat:=313
abbrev ty_abi_TypeOff:Nat:=314
abbrev ty_abi_Type:Nat:=316
abbrev n_l_FnExactMerge:Nat:=3
abbrev n_l_FnExactSet:Nat:=4
abbrev n_l_FnExactLayout:Nat:=5
abbrev n_l_FnExactCyclic:Nat:=6
abbrev n_l_FnExactParse:Nat:=7
abbrev n_l_FnExactExpected:Nat:=8
abbrev n_l_FnExactRxOK:Nat:=9
abbrev n_l_FnExactDiff:Nat:=10
def sgl_FnExactCyclic:Sig:={ i:={ vs:=[.agg [.ro false 3,.ro false 1,.int .i64,.ro false 5]] },o:={ vs:=[.bool] } }
def sgl_szBnf:Sig:={ i:={ vs:=[.agg [.ro false 3,.ro false 1,.int .i64,.ro false 5],.int .i64] },o:={ vs:=[.int .i64] } }
def sgl_toBnf:Sig:={ i:={ vs:=[.agg [.ro false 3,.ro false 1,.int .i64,.ro false 5]] },o:={ vs:=[.agg [.own 3,.own 1,.int .i64,.own 5]] } }
def sgs_Cyclic:Sig:={ i:={ vs:=[.agg [.ro false 3,.ro false 1,.int .i64,.ro false 5]] },o:={ vs:=[.bool,.int .i64] } }
def sgi_Cyclic:Sig:={ i:={ vs:=[.agg [.ro false 3,.ro false 1,.int .i64,.ro false 5]] },o:={ vs:=[.bool,.int .i64] } }
def sgl_eqBnf:Sig:={ i:={ vs:=[.agg [.ro false 3,.ro false 1,.int .i64,.ro false 5],.agg [.ro false 3,.ro false 1,.int .i64,.ro false 5]] },o:={ vs:=[.bool] } }
def sgl_szTermS:Sig:={ i:={ vs:=[.ro false 3,.int .i64] },o:={ vs:=[.int .i64] } }
def sgl_szStringS:Sig:={ i:={ vs:=[.ro false 1,.int .i64] },o:={ vs:=[.int .i64] } }
def sgl_szProdS:Sig:={ i:={ vs:=[.ro false 5,.int .i64] },o:={ vs:=[.int .i64] } }
def sgl_toTermS:Sig:={ i:={ vs:=[.ro false 3] },o:={ vs:=[.own 3] } }
def sgl_toStringS:Sig:={ i:={ vs:=[.ro false 1] },o:={ vs:=[.own 1] } }
def sgl_toProdS:Sig:={ i:={ vs:=[.ro false 5] },o:={ vs:=[.own 5] } }
def sgs_BnfOK:Sig:={ i:={ vs:=[.agg [.ro false 3,.ro false 1,.int .i64,.ro false 5]] },o:={ vs:=[.bool] } }
def sgs_l04Cyclic:Sig:={ i:={ vs:=[.agg [.ro false 3,.ro false 1,.int .i64,.ro false 5]] },o:={ vs:=[.bool] } }
def sgi_BnfOK:Sig:={ i:={ vs:=[.agg [.ro false 3,.ro false 1,.int .i64,.ro false 5]] },o:={ vs:=[.bool] } }
def sgi_factsOf:Sig:={ i:={ vs:=[.agg [.ro false 3,.ro false 1,.int .i64,.ro false 5]] },o:={ vs:=[.tup [.agg [.ro false 3,.ro false 1,.int .i64,.ro false 5,.int .i64,.int .i64,.own 1,.own 1,.own 1,.own 1,.own 1]]] } }
def sgi_facts_cyclic:Sig:={ i:={ vs:=[.ptr 0 [] none],os:=[(true,.agg [.ro false 3,.ro false 1,.int .i64,.ro false 5,.int .i64,.int .i64,.own 1,.own 1,.own 1,.own 1,.own 1])] },o:={ vs:=[.bool],os:=[(true,.agg [.ro false 3,.ro false 1,.int .i64,.ro false 5,.int .i64,.int .i64,.own 1,.own 1,.own 1,.own 1,.own 1])] } }
def sgl_eqTermS:Sig:={ i:={ vs:=[.ro false 3,.ro false 3] },o:={ vs:=[.bool] } }
def sgl_eqStringS:Sig:={ i:={ vs:=[.ro false 1,.ro false 1] },o:={ vs:=[.bool] } }
def sgl_eqProdS:Sig:={ i:={ vs:=[.ro false 5,.ro false 5] },o:={ vs:=[.bool] } }
def sgl_szTerm:Sig:={ i:={ vs:=[.agg [.str,.int .i64,.int .i64],.int .i64] },o:={ vs:=[.int .i64] } }
def sgl_szProd:Sig:={ i:={ vs:=[.agg [.int .i64,.ro false 1,.str,.int .i64,.int .i64],.int .i64] },o:={ vs:=[.int .i64] } }
def sgl_toTerm:Sig:={ i:={ vs:=[.agg [.str,.int .i64,.int .i64]] },o:={ vs:=[.agg [.str,.int .i64,.int .i64]] } }
def sgl_toProd:Sig:={ i:={ vs:=[.agg [.int .i64,.ro false 1,.str,.int .i64,.int .i64]] },o:={ vs:=[.agg [.int .i64,.own 1,.str,.int .i64,.int .i64]] } }
def sgs_l01Between:Sig:={ i:={ vs:=[.int .i64,.int .i64,.int .i64] },o:={ vs:=[.bool] } }
def sgs_l04Strength:Sig:={ i:={ vs:=[.int .i64,.int .i64] },o:={ vs:=[.bool] } }
def sgs_l03At:Sig:={ i:={ vs:=[.ro false 1,.str] },o:={ vs:=[.int .i64] } }
def sgs_l01Name:Sig:={ i:={ vs:=[.str] },o:={ vs:=[.bool] } }
def sgs_l04Leads:Sig:={ i:={ vs:=[.agg [.ro false 3,.ro false 1,.int .i64,.ro false 5],.bool,.bool] },o:={ vs:=[.ro false 1] } }
def sgi_levelOK:Sig:={ i:={ vs:=[.int .i64,.int .i64] },o:={ vs:=[.bool] } }
def sgi_nameOK:Sig:={ i:={ vs:=[.str] },o:={ vs:=[.bool] } }
def sgi_around:Sig:={ i:={ vs:=[.clo 155 [.ptr 0 [] none,.ptr 1 [] none]],os:=[(true,.agg [.ro false 3,.ro false 1,.int .i64,.ro false 5]),(true,.ptr 2000002 [] none),(true,.agg [.ro false 3,.ro false 1,.int .i64,.ro false 5,.int .i64,.int .i64,.own 1,.own 1,.own 1,.own 1,.own 1])] },o:={ vs:=[],os:=[(true,.agg [.ro false 3,.ro false 1,.int .i64,.ro false 5]),(true,.ptr 2000002 [] none),(true,.agg [.ro false 3,.ro false 1,.int .i64,.ro false 5,.int .i64,.int .i64,.own 1,.own 1,.own 1,.own 1,.own 1])] } }
def sgi_around_v1:Sig:={ i:={ vs:=[.clo 157 [.ptr 0 [] none,.ptr 1 [] none]],os:=[(true,.agg [.ro false 3,.ro false 1,.int .i64,.ro false 5]),(true,.ptr 2000002 [] none),(true,.agg [.ro false 3,.ro false 1,.int .i64,.ro false 5,.int .i64,.int .i64,.own 1,.own 1,.own 1,.own 1,.own 1])] },o:={ vs:=[],os:=[(true,.agg [.ro false 3,.ro false 1,.int .i64,.ro false 5]),(true,.ptr 2000002 [] none),(true,.agg [.ro false 3,.ro false 1,.int .i64,.ro false 5,.int .i64,.int .i64,.own 1,.own 1,.own 1,.own 1,.own 1])] } }
def sgi_leads:Sig:={ i:={ vs:=[.int .i64,.clo 1000161 [.ptr 0 [] none]],os:=[(true,.agg [.ro false 3,.ro false 1,.int .i64,.ro false 5,.int .i64,.int .i64,.own 1,.own 1,.own 1,.own 1,.own 1])] },o:={ vs:=[.own 1],os:=[(true,.agg [.ro false 3,.ro false 1,.int .i64,.ro false 5,.int .i64,.int .i64,.own 1,.own 1,.own 1,.own 1,.own 1])] } }
def sgl_eqTerm:Sig:={ i:={ vs:=[.agg [.str,.int .i64,.int .i64],.agg [.str,.int .i64,.int .i64]] },o:={ vs:=[.bool] } }
def sgl_eqProd:Sig:={ i:={ vs:=[.agg [.int .i64,.ro false 1,.str,.int .i64,.int .i64],.agg [.int .i64,.ro false 1,.str,.int .i64,.int .i64]] },o:={ vs:=[.bool] } }
def sgl_szIntS:Sig:={ i:={ vs:=[.ro false 1,.int .i64] },o:={ vs:=[.int .i64] } }
def sgl_toIntS:Sig:={ i:={ vs:=[.ro false 1] },o:={ vs:=[.own 1] } }
def sgs_l01Letter:Sig:={ i:={ vs:=[.int .u8] },o:={ vs:=[.bool] } }
def sgs_l01NameByte:Sig:={ i:={ vs:=[.int .u8] },o:={ vs:=[.bool] } }
def sgs_l04Null:Sig:={ i:={ vs:=[.agg [.ro false 3,.ro false 1,.int .i64,.ro false 5]] },o:={ vs:=[.ro false 1] } }
def sgs_l04Non:Sig:={ i:={ vs:=[.agg [.ro false 3,.ro false 1,.int .i64,.ro false 5],.int .i64] },o:={ vs:=[.int .i64] } }
def sgs_l04AllNull:Sig:={ i:={ vs:=[.agg [.ro false 3,.ro false 1,.int .i64,.ro false 5],.ro false 1,.ro false 1] },o:={ vs:=[.bool] } }
def sgi_isLetter:Sig:={ i:={ vs:=[.int .u8] },o:={ vs:=[.bool] } }
def sgi_inName:Sig:={ i:={ vs:=[.int .u8] },o:={ vs:=[.bool] } }
def sgi_factsOf_1:Sig:={ i:={ vs:=[.ptr 0 [] none,.ptr 1 [] none],os:=[(true,.agg [.ro false 3,.ro false 1,.int .i64,.ro false 5]),(true,.ptr 2000002 [] none),(true,.agg [.ro false 3,.ro false 1,.int .i64,.ro false 5,.int .i64,.int .i64,.own 1,.own 1,.own 1,.own 1,.own 1])] },o:={ vs:=[.bool],os:=[(true,.agg [.ro false 3,.ro false 1,.int .i64,.ro false 5]),(true,.ptr 2000002 [] none),(true,.agg [.ro false 3,.ro false 1,.int .i64,.ro false 5,.int .i64,.int .i64,.own 1,.own 1,.own 1,.own 1,.own 1])] } }
def sgi_factsOf_2:Sig:={ i:={ vs:=[.ptr 0 [] none,.ptr 1 [] none],os:=[(true,.agg [.ro false 3,.ro false 1,.int .i64,.ro false 5]),(true,.ptr 2000002 [] none),(true,.agg [.ro false 3,.ro false 1,.int .i64,.ro false 5,.int .i64,.int .i64,.own 1,.own 1,.own 1,.own 1,.own 1])] },o:={ vs:=[.bool],os:=[(true,.agg [.ro false 3,.ro false 1,.int .i64,.ro false 5]),(true,.ptr 2000002 [] none),(true,.agg [.ro false 3,.ro false 1,.int .i64,.ro false 5,.int .i64,.int .i64,.own 1,.own 1,.own 1,.own 1,.own 1])] } }
def sgi_facts_besideStep:Sig:={ i:={ vs:=[.rop none,.int .i64] },o:={ vs:=[.own 1] } }
def sgl_eqIntS:Sig:={ i:={ vs:=[.ro false 1,.ro false 1] },o:={ vs:=[.bool] } }
def sgs_l01Digit:Sig:={ i:={ vs:=[.int .u8] },o:={ vs:=[.bool] } }
def sgi_isDigit:Sig:={ i:={ vs:=[.int .u8] },o:={ vs:=[.bool] } }
def sgi_facts_length:Sig:={ i:={ vs:=[.rop none,.int .i64] },o:={ vs:=[.int .i64] } }
def sgi_facts_firstOf:Sig:={ i:={ vs:=[.rop none,.ro false 1] },o:={ vs:=[.own 1] } }
def sgi_merge:Sig:={ i:={ vs:=[.ref 0 [],.ro false 1],os:=[(false,.own 1)] },o:={ vs:=[.bool],os:=[(false,.own 1)] } }
def sgi_facts_nullAll:Sig:={ i:={ vs:=[.rop none,.ro false 1] },o:={ vs:=[.bool] } }
def sgi_facts_nullSym:Sig:={ i:={ vs:=[.rop none,.int .i64] },o:={ vs:=[.bool] } }
def sigs:List (Nat×Sig):=[(6,sgl_FnExactCyclic),(30,sgl_szBnf),(32,sgl_toBnf),(31,sgs_Cyclic),(33,sgi_Cyclic),(34,sgl_eqBnf),(81,sgl_szTermS),(82,sgl_szStringS),(83,sgl_szProdS),(86,sgl_toTermS),(87,sgl_toStringS),(88,sgl_toProdS),(84,sgs_BnfOK),(85,sgs_l04Cyclic),(89,sgi_BnfOK),(90,sgi_factsOf),(91,sgi_facts_cyclic),(92,sgl_eqTermS),(93,sgl_eqStringS),(94,sgl_eqProdS),(144,sgl_szTerm),(145,sgl_szProd),(150,sgl_toTerm),(151,sgl_toProd),(75,sgs_l01Between),(146,sgs_l04Strength),(147,sgs_l03At),(148,sgs_l01Name),(149,sgs_l04Leads),(152,sgi_levelOK),(153,sgi_nameOK),(154,sgi_around),(154,sgi_around_v1),(160,sgi_leads),(162,sgl_eqTerm),(163,sgl_eqProd),(135,sgl_szIntS),(38,sgl_toIntS),(193,sgs_l01Letter),(194,sgs_l01NameByte),(195,sgs_l04Null),(196,sgs_l04Non),(197,sgs_l04AllNull),(198,sgi_isLetter),(199,sgi_inName),(155,sgi_factsOf_1),(157,sgi_factsOf_2),(161,sgi_facts_besideStep),(40,sgl_eqIntS),(216,sgs_l01Digit),(217,sgi_isDigit),(156,sgi_facts_length),(159,sgi_facts_firstOf),(158,sgi_merge),(200,sgi_facts_nullAll),(218,sgi_facts_nullSym)]
noncomputable def Fl_FnExactCyclic (x0:List AVal) (x1:List AVal) (x2:Int) (x3:List AVal):Option (Bool):=FnV ctx 6 sgl_FnExactCyclic (x0,x1,x2,x3)
def lsl_FnExactCyclic:List LSig:=[]
noncomputable def Fl_szBnf (x0:List AVal) (x1:List AVal) (x2:Int) (x3:List AVal) (x4:Int):Option (Int):=FnV ctx 30 sgl_szBnf (x0,x1,x2,x3,x4)
def lsl_szBnf:List LSig:=[]
noncomputable def Fl_toBnf (x0:List AVal) (x1:List AVal) (x2:Int) (x3:List AVal):Option (List AVal×List AVal×Int×List AVal):=FnV ctx 32 sgl_toBnf (x0,x1,x2,x3)
def lsl_toBnf:List LSig:=[]
noncomputable def Fs_Cyclic (x0:List AVal) (x1:List AVal) (x2:Int) (x3:List AVal):Option (Bool×Int):=FnV ctx 31 sgs_Cyclic (x0,x1,x2,x3)
def lss_Cyclic:List LSig:=[]
noncomputable def Fi_Cyclic (x0:List AVal) (x1:List AVal) (x2:Int) (x3:List AVal):Option (Bool×Int):=FnV ctx 33 sgi_Cyclic (x0,x1,x2,x3)
def lsi_Cyclic:List LSig:=[]
noncomputable def Fl_eqBnf (x0:List AVal) (x1:List AVal) (x2:Int) (x3:List AVal) (x4:List AVal) (x5:List AVal) (x6:Int) (x7:List AVal):Option (Bool):=FnV ctx 34 sgl_eqBnf (x0,x1,x2,x3,x4,x5,x6,x7)
def lsl_eqBnf:List LSig:=[]
noncomputable def Fl_szTermS (x0:List AVal) (x1:Int):Option (Int):=FnV ctx 81 sgl_szTermS (x0,x1)
def Xl_szTermS_0:List Ex:=[{ out:=.ret,st:={ env:=[(4,.int .i64)] } },{ out:=.exit 0,st:={ env:=[(1,.int .i64)] } }]
def Sl_szTermS_0:SP:={ env:=[(0,.ro false 3),(1,.int .i64),(5,.int .i64)] }
noncomputable def Ll_szTermS_0 (x0:List AVal) (x1:Int) (x2:Int):Option ((Int) ⊕ (Int)):=LpV ctx fn81 0 0 Xl_szTermS_0 Sl_szTermS_0 (x0,x1,x2)
def lsl_szTermS:List LSig:=[{ h:=0,X:=Xl_szTermS_0,Ss:=[Sl_szTermS_0] }]
noncomputable def Fl_szStringS (x0:List AVal) (x1:Int):Option (Int):=FnV ctx 82 sgl_szStringS (x0,x1)
def Xl_szStringS_0:List Ex:=[{ out:=.ret,st:={ env:=[(4,.int .i64)] } },{ out:=.exit 0,st:={ env:=[(1,.int .i64)] } }]
def Sl_szStringS_0:SP:={ env:=[(0,.ro false 1),(1,.int .i64),(5,.int .i64)] }
noncomputable def Ll_szStringS_0 (x0:List AVal) (x1:Int) (x2:Int):Option ((Int) ⊕ (Int)):=LpV ctx fn82 0 0 Xl_szStringS_0 Sl_szStringS_0 (x0,x1,x2)
def lsl_szStringS:List LSig:=[{ h:=0,X:=Xl_szStringS_0,Ss:=[Sl_szStringS_0] }]
noncomputable def Fl_szProdS (x0:List AVal) (x1:Int):Option (Int):=FnV ctx 83 sgl_szProdS (x0,x1)
def Xl_szProdS_0:List Ex:=[{ out:=.ret,st:={ env:=[(4,.int .i64)] } },{ out:=.exit 0,st:={ env:=[(1,.int .i64)] } }]
def Sl_szProdS_0:SP:={ env:=[(0,.ro false 5),(1,.int .i64),(5,.int .i64)] }
noncomputable def Ll_szProdS_0 (x0:List AVal) (x1:Int) (x2:Int):Option ((Int) ⊕ (Int)):=LpV ctx fn83 0 0 Xl_szProdS_0 Sl_szProdS_0 (x0,x1,x2)
def lsl_szProdS:List LSig:=[{ h:=0,X:=Xl_szProdS_0,Ss:=[Sl_szProdS_0] }]
noncomputable def Fl_toTermS (x0:List AVal):Option (List AVal):=FnV ctx 86 sgl_toTermS x0
def Xl_toTermS_0:List Ex:=[{ out:=.exit 0,st:={ env:=[(3,.ref 3 [])],objs:=[(3,false,.own 3)] } }]
def Sl_toTermS_0:SP:={ env:=[(0,.ro false 3),(3,.ref 3 []),(4,.int .i64)],objs:=[(3,false,.own 3)] }
noncomputable def Ll_toTermS_0 (x0:List AVal) (x1:Int) (x2:List AVal):Option (List AVal):=LpV ctx fn86 0 0 Xl_toTermS_0 Sl_toTermS_0 (x0,x1,x2)
def lsl_toTermS:List LSig:=[{ h:=0,X:=Xl_toTermS_0,Ss:=[Sl_toTermS_0] }]
noncomputable def Fl_toStringS (x0:List AVal):Option (List AVal):=FnV ctx 87 sgl_toStringS x0
def Xl_toStringS_0:List Ex:=[{ out:=.exit 0,st:={ env:=[(3,.ref 3 [])],objs:=[(3,false,.own 1)] } }]
def Sl_toStringS_0:SP:={ env:=[(0,.ro false 1),(3,.ref 3 []),(4,.int .i64)],objs:=[(3,false,.own 1)] }
noncomputable def Ll_toStringS_0 (x0:List AVal) (x1:Int) (x2:List AVal):Option (List AVal):=LpV ctx fn87 0 0 Xl_toStringS_0 Sl_toStringS_0 (x0,x1,x2)
def lsl_toStringS:List LSig:=[{ h:=0,X:=Xl_toStringS_0,Ss:=[Sl_toStringS_0] }]
noncomputable def Fl_toProdS (x0:List AVal):Option (List AVal):=FnV ctx 88 sgl_toProdS x0
def Xl_toProdS_0:List Ex:=[{ out:=.exit 0,st:={ env:=[(3,.ref 3 [])],objs:=[(3,false,.own 5)] } }]
def Sl_toProdS_0:SP:={ env:=[(0,.ro false 5),(3,.ref 3 []),(4,.int .i64)],objs:=[(3,false,.own 5)] }
noncomputable def Ll_toProdS_0 (x0:List AVal) (x1:Int) (x2:List AVal):Option (List AVal):=LpV ctx fn88 0 0 Xl_toProdS_0 Sl_toProdS_0 (x0,x1,x2)
def lsl_toProdS:List LSig:=[{ h:=0,X:=Xl_toProdS_0,Ss:=[Sl_toProdS_0] }]
noncomputable def Fs_BnfOK (x0:List AVal) (x1:List AVal) (x2:Int) (x3:List AVal):Option (Bool):=FnV ctx 84 sgs_BnfOK (x0,x1,x2,x3)
def Xs_BnfOK_0:List Ex:=[{ out:=.ret,st:={ env:=[(2,.bool)] } },{ out:=.exit 0,st:={ env:=[(1,.ptr 1 [] none)],objs:=[(1,true,.agg [.ro false 3,.ro false 1,.int .i64,.ro false 5])] } }]
def Ss_BnfOK_0:SP:={ env:=[(1,.ptr 1 [] none),(3,.int .i64)],objs:=[(1,true,.agg [.ro false 3,.ro false 1,.int .i64,.ro false 5])] }
noncomputable def Ls_BnfOK_0 (x0:Int) (x1:List AVal) (x2:List AVal) (x3:Int) (x4:List AVal):Option ((Bool) ⊕ (List AVal×List AVal×Int×List AVal)):=LpV ctx fn84 0 0 Xs_BnfOK_0 Ss_BnfOK_0 (x0,x1,x2,x3,x4)
def Xs_BnfOK_1:List Ex:=[{ out:=.ret,st:={ env:=[(2,.bool)] } },{ out:=.exit 2,st:={ env:=[(1,.ptr 1 [] none),(3,.int .i64)],objs:=[(1,true,.agg [.ro false 3,.ro false 1,.int .i64,.ro false 5])] } }]
def Ss_BnfOK_1:SP:={ env:=[(1,.ptr 1 [] none),(3,.int .i64),(4,.int .i64)],objs:=[(1,true,.agg [.ro false 3,.ro false 1,.int .i64,.ro false 5])] }
noncomputable def Ls_BnfOK_1 (x0:Int) (x1:Int) (x2:List AVal) (x3:List AVal) (x4:Int) (x5:List AVal):Option ((Bool) ⊕ (Int×List AVal×List AVal×Int×List AVal)):=LpV ctx fn84 0 1 Xs_BnfOK_1 Ss_BnfOK_1 (x0,x1,x2,x3,x4,x5)
def Xs_BnfOK_2:List Ex:=[{ out:=.ret,st:={ env:=[(2,.bool)] } },{ out:=.exit 4,st:={ env:=[(1,.ptr 1 [] none)],objs:=[(1,true,.agg [.ro false 3,.ro false 1,.int .i64,.ro false 5])] } }]
def Ss_BnfOK_2:SP:={ env:=[(1,.ptr 1 [] none),(5,.int .i64)],objs:=[(1,true,.agg [.ro false 3,.ro false 1,.int .i64,.ro false 5])] }
noncomputable def Ls_BnfOK_2 (x0:Int) (x1:List AVal) (x2:List AVal) (x3:Int) (x4:List AVal):Option ((Bool) ⊕ (List AVal×List AVal×Int×List AVal)):=LpV ctx fn84 0 2 Xs_BnfOK_2 Ss_BnfOK_2 (x0,x1,x2,x3,x4)
def Xs_BnfOK_3:List Ex:=[{ out:=.ret,st:={ env:=[(2,.bool)] } },{ out:=.exit 6,st:={ env:=[] } }]
def Ss_BnfOK_3:SP:={ env:=[(1,.ptr 1 [] none),(6,.int .i64),(7,.int .i64)],objs:=[(1,true,.agg [.ro false 3,.ro false 1,.int .i64,.ro false 5])] }
noncomputable def Ls_BnfOK_3 (x0:Int) (x1:Int) (x2:List AVal) (x3:List AVal) (x4:Int) (x5:List AVal):Option ((Bool) ⊕ (Unit)):=LpV ctx fn84 0 3 Xs_BnfOK_3 Ss_BnfOK_3 (x0,x1,x2,x3,x4,x5)
def Xs_BnfOK_4:List Ex:=[{ out:=.ret,st:={ env:=[(2,.bool)] } },{ out:=.exit 8,st:={ env:=[(1,.ptr 1 [] none),(6,.int .i64),(7,.int .i64)],objs:=[(1,true,.agg [.ro false 3,.ro false 1,.int .i64,.ro false 5])] } }]
def Ss_BnfOK_4:SP:={ env:=[(1,.ptr 1 [] none),(6,.int .i64),(7,.int .i64),(8,.ptr 8 [] none),(9,.int .i64)],objs:=[(1,true,.agg [.ro false 3,.ro false 1,.int .i64,.ro false 5]),(8,true,.agg [.int .i64,.ro false 1,.str,.int .i64,.int .i64])] }
noncomputable def Ls_BnfOK_4 (x0:Int) (x1:Int) (x2:Int) (x3:List AVal) (x4:List AVal) (x5:Int) (x6:List AVal) (x7:Int) (x8:List AVal) (x9:ByteArray) (x10:Int) (x11:Int):Option ((Bool) ⊕ (Int×Int×List AVal×List AVal×Int×List AVal)):=LpV ctx fn84 0 4 Xs_BnfOK_4 Ss_BnfOK_4 (x0,x1,x2,x3,x4,x5,x6,x7,x8,x9,x10,x11)
def lss_BnfOK:List LSig:=[{ h:=0,X:=Xs_BnfOK_0,Ss:=[Ss_BnfOK_0] },{ h:=1,X:=Xs_BnfOK_1,Ss:=[Ss_BnfOK_1] },{ h:=2,X:=Xs_BnfOK_2,Ss:=[Ss_BnfOK_2] },{ h:=3,X:=Xs_BnfOK_3,Ss:=[Ss_BnfOK_3] },{ h:=4,X:=Xs_BnfOK_4,Ss:=[Ss_BnfOK_4] }]
noncomputable def Fs_l04Cyclic (x0:List AVal) (x1:List AVal) (x2:Int) (x3:List AVal):Option (Bool):=FnV ctx 85 sgs_l04Cyclic (x0,x1,x2,x3)
def Xs_l04Cyclic_0:List Ex:=[{ out:=.ret,st:={ env:=[(2,.bool)] } },{ out:=.exit 0,st:={ env:=[] } }]
def Ss_l04Cyclic_0:SP:={ env:=[(3,.ro false 1),(4,.int .i64)] }
noncomputable def Ls_l04Cyclic_0 (x0:List AVal) (x1:Int):Option ((Bool) ⊕ (Unit)):=LpV ctx fn85 0 0 Xs_l04Cyclic_0 Ss_l04Cyclic_0 (x0,x1)
def lss_l04Cyclic:List LSig:=[{ h:=0,X:=Xs_l04Cyclic_0,Ss:=[Ss_l04Cyclic_0] }]
noncomputable def Fi_BnfOK (x0:List AVal) (x1:List AVal) (x2:Int) (x3:List AVal):Option (Bool):=FnV ctx 89 sgi_BnfOK (x0,x1,x2,x3)
def Xi_BnfOK_0:List Ex:=[{ out:=.ret,st:={ env:=[(2,.bool)] } },{ out:=.exit 0,st:={ env:=[(1,.ptr 1 [] none)],objs:=[(1,true,.agg [.ro false 3,.ro false 1,.int .i64,.ro false 5])] } }]
def Si_BnfOK_0:SP:={ env:=[(1,.ptr 1 [] none),(3,.ref 3 []),(51,.ro false 3),(52,.int .i64),(53,.int .i64)],objs:=[(1,true,.agg [.ro false 3,.ro false 1,.int .i64,.ro false 5]),(3,false,.mp .str)] }
noncomputable def Li_BnfOK_0 (x0:List AVal) (x1:Int) (x2:Int) (x3:List AVal) (x4:List AVal) (x5:Int) (x6:List AVal) (x7:List AVal):Option ((Bool) ⊕ (List AVal×List AVal×Int×List AVal)):=LpV ctx fn89 0 0 Xi_BnfOK_0 Si_BnfOK_0 (x0,x1,x2,x3,x4,x5,x6,x7)
def Xi_BnfOK_1:List Ex:=[{ out:=.ret,st:={ env:=[(2,.bool)] } },{ out:=.exit 2,st:={ env:=[(1,.ptr 1 [] none)],objs:=[(1,true,.agg [.ro false 3,.ro false 1,.int .i64,.ro false 5])] } }]
def Si_BnfOK_1:SP:={ env:=[(1,.ptr 1 [] none),(6,.ref 6 []),(76,.ro false 1),(77,.int .i64),(78,.int .i64)],objs:=[(1,true,.agg [.ro false 3,.ro false 1,.int .i64,.ro false 5]),(6,false,.mp .str)] }
noncomputable def Li_BnfOK_1 (x0:List AVal) (x1:Int) (x2:Int) (x3:List AVal) (x4:List AVal) (x5:Int) (x6:List AVal) (x7:List AVal):Option ((Bool) ⊕ (List AVal×List AVal×Int×List AVal)):=LpV ctx fn89 0 1 Xi_BnfOK_1 Si_BnfOK_1 (x0,x1,x2,x3,x4,x5,x6,x7)
def Xi_BnfOK_2:List Ex:=[{ out:=.ret,st:={ env:=[(2,.bool)] } },{ out:=.exit 4,st:={ env:=[] } }]
def Si_BnfOK_2:SP:={ env:=[(1,.ptr 1 [] none),(9,.int .i64),(97,.ro false 5),(98,.int .i64),(99,.int .i64)],objs:=[(1,true,.agg [.ro false 3,.ro false 1,.int .i64,.ro false 5])] }
noncomputable def Li_BnfOK_2 (x0:Int) (x1:List AVal) (x2:Int) (x3:Int) (x4:List AVal) (x5:List AVal) (x6:Int) (x7:List AVal):Option ((Bool) ⊕ (Unit)):=LpV ctx fn89 0 2 Xi_BnfOK_2 Si_BnfOK_2 (x0,x1,x2,x3,x4,x5,x6,x7)
def Xi_BnfOK_3:List Ex:=[{ out:=.ret,st:={ env:=[(2,.bool)] } },{ out:=.exit 6,st:={ env:=[(1,.ptr 1 [] none),(9,.int .i64),(97,.ro false 5),(98,.int .i64),(99,.int .i64)],objs:=[(1,true,.agg [.ro false 3,.ro false 1,.int .i64,.ro false 5])] } }]
def Si_BnfOK_3:SP:={ env:=[(1,.ptr 1 [] none),(9,.int .i64),(97,.ro false 5),(98,.int .i64),(99,.int .i64),(141,.ro false 1),(142,.int .i64),(143,.int .i64)],objs:=[(1,true,.agg [.ro false 3,.ro false 1,.int .i64,.ro false 5])] }
noncomputable def Li_BnfOK_3 (x0:Int) (x1:List AVal) (x2:Int) (x3:Int) (x4:List AVal) (x5:Int) (x6:Int) (x7:List AVal) (x8:List AVal) (x9:Int) (x10:List AVal):Option ((Bool) ⊕ (Int×List AVal×Int×Int×List AVal×List AVal×Int×List AVal)):=LpV ctx fn89 0 3 Xi_BnfOK_3 Si_BnfOK_3 (x0,x1,x2,x3,x4,x5,x6,x7,x8,x9,x10)
def lsi_BnfOK:List LSig:=[{ h:=0,X:=Xi_BnfOK_0,Ss:=[Si_BnfOK_0] },{ h:=1,X:=Xi_BnfOK_1,Ss:=[Si_BnfOK_1] },{ h:=2,X:=Xi_BnfOK_2,Ss:=[Si_BnfOK_2] },{ h:=3,X:=Xi_BnfOK_3,Ss:=[Si_BnfOK_3] }]
noncomputable def Fi_factsOf (x0:List AVal) (x1:List AVal) (x2:Int) (x3:List AVal):Option (List AVal×List AVal×Int×List AVal×Int×Int×List AVal×List AVal×List AVal×List AVal×List AVal):=FnV ctx 90 sgi_factsOf (x0,x1,x2,x3)
def Xi_factsOf_0:List Ex:=[{ out:=.exit 0,st:={ env:=[(1,.ptr 1 [] none),(3,.ptr 3 [] none)],objs:=[(1,true,.agg [.ro false 3,.ro false 1,.int .i64,.ro false 5]),(3,true,.ptr 15 [] none),(15,true,.agg [.ro false 3,.ro false 1,.int .i64,.ro false 5,.int .i64,.int .i64,.own 1,.own 1,.own 1,.own 1,.own 1])] } }]
def Si_factsOf_0:SP:={ env:=[(1,.ptr 1 [] none),(3,.ptr 3 [] none),(52,.int .i64),(53,.int .i64)],objs:=[(1,true,.agg [.ro false 3,.ro false 1,.int .i64,.ro false 5]),(3,true,.ptr 15 [] none),(15,true,.agg [.ro false 3,.ro false 1,.int .i64,.ro false 5,.int .i64,.int .i64,.own 1,.own 1,.own 1,.own 1,.own 1])] }
noncomputable def Li_factsOf_0 (x0:Int) (x1:Int) (x2:List AVal) (x3:List AVal) (x4:Int) (x5:List AVal) (x6:List AVal) (x7:List AVal) (x8:Int) (x9:List AVal) (x10:Int) (x11:Int) (x12:List AVal) (x13:List AVal) (x14:List AVal) (x15:List AVal) (x16:List AVal):Option (List AVal×List AVal×Int×List AVal×List AVal×List AVal×Int×List AVal×Int×Int×List AVal×List AVal×List AVal×List AVal×List AVal):=LpV ctx fn90 0 0 Xi_factsOf_0 Si_factsOf_0 (x0,x1,x2,x3,x4,x5,x6,x7,x8,x9,x10,x11,x12,x13,x14,x15,x16)
def Xi_factsOf_1:List Ex:=[{ out:=.exit 2,st:={ env:=[(1,.ptr 1 [] none),(3,.ptr 3 [] none)],objs:=[(1,true,.agg [.ro false 3,.ro false 1,.int .i64,.ro false 5]),(3,true,.ptr 15 [] none),(15,true,.agg [.ro false 3,.ro false 1,.int .i64,.ro false 5,.int .i64,.int .i64,.own 1,.own 1,.own 1,.own 1,.own 1])] } }]
def Si_factsOf_1:SP:={ env:=[(1,.ptr 1 [] none),(3,.ptr 3 [] none),(78,.ro false 5),(79,.int .i64),(80,.int .i64)],objs:=[(1,true,.agg [.ro false 3,.ro false 1,.int .i64,.ro false 5]),(3,true,.ptr 15 [] none),(15,true,.agg [.ro false 3,.ro false 1,.int .i64,.ro false 5,.int .i64,.int .i64,.own 1,.own 1,.own 1,.own 1,.own 1])] }
noncomputable def Li_factsOf_1 (x0:List AVal) (x1:Int) (x2:Int) (x3:List AVal) (x4:List AVal) (x5:Int) (x6:List AVal) (x7:List AVal) (x8:List AVal) (x9:Int) (x10:List AVal) (x11:Int) (x12:Int) (x13:List AVal) (x14:List AVal) (x15:List AVal) (x16:List AVal) (x17:List AVal):Option (List AVal×List AVal×Int×List AVal×List AVal×List AVal×Int×List AVal×Int×Int×List AVal×List AVal×List AVal×List AVal×List AVal):=LpV ctx fn90 0 1 Xi_factsOf_1 Si_factsOf_1 (x0,x1,x2,x3,x4,x5,x6,x7,x8,x9,x10,x11,x12,x13,x14,x15,x16,x17)
def lsi_factsOf:List LSig:=[{ h:=0,X:=Xi_factsOf_0,Ss:=[Si_factsOf_0] },{ h:=1,X:=Xi_factsOf_1,Ss:=[Si_factsOf_1] }]
noncomputable def Fi_facts_cyclic (x0:List AVal) (x1:List AVal) (x2:Int) (x3:List AVal) (x4:Int) (x5:Int) (x6:List AVal) (x7:List AVal) (x8:List AVal) (x9:List AVal) (x10:List AVal):Option (Bool×List AVal×List AVal×Int×List AVal×Int×Int×List AVal×List AVal×List AVal×List AVal×List AVal):=FnV ctx 91 sgi_facts_cyclic (x0,x1,x2,x3,x4,x5,x6,x7,x8,x9,x10)
def Xi_facts_cyclic_0:List Ex:=[{ out:=.ret,st:={ env:=[(2,.bool)],objs:=[(2000000,true,.agg [.ro false 3,.ro false 1,.int .i64,.ro false 5,.int .i64,.int .i64,.own 1,.own 1,.own 1,.own 1,.own 1])] } },{ out:=.exit 0,st:={ env:=[],objs:=[(2000000,true,.agg [.ro false 3,.ro false 1,.int .i64,.ro false 5,.int .i64,.int .i64,.own 1,.own 1,.own 1,.own 1,.own 1])] } }]
def Si_facts_cyclic_0:SP:={ env:=[(11,.ref 11 []),(12,.int .i64),(13,.int .i64)],objs:=[(11,false,.own 1),(2000000,true,.agg [.ro false 3,.ro false 1,.int .i64,.ro false 5,.int .i64,.int .i64,.own 1,.own 1,.own 1,.own 1,.own 1])] }
noncomputable def Li_facts_cyclic_0 (x0:Int) (x1:Int) (x2:List AVal) (x3:List AVal) (x4:List AVal) (x5:Int) (x6:List AVal) (x7:Int) (x8:Int) (x9:List AVal) (x10:List AVal) (x11:List AVal) (x12:List AVal) (x13:List AVal):Option ((Bool×List AVal×List AVal×Int×List AVal×Int×Int×List AVal×List AVal×List AVal×List AVal×List AVal) ⊕ (List AVal×List AVal×Int×List AVal×Int×Int×List AVal×List AVal×List AVal×List AVal×List AVal)):=LpV ctx fn91 1 0 Xi_facts_cyclic_0 Si_facts_cyclic_0 (x0,x1,x2,x3,x4,x5,x6,x7,x8,x9,x10,x11,x12,x13)
def lsi_facts_cyclic:List LSig:=[{ h:=0,X:=Xi_facts_cyclic_0,Ss:=[Si_facts_cyclic_0] }]
noncomputable def Fl_eqTermS (x0:List AVal) (x1:List AVal):Option (Bool):=FnV ctx 92 sgl_eqTermS (x0,x1)
def Xl_eqTermS_0:List Ex:=[{ out:=.ret,st:={ env:=[(4,.bool)] } },{ out:=.exit 0,st:={ env:=[] } }]
def Sl_eqTermS_0:SP:={ env:=[(0,.ro false 3),(1,.ro false 3),(5,.int .i64)] }
noncomputable def Ll_eqTermS_0 (x0:List AVal) (x1:List AVal) (x2:Int):Option ((Bool) ⊕ (Unit)):=LpV ctx fn92 0 0 Xl_eqTermS_0 Sl_eqTermS_0 (x0,x1,x2)
def lsl_eqTermS:List LSig:=[{ h:=0,X:=Xl_eqTermS_0,Ss:=[Sl_eqTermS_0] }]
noncomputable def Fl_eqStringS (x0:List AVal) (x1:List AVal):Option (Bool):=FnV ctx 93 sgl_eqStringS (x0,x1)
def Xl_eqStringS_0:List Ex:=[{ out:=.ret,st:={ env:=[(4,.bool)] } },{ out:=.exit 0,st:={ env:=[] } }]
def Sl_eqStringS_0:SP:={ env:=[(0,.ro false 1),(1,.ro false 1),(5,.int .i64)] }
noncomputable def Ll_eqStringS_0 (x0:List AVal) (x1:List AVal) (x2:Int):Option ((Bool) ⊕ (Unit)):=LpV ctx fn93 0 0 Xl_eqStringS_0 Sl_eqStringS_0 (x0,x1,x2)
def lsl_eqStringS:List LSig:=[{ h:=0,X:=Xl_eqStringS_0,Ss:=[Sl_eqStringS_0] }]
noncomputable def Fl_eqProdS (x0:List AVal) (x1:List AVal):Option (Bool):=FnV ctx 94 sgl_eqProdS (x0,x1)
def Xl_eqProdS_0:List Ex:=[{ out:=.ret,st:={ env:=[(4,.bool)] } },{ out:=.exit 0,st:={ env:=[] } }]
def Sl_eqProdS_0:SP:={ env:=[(0,.ro false 5),(1,.ro false 5),(5,.int .i64)] }
noncomputable def Ll_eqProdS_0 (x0:List AVal) (x1:List AVal) (x2:Int):Option ((Bool) ⊕ (Unit)):=LpV ctx fn94 0 0 Xl_eqProdS_0 Sl_eqProdS_0 (x0,x1,x2)
def lsl_eqProdS:List LSig:=[{ h:=0,X:=Xl_eqProdS_0,Ss:=[Sl_eqProdS_0] }]
noncomputable def Fl_szTerm (x0:ByteArray) (x1:Int) (x2:Int) (x3:Int):Option (Int):=FnV ctx 144 sgl_szTerm (x0,x1,x2,x3)
def lsl_szTerm:List LSig:=[]
noncomputable def Fl_szProd (x0:Int) (x1:List AVal) (x2:ByteArray) (x3:Int) (x4:Int) (x5:Int):Option (Int):=FnV ctx 145 sgl_szProd (x0,x1,x2,x3,x4,x5)
def lsl_szProd:List LSig:=[]
noncomputable def Fl_toTerm (x0:ByteArray) (x1:Int) (x2:Int):Option (ByteArray×Int×Int):=FnV ctx 150 sgl_toTerm (x0,x1,x2)
def lsl_toTerm:List LSig:=[]
noncomputable def Fl_toProd (x0:Int) (x1:List AVal) (x2:ByteArray) (x3:Int) (x4:Int):Option (Int×List AVal×ByteArray×Int×Int):=FnV ctx 151 sgl_toProd (x0,x1,x2,x3,x4)
def lsl_toProd:List LSig:=[]
noncomputable def Fs_l01Between (x0:Int) (x1:Int) (x2:Int):Option (Bool):=FnV ctx 75 sgs_l01Between (x0,x1,x2)
def lss_l01Between:List LSig:=[]
noncomputable def Fs_l04Strength (x0:Int) (x1:Int):Option (Bool):=FnV ctx 146 sgs_l04Strength (x0,x1)
def lss_l04Strength:List LSig:=[]
noncomputable def Fs_l03At (x0:List AVal) (x1:ByteArray):Option (Int):=FnV ctx 147 sgs_l03At (x0,x1)
def Xs_l03At_0:List Ex:=[{ out:=.ret,st:={ env:=[(4,.int .i64)] } },{ out:=.exit 0,st:={ env:=[] } }]
def Ss_l03At_0:SP:={ env:=[(0,.ro false 1),(1,.str),(5,.int .i64)] }
noncomputable def Ls_l03At_0 (x0:List AVal) (x1:ByteArray) (x2:Int):Option ((Int) ⊕ (Unit)):=LpV ctx fn147 0 0 Xs_l03At_0 Ss_l03At_0 (x0,x1,x2)
def lss_l03At:List LSig:=[{ h:=0,X:=Xs_l03At_0,Ss:=[Ss_l03At_0] }]
noncomputable def Fs_l01Name (x0:ByteArray):Option (Bool):=FnV ctx 148 sgs_l01Name x0
def Xs_l01Name_0:List Ex:=[{ out:=.ret,st:={ env:=[(2,.bool)] } },{ out:=.exit 0,st:={ env:=[] } }]
def Ss_l01Name_0:SP:={ env:=[(0,.str),(3,.int .i64)] }
noncomputable def Ls_l01Name_0 (x0:ByteArray) (x1:Int):Option ((Bool) ⊕ (Unit)):=LpV ctx fn148 0 0 Xs_l01Name_0 Ss_l01Name_0 (x0,x1)
def lss_l01Name:List LSig:=[{ h:=0,X:=Xs_l01Name_0,Ss:=[Ss_l01Name_0] }]
noncomputable def Fs_l04Leads (x0:List AVal) (x1:List AVal) (x2:Int) (x3:List AVal) (x4:Bool) (x5:Bool):Option (List AVal):=FnV ctx 149 sgs_l04Leads (x0,x1,x2,x3,x4,x5)
def Xs_l04Leads_0:List Ex:=[{ out:=.exit 0,st:={ env:=[(1,.bool),(2,.bool),(3,.ptr 3 [] none),(7,.ro false 1),(8,.int .i64),(9,.ref 9 [])],objs:=[(3,true,.agg [.ro false 3,.ro false 1,.int .i64,.ro false 5]),(9,false,.own 1)] } }]
def Ss_l04Leads_0:SP:={ env:=[(1,.bool),(2,.bool),(3,.ptr 3 [] none),(7,.ro false 1),(8,.int .i64),(9,.ref 9 []),(10,.int .i64)],objs:=[(3,true,.agg [.ro false 3,.ro false 1,.int .i64,.ro false 5]),(9,false,.own 1)] }
noncomputable def Ls_l04Leads_0 (x0:Bool) (x1:Bool) (x2:List AVal) (x3:Int) (x4:Int) (x5:List AVal) (x6:List AVal) (x7:Int) (x8:List AVal) (x9:List AVal):Option (Bool×Bool×List AVal×Int×List AVal×List AVal×Int×List AVal×List AVal):=LpV ctx fn149 0 0 Xs_l04Leads_0 Ss_l04Leads_0 (x0,x1,x2,x3,x4,x5,x6,x7,x8,x9)
def Xs_l04Leads_1:List Ex:=[{ out:=.exit 2,st:={ env:=[(8,.int .i64),(9,.ref 9 [])],objs:=[(9,false,.own 1)] } }]
def Ss_l04Leads_1:SP:={ env:=[(1,.bool),(2,.bool),(3,.ptr 3 [] none),(7,.ro false 1),(8,.int .i64),(9,.ref 9 []),(11,.int .i64)],objs:=[(3,true,.agg [.ro false 3,.ro false 1,.int .i64,.ro false 5]),(9,false,.own 1)] }
noncomputable def Ls_l04Leads_1 (x0:Bool) (x1:Bool) (x2:List AVal) (x3:Int) (x4:Int) (x5:List AVal) (x6:List AVal) (x7:Int) (x8:List AVal) (x9:List AVal):Option (Int×List AVal):=LpV ctx fn149 0 1 Xs_l04Leads_1 Ss_l04Leads_1 (x0,x1,x2,x3,x4,x5,x6,x7,x8,x9)
def Xs_l04Leads_2:List Ex:=[{ out:=.exit 4,st:={ env:=[(1,.bool),(2,.bool),(3,.ptr 3 [] none),(7,.ro false 1),(8,.int .i64),(9,.ref 9 []),(11,.int .i64)],objs:=[(3,true,.agg [.ro false 3,.ro false 1,.int .i64,.ro false 5]),(9,false,.own 1)] } }]
def Ss_l04Leads_2:SP:={ env:=[(1,.bool),(2,.bool),(3,.ptr 3 [] none),(7,.ro false 1),(8,.int .i64),(9,.ref 9 []),(11,.int .i64),(12,.ptr 12 [] none),(13,.int .i64)],objs:=[(3,true,.agg [.ro false 3,.ro false 1,.int .i64,.ro false 5]),(9,false,.own 1),(12,true,.agg [.int .i64,.ro false 1,.str,.int .i64,.int .i64])] }
noncomputable def Ls_l04Leads_2 (x0:Bool) (x1:Bool) (x2:List AVal) (x3:Int) (x4:Int) (x5:Int) (x6:List AVal) (x7:List AVal) (x8:Int) (x9:List AVal) (x10:List AVal) (x11:Int) (x12:List AVal) (x13:ByteArray) (x14:Int) (x15:Int):Option (Bool×Bool×List AVal×Int×Int×List AVal×List AVal×Int×List AVal×List AVal):=LpV ctx fn149 0 2 Xs_l04Leads_2 Ss_l04Leads_2 (x0,x1,x2,x3,x4,x5,x6,x7,x8,x9,x10,x11,x12,x13,x14,x15)
def Xs_l04Leads_3:List Ex:=[{ out:=.exit 6,st:={ env:=[(9,.ref 9 [])],objs:=[(9,false,.own 1)] } }]
def Ss_l04Leads_3:SP:={ env:=[(8,.int .i64),(9,.ref 9 []),(15,.int .i64)],objs:=[(9,false,.own 1)] }
noncomputable def Ls_l04Leads_3 (x0:Int) (x1:Int) (x2:List AVal):Option (List AVal):=LpV ctx fn149 0 3 Xs_l04Leads_3 Ss_l04Leads_3 (x0,x1,x2)
def Xs_l04Leads_4:List Ex:=[{ out:=.exit 8,st:={ env:=[(8,.int .i64),(9,.ref 9 []),(15,.int .i64)],objs:=[(9,false,.own 1)] } }]
def Ss_l04Leads_4:SP:={ env:=[(8,.int .i64),(9,.ref 9 []),(15,.int .i64),(16,.int .i64)],objs:=[(9,false,.own 1)] }
noncomputable def Ls_l04Leads_4 (x0:Int) (x1:Int) (x2:Int) (x3:List AVal):Option (Int×Int×List AVal):=LpV ctx fn149 0 4 Xs_l04Leads_4 Ss_l04Leads_4 (x0,x1,x2,x3)
def Xs_l04Leads_5:List Ex:=[{ out:=.exit 10,st:={ env:=[(8,.int .i64),(9,.ref 9 []),(15,.int .i64),(16,.int .i64)],objs:=[(9,false,.own 1)] } }]
def Ss_l04Leads_5:SP:={ env:=[(8,.int .i64),(9,.ref 9 []),(15,.int .i64),(16,.int .i64),(17,.int .i64)],objs:=[(9,false,.own 1)] }
noncomputable def Ls_l04Leads_5 (x0:Int) (x1:Int) (x2:Int) (x3:Int) (x4:List AVal):Option (Int×Int×Int×List AVal):=LpV ctx fn149 0 5 Xs_l04Leads_5 Ss_l04Leads_5 (x0,x1,x2,x3,x4)
def lss_l04Leads:List LSig:=[{ h:=0,X:=Xs_l04Leads_0,Ss:=[Ss_l04Leads_0] },{ h:=1,X:=Xs_l04Leads_1,Ss:=[Ss_l04Leads_1] },{ h:=2,X:=Xs_l04Leads_2,Ss:=[Ss_l04Leads_2] },{ h:=3,X:=Xs_l04Leads_3,Ss:=[Ss_l04Leads_3] },{ h:=4,X:=Xs_l04Leads_4,Ss:=[Ss_l04Leads_4] },{ h:=5,X:=Xs_l04Leads_5,Ss:=[Ss_l04Leads_5] }]
noncomputable def Fi_levelOK (x0:Int) (x1:Int):Option (Bool):=FnV ctx 152 sgi_levelOK (x0,x1)
def lsi_levelOK:List LSig:=[]
noncomputable def Fi_nameOK (x0:ByteArray):Option (Bool):=FnV ctx 153 sgi_nameOK x0
def Xi_nameOK_0:List Ex:=[{ out:=.ret,st:={ env:=[(2,.bool)] } },{ out:=.exit 0,st:={ env:=[] } }]
def Si_nameOK_0:SP:={ env:=[(0,.str),(3,.int .i64)] }
noncomputable def Li_nameOK_0 (x0:ByteArray) (x1:Int):Option ((Bool) ⊕ (Unit)):=LpV ctx fn153 0 0 Xi_nameOK_0 Si_nameOK_0 (x0,x1)
def lsi_nameOK:List LSig:=[{ h:=0,X:=Xi_nameOK_0,Ss:=[Si_nameOK_0] }]
noncomputable def Fi_around (x0:List AVal) (x1:List AVal) (x2:Int) (x3:List AVal) (x4:List AVal) (x5:List AVal) (x6:Int) (x7:List AVal) (x8:Int) (x9:Int) (x10:List AVal) (x11:List AVal) (x12:List AVal) (x13:List AVal) (x14:List AVal):Option (List AVal×List AVal×Int×List AVal×List AVal×List AVal×Int×List AVal×Int×Int×List AVal×List AVal×List AVal×List AVal×List AVal):=FnV ctx 154 sgi_around (x0,x1,x2,x3,x4,x5,x6,x7,x8,x9,x10,x11,x12,x13,x14)
def Xi_around_0:List Ex:=[{ out:=.exit 0,st:={ env:=[],objs:=[(2000000,true,.agg [.ro false 3,.ro false 1,.int .i64,.ro false 5]),(2000001,true,.ptr 2000002 [] none),(2000002,true,.agg [.ro false 3,.ro false 1,.int .i64,.ro false 5,.int .i64,.int .i64,.own 1,.own 1,.own 1,.own 1,.own 1])] } }]
def Si_around_0:SP:={ env:=[(0,.clo 155 [.ptr 2000000 [] none,.ptr 2000001 [] none])],objs:=[(2000000,true,.agg [.ro false 3,.ro false 1,.int .i64,.ro false 5]),(2000001,true,.ptr 2000002 [] none),(2000002,true,.agg [.ro false 3,.ro false 1,.int .i64,.ro false 5,.int .i64,.int .i64,.own 1,.own 1,.own 1,.own 1,.own 1])] }
noncomputable def Li_around_0 (x0:List AVal) (x1:List AVal) (x2:Int) (x3:List AVal) (x4:List AVal) (x5:List AVal) (x6:Int) (x7:List AVal) (x8:Int) (x9:Int) (x10:List AVal) (x11:List AVal) (x12:List AVal) (x13:List AVal) (x14:List AVal):Option (List AVal×List AVal×Int×List AVal×List AVal×List AVal×Int×List AVal×Int×Int×List AVal×List AVal×List AVal×List AVal×List AVal):=LpV ctx fn154 3 0 Xi_around_0 Si_around_0 (x0,x1,x2,x3,x4,x5,x6,x7,x8,x9,x10,x11,x12,x13,x14)
def lsi_around:List LSig:=[{ h:=0,X:=Xi_around_0,Ss:=[Si_around_0] }]
noncomputable def Fi_around_v1 (x0:List AVal) (x1:List AVal) (x2:Int) (x3:List AVal) (x4:List AVal) (x5:List AVal) (x6:Int) (x7:List AVal) (x8:Int) (x9:Int) (x10:List AVal) (x11:List AVal) (x12:List AVal) (x13:List AVal) (x14:List AVal):Option (List AVal×List AVal×Int×List AVal×List AVal×List AVal×Int×List AVal×Int×Int×List AVal×List AVal×List AVal×List AVal×List AVal):=FnV ctx 154 sgi_around_v1 (x0,x1,x2,x3,x4,x5,x6,x7,x8,x9,x10,x11,x12,x13,x14)
def Xi_around_v1_0:List Ex:=[{ out:=.exit 0,st:={ env:=[],objs:=[(2000000,true,.agg [.ro false 3,.ro false 1,.int .i64,.ro false 5]),(2000001,true,.ptr 2000002 [] none),(2000002,true,.agg [.ro false 3,.ro false 1,.int .i64,.ro false 5,.int .i64,.int .i64,.own 1,.own 1,.own 1,.own 1,.own 1])] } }]
def Si_around_v1_0:SP:={ env:=[(0,.clo 157 [.ptr 2000000 [] none,.ptr 2000001 [] none])],objs:=[(2000000,true,.agg [.ro false 3,.ro false 1,.int .i64,.ro false 5]),(2000001,true,.ptr 2000002 [] none),(2000002,true,.agg [.ro false 3,.ro false 1,.int .i64,.ro false 5,.int .i64,.int .i64,.own 1,.own 1,.own 1,.own 1,.own 1])] }
noncomputable def Li_around_v1_0 (x0:List AVal) (x1:List AVal) (x2:Int) (x3:List AVal) (x4:List AVal) (x5:List AVal) (x6:Int) (x7:List AVal) (x8:Int) (x9:Int) (x10:List AVal) (x11:List AVal) (x12:List AVal) (x13:List AVal) (x14:List AVal):Option (List AVal×List AVal×Int×List AVal×List AVal×List AVal×Int×List AVal×Int×Int×List AVal×List AVal×List AVal×List AVal×List AVal):=LpV ctx fn154 3 0 Xi_around_v1_0 Si_around_v1_0 (x0,x1,x2,x3,x4,x5,x6,x7,x8,x9,x10,x11,x12,x13,x14)
def lsi_around_v1:List LSig:=[{ h:=0,X:=Xi_around_v1_0,Ss:=[Si_around_v1_0] }]
noncomputable def Fi_leads (x0:Int) (x1:List AVal) (x2:List AVal) (x3:Int) (x4:List AVal) (x5:Int) (x6:Int) (x7:List AVal) (x8:List AVal) (x9:List AVal) (x10:List AVal) (x11:List AVal):Option (List AVal×List AVal×List AVal×Int×List AVal×Int×Int×List AVal×List AVal×List AVal×List AVal×List AVal):=FnV ctx 160 sgi_leads (x0,x1,x2,x3,x4,x5,x6,x7,x8,x9,x10,x11)
def Xi_leads_0:List Ex:=[{ out:=.exit 0,st:={ env:=[(5,.ref 5 [])],objs:=[(5,false,.own 1),(2000000,true,.agg [.ro false 3,.ro false 1,.int .i64,.ro false 5,.int .i64,.int .i64,.own 1,.own 1,.own 1,.own 1,.own 1])] } }]
def Si_leads_0:SP:={ env:=[(0,.int .i64),(1,.clo 1000161 [.ptr 2000000 [] none]),(5,.ref 5 []),(12,.int .i64),(13,.int .i64)],objs:=[(2000000,true,.agg [.ro false 3,.ro false 1,.int .i64,.ro false 5,.int .i64,.int .i64,.own 1,.own 1,.own 1,.own 1,.own 1]),(5,false,.own 1)] }
noncomputable def Li_leads_0 (x0:Int) (x1:Int) (x2:Int) (x3:List AVal) (x4:List AVal) (x5:Int) (x6:List AVal) (x7:Int) (x8:Int) (x9:List AVal) (x10:List AVal) (x11:List AVal) (x12:List AVal) (x13:List AVal) (x14:List AVal):Option (List AVal×List AVal×List AVal×Int×List AVal×Int×Int×List AVal×List AVal×List AVal×List AVal×List AVal):=LpV ctx fn160 1 0 Xi_leads_0 Si_leads_0 (x0,x1,x2,x3,x4,x5,x6,x7,x8,x9,x10,x11,x12,x13,x14)
def Xi_leads_1:List Ex:=[{ out:=.exit 2,st:={ env:=[(0,.int .i64),(1,.clo 1000161 [.ptr 2000000 [] none]),(5,.ref 5 []),(12,.int .i64),(13,.int .i64)],objs:=[(2000000,true,.agg [.ro false 3,.ro false 1,.int .i64,.ro false 5,.int .i64,.int .i64,.own 1,.own 1,.own 1,.own 1,.own 1]),(5,false,.own 1)] } }]
def Si_leads_1:SP:={ env:=[(0,.int .i64),(1,.clo 1000161 [.ptr 2000000 [] none]),(5,.ref 5 []),(6,.int .i64),(7,.ref 7 []),(12,.int .i64),(13,.int .i64)],objs:=[(2000000,true,.agg [.ro false 3,.ro false 1,.int .i64,.ro false 5,.int .i64,.int .i64,.own 1,.own 1,.own 1,.own 1,.own 1]),(5,false,.own 1),(7,false,.own 1)] }
noncomputable def Li_leads_1 (x0:Int) (x1:Int) (x2:Int) (x3:Int) (x4:List AVal) (x5:List AVal) (x6:Int) (x7:List AVal) (x8:Int) (x9:Int) (x10:List AVal) (x11:List AVal) (x12:List AVal) (x13:List AVal) (x14:List AVal) (x15:List AVal) (x16:List AVal):Option (Int×Int×Int×List AVal×List AVal×Int×List AVal×Int×Int×List AVal×List AVal×List AVal×List AVal×List AVal×List AVal):=LpV ctx fn160 1 1 Xi_leads_1 Si_leads_1 (x0,x1,x2,x3,x4,x5,x6,x7,x8,x9,x10,x11,x12,x13,x14,x15,x16)
def lsi_leads:List LSig:=[{ h:=0,X:=Xi_leads_0,Ss:=[Si_leads_0] },{ h:=1,X:=Xi_leads_1,Ss:=[Si_leads_1] }]
noncomputable def Fl_eqTerm (x0:ByteArray) (x1:Int) (x2:Int) (x3:ByteArray) (x4:Int) (x5:Int):Option (Bool):=FnV ctx 162 sgl_eqTerm (x0,x1,x2,x3,x4,x5)
def lsl_eqTerm:List LSig:=[]
noncomputable def Fl_eqProd (x0:Int) (x1:List AVal) (x2:ByteArray) (x3:Int) (x4:Int) (x5:Int) (x6:List AVal) (x7:ByteArray) (x8:Int) (x9:Int):Option (Bool):=FnV ctx 163 sgl_eqProd (x0,x1,x2,x3,x4,x5,x6,x7,x8,x9)
def lsl_eqProd:List LSig:=[]
noncomputable def Fl_szIntS (x0:List AVal) (x1:Int):Option (Int):=FnV ctx 135 sgl_szIntS (x0,x1)
def lsl_szIntS:List LSig:=[]
noncomputable def Fl_toIntS (x0:List AVal):Option (List AVal):=FnV ctx 38 sgl_toIntS x0
def Xl_toIntS_0:List Ex:=[{ out:=.exit 0,st:={ env:=[(3,.ref 3 [])],objs:=[(3,false,.own 1)] } }]
def Sl_toIntS_0:SP:={ env:=[(0,.ro false 1),(3,.ref 3 []),(4,.int .i64)],objs:=[(3,false,.own 1)] }
noncomputable def Ll_toIntS_0 (x0:List AVal) (x1:Int) (x2:List AVal):Option (List AVal):=LpV ctx fn38 0 0 Xl_toIntS_0 Sl_toIntS_0 (x0,x1,x2)
def lsl_toIntS:List LSig:=[{ h:=0,X:=Xl_toIntS_0,Ss:=[Sl_toIntS_0] }]
noncomputable def Fs_l01Letter (x0:Int):Option (Bool):=FnV ctx 193 sgs_l01Letter x0
def lss_l01Letter:List LSig:=[]
noncomputable def Fs_l01NameByte (x0:Int):Option (Bool):=FnV ctx 194 sgs_l01NameByte x0
def lss_l01NameByte:List LSig:=[]
noncomputable def Fs_l04Null (x0:List AVal) (x1:List AVal) (x2:Int) (x3:List AVal):Option (List AVal):=FnV ctx 195 sgs_l04Null (x0,x1,x2,x3)
def Xs_l04Null_0:List Ex:=[{ out:=.exit 0,st:={ env:=[(3,.ref 3 [])],objs:=[(3,false,.own 1)] } }]
def Ss_l04Null_0:SP:={ env:=[(1,.ptr 1 [] none),(3,.ref 3 []),(4,.bool)],objs:=[(1,true,.agg [.ro false 3,.ro false 1,.int .i64,.ro false 5]),(3,false,.own 1)] }
noncomputable def Ls_l04Null_0 (x0:Bool) (x1:List AVal) (x2:List AVal) (x3:Int) (x4:List AVal) (x5:List AVal):Option (List AVal):=LpV ctx fn195 0 0 Xs_l04Null_0 Ss_l04Null_0 (x0,x1,x2,x3,x4,x5)
def Xs_l04Null_1:List Ex:=[{ out:=.exit 2,st:={ env:=[(1,.ptr 1 [] none),(3,.ref 3 []),(4,.bool)],objs:=[(1,true,.agg [.ro false 3,.ro false 1,.int .i64,.ro false 5]),(3,false,.own 1)] } }]
def Ss_l04Null_1:SP:={ env:=[(1,.ptr 1 [] none),(3,.ref 3 []),(4,.bool),(5,.int .i64)],objs:=[(1,true,.agg [.ro false 3,.ro false 1,.int .i64,.ro false 5]),(3,false,.own 1)] }
noncomputable def Ls_l04Null_1 (x0:Bool) (x1:Int) (x2:List AVal) (x3:List AVal) (x4:Int) (x5:List AVal) (x6:List AVal):Option (Bool×List AVal×List AVal×Int×List AVal×List AVal):=LpV ctx fn195 0 1 Xs_l04Null_1 Ss_l04Null_1 (x0,x1,x2,x3,x4,x5,x6)
def lss_l04Null:List LSig:=[{ h:=0,X:=Xs_l04Null_0,Ss:=[Ss_l04Null_0] },{ h:=1,X:=Xs_l04Null_1,Ss:=[Ss_l04Null_1] }]
noncomputable def Fs_l04Non (x0:List AVal) (x1:List AVal) (x2:Int) (x3:List AVal) (x4:Int):Option (Int):=FnV ctx 196 sgs_l04Non (x0,x1,x2,x3,x4)
def lss_l04Non:List LSig:=[]
noncomputable def Fs_l04AllNull (x0:List AVal) (x1:List AVal) (x2:Int) (x3:List AVal) (x4:List AVal) (x5:List AVal):Option (Bool):=FnV ctx 197 sgs_l04AllNull (x0,x1,x2,x3,x4,x5)
def Xs_l04AllNull_0:List Ex:=[{ out:=.ret,st:={ env:=[(6,.bool)] } },{ out:=.exit 0,st:={ env:=[] } }]
def Ss_l04AllNull_0:SP:={ env:=[(1,.ro false 1),(2,.ro false 1),(3,.ptr 3 [] none),(7,.int .i64)],objs:=[(3,true,.agg [.ro false 3,.ro false 1,.int .i64,.ro false 5])] }
noncomputable def Ls_l04AllNull_0 (x0:List AVal) (x1:List AVal) (x2:Int) (x3:List AVal) (x4:List AVal) (x5:Int) (x6:List AVal):Option ((Bool) ⊕ (Unit)):=LpV ctx fn197 0 0 Xs_l04AllNull_0 Ss_l04AllNull_0 (x0,x1,x2,x3,x4,x5,x6)
def lss_l04AllNull:List LSig:=[{ h:=0,X:=Xs_l04AllNull_0,Ss:=[Ss_l04AllNull_0] }]
noncomputable def Fi_isLetter (x0:Int):Option (Bool):=FnV ctx 198 sgi_isLetter x0
def lsi_isLetter:List LSig:=[]
noncomputable def Fi_inName (x0:Int):Option (Bool):=FnV ctx 199 sgi_inName x0
def lsi_inName:List LSig:=[]
noncomputable def Fi_factsOf_1 (x0:List AVal) (x1:List AVal) (x2:Int) (x3:List AVal) (x4:List AVal) (x5:List AVal) (x6:Int) (x7:List AVal) (x8:Int) (x9:Int) (x10:List AVal) (x11:List AVal) (x12:List AVal) (x13:List AVal) (x14:List AVal):Option (Bool×List AVal×List AVal×Int×List AVal×List AVal×List AVal×Int×List AVal×Int×Int×List AVal×List AVal×List AVal×List AVal×List AVal):=FnV ctx 155 sgi_factsOf_1 (x0,x1,x2,x3,x4,x5,x6,x7,x8,x9,x10,x11,x12,x13,x14)
def Xi_factsOf_1_0:List Ex:=[{ out:=.exit 0,st:={ env:=[(3,.bool)],objs:=[(2000000,true,.agg [.ro false 3,.ro false 1,.int .i64,.ro false 5]),(2000001,true,.ptr 2000002 [] none),(2000002,true,.agg [.ro false 3,.ro false 1,.int .i64,.ro false 5,.int .i64,.int .i64,.own 1,.own 1,.own 1,.own 1,.own 1])] } }]
def Si_factsOf_1_0:SP:={ env:=[(1,.ptr 2000001 [] none),(3,.bool),(13,.ro false 5),(14,.int .i64),(15,.int .i64)],objs:=[(2000001,true,.ptr 2000002 [] none),(2000000,true,.agg [.ro false 3,.ro false 1,.int .i64,.ro false 5]),(2000002,true,.agg [.ro false 3,.ro false 1,.int .i64,.ro false 5,.int .i64,.int .i64,.own 1,.own 1,.own 1,.own 1,.own 1])] }
noncomputable def Li_factsOf_1_0 (x0:Bool) (x1:List AVal) (x2:Int) (x3:Int) (x4:List AVal) (x5:List AVal) (x6:Int) (x7:List AVal) (x8:List AVal) (x9:List AVal) (x10:Int) (x11:List AVal) (x12:Int) (x13:Int) (x14:List AVal) (x15:List AVal) (x16:List AVal) (x17:List AVal) (x18:List AVal):Option (Bool×List AVal×List AVal×Int×List AVal×List AVal×List AVal×Int×List AVal×Int×Int×List AVal×List AVal×List AVal×List AVal×List AVal):=LpV ctx fn155 3 0 Xi_factsOf_1_0 Si_factsOf_1_0 (x0,x1,x2,x3,x4,x5,x6,x7,x8,x9,x10,x11,x12,x13,x14,x15,x16,x17,x18)
def Xi_factsOf_1_1:List Ex:=[{ out:=.exit 2,st:={ env:=[(1,.ptr 2000001 [] none),(3,.bool),(6,.int .i64),(7,.int .i64),(8,.bool),(13,.ro false 5),(14,.int .i64),(15,.int .i64)],objs:=[(2000001,true,.ptr 2000002 [] none),(2000000,true,.agg [.ro false 3,.ro false 1,.int .i64,.ro false 5]),(2000002,true,.agg [.ro false 3,.ro false 1,.int .i64,.ro false 5,.int .i64,.int .i64,.own 1,.own 1,.own 1,.own 1,.own 1])] } }]
def Si_factsOf_1_1:SP:={ env:=[(1,.ptr 2000001 [] none),(3,.bool),(6,.int .i64),(7,.int .i64),(8,.bool),(13,.ro false 5),(14,.int .i64),(15,.int .i64),(27,.ro false 1),(28,.int .i64),(29,.int .i64)],objs:=[(2000001,true,.ptr 2000002 [] none),(2000000,true,.agg [.ro false 3,.ro false 1,.int .i64,.ro false 5]),(2000002,true,.agg [.ro false 3,.ro false 1,.int .i64,.ro false 5,.int .i64,.int .i64,.own 1,.own 1,.own 1,.own 1,.own 1])] }
noncomputable def Li_factsOf_1_1 (x0:Bool) (x1:Int) (x2:Int) (x3:Bool) (x4:List AVal) (x5:Int) (x6:Int) (x7:List AVal) (x8:Int) (x9:Int) (x10:List AVal) (x11:List AVal) (x12:Int) (x13:List AVal) (x14:List AVal) (x15:List AVal) (x16:Int) (x17:List AVal) (x18:Int) (x19:Int) (x20:List AVal) (x21:List AVal) (x22:List AVal) (x23:List AVal) (x24:List AVal):Option (Bool×Int×Int×Bool×List AVal×Int×Int×List AVal×List AVal×Int×List AVal×List AVal×List AVal×Int×List AVal×Int×Int×List AVal×List AVal×List AVal×List AVal×List AVal):=LpV ctx fn155 3 1 Xi_factsOf_1_1 Si_factsOf_1_1 (x0,x1,x2,x3,x4,x5,x6,x7,x8,x9,x10,x11,x12,x13,x14,x15,x16,x17,x18,x19,x20,x21,x22,x23,x24)
def lsi_factsOf_1:List LSig:=[{ h:=0,X:=Xi_factsOf_1_0,Ss:=[Si_factsOf_1_0] },{ h:=1,X:=Xi_factsOf_1_1,Ss:=[Si_factsOf_1_1] }]
noncomputable def Fi_factsOf_2 (x0:List AVal) (x1:List AVal) (x2:Int) (x3:List AVal) (x4:List AVal) (x5:List AVal) (x6:Int) (x7:List AVal) (x8:Int) (x9:Int) (x10:List AVal) (x11:List AVal) (x12:List AVal) (x13:List AVal) (x14:List AVal):Option (Bool×List AVal×List AVal×Int×List AVal×List AVal×List AVal×Int×List AVal×Int×Int×List AVal×List AVal×List AVal×List AVal×List AVal):=FnV ctx 157 sgi_factsOf_2 (x0,x1,x2,x3,x4,x5,x6,x7,x8,x9,x10,x11,x12,x13,x14)
def Xi_factsOf_2_0:List Ex:=[{ out:=.exit 0,st:={ env:=[(3,.bool)],objs:=[(2000000,true,.agg [.ro false 3,.ro false 1,.int .i64,.ro false 5]),(2000001,true,.ptr 2000002 [] none),(2000002,true,.agg [.ro false 3,.ro false 1,.int .i64,.ro false 5,.int .i64,.int .i64,.own 1,.own 1,.own 1,.own 1,.own 1])] } }]
def Si_factsOf_2_0:SP:={ env:=[(1,.ptr 2000001 [] none),(3,.bool),(7,.ro false 5),(8,.int .i64),(9,.int .i64)],objs:=[(2000001,true,.ptr 2000002 [] none),(2000000,true,.agg [.ro false 3,.ro false 1,.int .i64,.ro false 5]),(2000002,true,.agg [.ro false 3,.ro false 1,.int .i64,.ro false 5,.int .i64,.int .i64,.own 1,.own 1,.own 1,.own 1,.own 1])] }
noncomputable def Li_factsOf_2_0 (x0:Bool) (x1:List AVal) (x2:Int) (x3:Int) (x4:List AVal) (x5:List AVal) (x6:Int) (x7:List AVal) (x8:List AVal) (x9:List AVal) (x10:Int) (x11:List AVal) (x12:Int) (x13:Int) (x14:List AVal) (x15:List AVal) (x16:List AVal) (x17:List AVal) (x18:List AVal):Option (Bool×List AVal×List AVal×Int×List AVal×List AVal×List AVal×Int×List AVal×Int×Int×List AVal×List AVal×List AVal×List AVal×List AVal):=LpV ctx fn157 3 0 Xi_factsOf_2_0 Si_factsOf_2_0 (x0,x1,x2,x3,x4,x5,x6,x7,x8,x9,x10,x11,x12,x13,x14,x15,x16,x17,x18)
def lsi_factsOf_2:List LSig:=[{ h:=0,X:=Xi_factsOf_2_0,Ss:=[Si_factsOf_2_0] }]
noncomputable def Fi_facts_besideStep (x0:AVal) (x1:Int):Option (List AVal):=FnV ctx 161 sgi_facts_besideStep (x0,x1)
def Xi_facts_besideStep_0:List Ex:=[{ out:=.exit 0,st:={ env:=[(5,.ref 5 [])],objs:=[(5,false,.own 1)] } }]
def Si_facts_besideStep_0:SP:={ env:=[(0,.rop none),(5,.ref 5 []),(17,.ro false 1),(18,.int .i64),(19,.int .i64)],objs:=[(5,false,.own 1)] }
noncomputable def Li_facts_besideStep_0 (x0:AVal) (x1:List AVal) (x2:Int) (x3:Int) (x4:List AVal):Option (List AVal):=LpV ctx fn161 0 0 Xi_facts_besideStep_0 Si_facts_besideStep_0 (x0,x1,x2,x3,x4)
def Xi_facts_besideStep_1:List Ex:=[{ out:=.exit 2,st:={ env:=[(0,.rop none),(5,.ref 5 []),(17,.ro false 1),(18,.int .i64),(19,.int .i64)],objs:=[(5,false,.own 1)] } }]
def Si_facts_besideStep_1:SP:={ env:=[(0,.rop none),(5,.ref 5 []),(8,.ro false 1),(17,.ro false 1),(18,.int .i64),(19,.int .i64),(32,.ro false 1),(33,.int .i64),(34,.int .i64)],objs:=[(5,false,.own 1)] }
noncomputable def Li_facts_besideStep_1 (x0:AVal) (x1:List AVal) (x2:List AVal) (x3:Int) (x4:Int) (x5:List AVal) (x6:Int) (x7:Int) (x8:List AVal):Option (AVal×List AVal×Int×Int×List AVal):=LpV ctx fn161 0 1 Xi_facts_besideStep_1 Si_facts_besideStep_1 (x0,x1,x2,x3,x4,x5,x6,x7,x8)
def lsi_facts_besideStep:List LSig:=[{ h:=0,X:=Xi_facts_besideStep_0,Ss:=[Si_facts_besideStep_0] },{ h:=1,X:=Xi_facts_besideStep_1,Ss:=[Si_facts_besideStep_1] }]
noncomputable def Fl_eqIntS (x0:List AVal) (x1:List AVal):Option (Bool):=FnV ctx 40 sgl_eqIntS (x0,x1)
def Xl_eqIntS_0:List Ex:=[{ out:=.ret,st:={ env:=[(4,.bool)] } },{ out:=.exit 0,st:={ env:=[] } }]
def Sl_eqIntS_0:SP:={ env:=[(0,.ro false 1),(1,.ro false 1),(5,.int .i64)] }
noncomputable def Ll_eqIntS_0 (x0:List AVal) (x1:List AVal) (x2:Int):Option ((Bool) ⊕ (Unit)):=LpV ctx fn40 0 0 Xl_eqIntS_0 Sl_eqIntS_0 (x0,x1,x2)
def lsl_eqIntS:List LSig:=[{ h:=0,X:=Xl_eqIntS_0,Ss:=[Sl_eqIntS_0] }]
noncomputable def Fs_l01Digit (x0:Int):Option (Bool):=FnV ctx 216 sgs_l01Digit x0
def lss_l01Digit:List LSig:=[]
noncomputable def Fi_isDigit (x0:Int):Option (Bool):=FnV ctx 217 sgi_isDigit x0
def lsi_isDigit:List LSig:=[]
noncomputable def Fi_facts_length (x0:AVal) (x1:Int):Option (Int):=FnV ctx 156 sgi_facts_length (x0,x1)
def lsi_facts_length:List LSig:=[]
noncomputable def Fi_facts_firstOf (x0:AVal) (x1:List AVal):Option (List AVal):=FnV ctx 159 sgi_facts_firstOf (x0,x1)
def Xi_facts_firstOf_0:List Ex:=[{ out:=.exit 0,st:={ env:=[(5,.ref 5 [])],objs:=[(5,false,.own 1)] } }]
def Si_facts_firstOf_0:SP:={ env:=[(0,.rop none),(5,.ref 5 []),(13,.ro false 1),(14,.int .i64),(15,.int .i64)],objs:=[(5,false,.own 1)] }
noncomputable def Li_facts_firstOf_0 (x0:AVal) (x1:List AVal) (x2:Int) (x3:Int) (x4:List AVal):Option (List AVal):=LpV ctx fn159 0 0 Xi_facts_firstOf_0 Si_facts_firstOf_0 (x0,x1,x2,x3,x4)
def lsi_facts_firstOf:List LSig:=[{ h:=0,X:=Xi_facts_firstOf_0,Ss:=[Si_facts_firstOf_0] }]
noncomputable def Fi_merge (x0:List AVal) (x1:List AVal):Option (Bool×List AVal):=FnV ctx 158 sgi_merge (x0,x1)
def Xi_merge_0:List Ex:=[{ out:=.exit 0,st:={ env:=[(5,.bool)],objs:=[(2000000,false,.own 1)] } }]
def Si_merge_0:SP:={ env:=[(0,.ref 2000000 []),(5,.bool),(8,.ro false 1),(9,.int .i64),(10,.int .i64)],objs:=[(2000000,false,.own 1)] }
noncomputable def Li_merge_0 (x0:Bool) (x1:List AVal) (x2:Int) (x3:Int) (x4:List AVal):Option (Bool×List AVal):=LpV ctx fn158 1 0 Xi_merge_0 Si_merge_0 (x0,x1,x2,x3,x4)
def lsi_merge:List LSig:=[{ h:=0,X:=Xi_merge_0,Ss:=[Si_merge_0] }]
noncomputable def Fi_facts_nullAll (x0:AVal) (x1:List AVal):Option (Bool):=FnV ctx 200 sgi_facts_nullAll (x0,x1)
def Xi_facts_nullAll_0:List Ex:=[{ out:=.ret,st:={ env:=[(4,.bool)] } },{ out:=.exit 0,st:={ env:=[] } }]
def Si_facts_nullAll_0:SP:={ env:=[(0,.rop none),(7,.ro false 1),(8,.int .i64),(9,.int .i64)] }
noncomputable def Li_facts_nullAll_0 (x0:AVal) (x1:List AVal) (x2:Int) (x3:Int):Option ((Bool) ⊕ (Unit)):=LpV ctx fn200 0 0 Xi_facts_nullAll_0 Si_facts_nullAll_0 (x0,x1,x2,x3)
def lsi_facts_nullAll:List LSig:=[{ h:=0,X:=Xi_facts_nullAll_0,Ss:=[Si_facts_nullAll_0] }]
noncomputable def Fi_facts_nullSym (x0:AVal) (x1:Int):Option (Bool):=FnV ctx 218 sgi_facts_nullSym (x0,x1)
def lsi_facts_nullSym:List LSig:=[]
end Go.Proofs.Ytnbpmjfemeeecaa
