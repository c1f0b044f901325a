/- What the functions of the laws are given and give back, and their names on values; no condition. -/
import Derived.Test.YtnbpmjfemeeecaaVmd
import Derived.Test.YtnbpmjfemeeecaaVC
import Derived.Tactics
namespace Go.Proofs.Ytnbpmjfemeeecaa
open Go.VK AVal
abbrev ty_func:Nat:=1
abbrev ty_int64:Nat:=2
abbrev ty_int:Nat:=3
abbrev ty_bool:Nat:=4
abbrev ty_uint8:Nat:=5
abbrev ty_abi_BoundsErrorCode:Nat:=6
abbrev ty_runtime_boundsError:Nat:=8
abbrev ty_string:Nat:=9
abbrev ty_runtime_errorString:Nat:=10
abbrev ty_runtime_plainError:Nat:=11
abbrev ty_uintptr:Nat:=12
abbrev ty_runtime_errorAddressString:Nat:=14
abbrev ty_P_runtime_TypeAssertionError:Nat:=15
abbrev ty_P_runtime_PanicNilError:Nat:=16
abbrev ty_P_abi_Type:Nat:=17
abbrev ty_maps_unhashableTypeError:Nat:=19
abbrev ty_int32:Nat:=21
abbrev ty_S_laws_Tree:Nat:=22
abbrev ty_laws_Tree:Nat:=24
abbrev ty_func_laws_Tree_int_int:Nat:=25
abbrev ty_S_S_int:Nat:=29
abbrev ty_func_S_S_int_S_S_int_bool:Nat:=34
abbrev ty_func_S_S_int_int_int:Nat:=36
abbrev ty_func_laws_Tree_laws_Tree_laws_Tree_bool:Nat:=37
abbrev ty_S_laws_LNode:Nat:=38
abbrev ty_S_bool:Nat:=39
abbrev ty_func_S_laws_LNode_int_int:Nat:=40
abbrev ty_func_S_bool_S_bool:Nat:=45
abbrev ty_func_S_bool_S_bool_bool:Nat:=47
abbrev ty_func_S_laws_LNode_S_bool_bool:Nat:=48
abbrev ty_func_S_laws_LNode_int_bool:Nat:=51
abbrev ty_S_laws_Term:Nat:=52
abbrev ty_S_string:Nat:=53
abbrev ty_S_laws_Prod:Nat:=54
abbrev ty_laws_Bnf:Nat:=56
abbrev ty_func_laws_Bnf_int_int:Nat:=57
abbrev ty_func_laws_Bnf_bool:Nat:=66
abbrev ty_S_S_laws_Act:Nat:=67
abbrev ty_laws_Table:Nat:=69
abbrev ty_S_int:Nat:=70
abbrev ty_func_laws_Table_int_int:Nat:=71
abbrev ty_func_S_int_S_int:Nat:=78
abbrev ty_func_S_int_S_int_bool:Nat:=79
abbrev ty_func_S_int_int_int:Nat:=83
abbrev ty_func_laws_Bnf_laws_Table_S_int_bool:Nat:=84
abbrev ty_func_string_int_int:Nat:=86
abbrev ty_func_string_bool:Nat:=87
abbrev ty_func_laws_Tree_laws_Tree_bool:Nat:=95
abbrev ty_func_S_laws_Tree_int_int:Nat:=96
abbrev ty_func_laws_LNode_int_int:Nat:=109
abbrev ty_laws_LNode:Nat:=111
abbrev ty_func_int_int_int_bool:Nat:=118
abbrev ty_func_string_int_int_int:Nat:=119
abbrev ty_func_string:Nat:=122
abbrev ty_func_int:Nat:=123
abbrev ty_func_int_int_bool:Nat:=126
abbrev ty_func_S_laws_Term_int_int:Nat:=127
abbrev ty_func_S_string_int_int:Nat:=128
abbrev ty_func_S_laws_Prod_int_int:Nat:=129
abbrev ty_func_S_string_S_string:Nat:=132
abbrev ty_func_bool:Nat:=136
abbrev ty_func_S_string_S_string_bool:Nat:=138
abbrev ty_func_S_S_laws_Act_int_int:Nat:=140
abbrev ty_func_S_S_int_S_S_int:Nat:=152
abbrev ty_func_int_bool_int:Nat:=157
abbrev ty_map_2_int_int:Nat:=177
abbrev ty_func_int_int_int:Nat:=184
abbrev ty_func_S_int:Nat:=190
abbrev ty_P_int:Nat:=192
abbrev ty_func_int_string:Nat:=196
abbrev ty_func_string_uint8_bool:Nat:=197
abbrev ty_S_uint8:Nat:=199
abbrev ty_map_int_int:Nat:=202
abbrev ty_P_strings_Builder:Nat:=204
abbrev ty_strings_Builder:Nat:=206
abbrev ty_error:Nat:=208
abbrev ty_func_string_int_error:Nat:=210
abbrev ty_func_string_int_string:Nat:=211
abbrev ty_func_laws_Term_int_int:Nat:=213
abbrev ty_laws_Term:Nat:=215
abbrev ty_func_laws_Prod_int_int:Nat:=216
abbrev ty_laws_Prod:Nat:=218
abbrev ty_func_S_string_string_int:Nat:=221
abbrev ty_S_S_bool:Nat:=223
abbrev ty_map_string_int:Nat:=227
abbrev ty_func_func_bool:Nat:=230
abbrev ty_func_int_int:Nat:=231
abbrev ty_func_S_int_S_bool:Nat:=232
abbrev ty_func_int_func_int_S_int_S_S_bool:Nat:=233
abbrev ty_func_int_S_int:Nat:=234
abbrev ty_func_S_laws_Act_int_int:Nat:=237
abbrev ty_S_laws_Act:Nat:=238
abbrev ty_func_int_int_S_S_int:Nat:=261
abbrev ty_func_string_string_bool:Nat:=265
abbrev ty_uint:Nat:=266
abbrev ty_func_uint_uint_uint_uint:Nat:=268
abbrev ty_P_uint8:Nat:=269
abbrev ty_func_uint8_bool:Nat:=270
abbrev ty_func_S_int_bool:Nat:=273
abbrev ty_laws_Act:Nat:=275
abbrev ty_func_S_int_int_S_int:Nat:=285
abbrev ty_func_string_string_int:Nat:=286
abbrev ty_func_unsafe_Pointer_unsafe_Pointer:Nat:=288
abbrev ty_uint32:Nat:=289
abbrev ty_func_uint32_uint32_uint32_uint32:Nat:=291
abbrev ty_uint64:Nat:=292
abbrev ty_func_uint64_uint64_uint64_uint64:Nat:=294
abbrev ty_func_int_bool:Nat:=295
abbrev ty_func_int_S_uint8:Nat:=296
abbrev ty_func_string_uint8_int:Nat:=297
abbrev ty_func_string_int:Nat:=300
abbrev ty_func_string_uint8:Nat:=303
abbrev ty_func_string_uint32_uint32:Nat:=304
abbrev ty_runtime_TypeAssertionError:Nat:=306
abbrev ty_abi_TFlag:Nat:=310
abbrev ty_abi_Kind:Nat:=311
abbrev ty_func_unsafe_Pointer_unsafe_Pointer_bool:Nat:=312
abbrev ty_abi_NameOff:Nat:=313
abbrev ty_abi_TypeOff:Nat:=314
abbrev ty_abi_Type:Nat:=316
abbrev n_l_FnExactMerge:Nat:=3
abbrev n_l_FnExactSet:Nat:=4
abbrev n_l_FnExactLayout:Nat:=5
abbrev n_l_FnExactCyclic:Nat:=6
abbrev n_l_FnExactParse:Nat:=7
abbrev n_l_FnExactExpected:Nat:=8
abbrev n_l_FnExactRxOK:Nat:=9
abbrev n_l_FnExactDiff:Nat:=10
def sgl_FnExactLayout:Sig:={ i:={ vs:=[.ro false 4,.int .i64] },o:={ vs:=[.bool] } }
def sgl_szLNodeS:Sig:={ i:={ vs:=[.ro false 4,.int .i64] },o:={ vs:=[.int .i64] } }
def sgl_toLNodeS:Sig:={ i:={ vs:=[.ro false 4] },o:={ vs:=[.own 4] } }
def sgs_Layout:Sig:={ i:={ vs:=[.ro false 4,.int .i64] },o:={ vs:=[.str,.int .i64,.int .i64] } }
def sgi_Layout:Sig:={ i:={ vs:=[.ro false 4,.int .i64] },o:={ vs:=[.str,.int .i64,.int .i64] } }
def sgl_eqLNodeS:Sig:={ i:={ vs:=[.ro false 4,.ro false 4] },o:={ vs:=[.bool] } }
def sgl_szLNode:Sig:={ i:={ vs:=[.agg [.int .i64,.str,.int .i64,.ro false 1],.int .i64] },o:={ vs:=[.int .i64] } }
def sgl_toLNode:Sig:={ i:={ vs:=[.agg [.int .i64,.str,.int .i64,.ro false 1]] },o:={ vs:=[.agg [.int .i64,.str,.int .i64,.own 1]] } }
def sgs_LayoutOK:Sig:={ i:={ vs:=[.ro false 4] },o:={ vs:=[.bool] } }
def sgs_l01Between:Sig:={ i:={ vs:=[.int .i64,.int .i64,.int .i64] },o:={ vs:=[.bool] } }
def sgs_l14Groups:Sig:={ i:={ vs:=[.ro false 4] },o:={ vs:=[.int .i64] } }
def sgs_l14Text:Sig:={ i:={ vs:=[.ro false 4,.ro false 1] },o:={ vs:=[.str] } }
def sgs_l14Cost:Sig:={ i:={ vs:=[.str,.int .i64] },o:={ vs:=[.int .i64,.int .i64] } }
def sgi_LayoutOK:Sig:={ i:={ vs:=[.ro false 4] },o:={ vs:=[.bool] } }
def sgi_groups:Sig:={ i:={ vs:=[.ro false 4] },o:={ vs:=[.int .i64] } }
def sgi_newSetter:Sig:={ i:={ vs:=[.ro false 4,.ro false 1] },o:={ vs:=[.tup [.agg [.ro false 4,.ro false 1,.ro false 1,.unk,.unk]]] } }
def sgi_setter_col:Sig:={ i:={ vs:=[.ptr 0 [] none,.int .i64,.int .i64,.bool],os:=[(true,.agg [.ro false 4,.ro false 1,.ro false 1,.clo 78 [.ptr 2000001 [] none],.clo 79 [.ptr 2000002 [] none,.ptr 2000001 [] none,.ptr 2000003 [] none,.ptr 2000004 [] none]]),(true,.int .i64),(true,.int .i64),(true,.int .i64),(true,.int .i64)] },o:={ vs:=[],os:=[(true,.agg [.ro false 4,.ro false 1,.ro false 1,.clo 78 [.ptr 2000001 [] none],.clo 79 [.ptr 2000002 [] none,.ptr 2000001 [] none,.ptr 2000003 [] none,.ptr 2000004 [] none]]),(true,.int .i64),(true,.int .i64),(true,.int .i64),(true,.int .i64)] } }
def sgi_setText:Sig:={ i:={ vs:=[.ro false 4,.ro false 1] },o:={ vs:=[.str] } }
def sgl_eqLNode:Sig:={ i:={ vs:=[.agg [.int .i64,.str,.int .i64,.ro false 1],.agg [.int .i64,.str,.int .i64,.ro false 1]] },o:={ vs:=[.bool] } }
def sgl_szIntS:Sig:={ i:={ vs:=[.ro false 1,.int .i64] },o:={ vs:=[.int .i64] } }
def sgl_toIntS:Sig:={ i:={ vs:=[.ro false 1] },o:={ vs:=[.own 1] } }
def sgs_l02In:Sig:={ i:={ vs:=[.str,.int .u8] },o:={ vs:=[.bool] } }
def sgs_l14Set_node:Sig:={ i:={ vs:=[.ptr 0 [] none,.int .i64,.int .i64,.bool],os:=[(true,.agg [.ro false 4,.ro false 1,.own 1])] },o:={ vs:=[],os:=[(true,.agg [.ro false 4,.ro false 1,.own 1])] } }
def sgi_layoutNode:Sig:={ i:={ vs:=[.ro false 4,.int .i64,.ref 0 []],os:=[(false,.mp (.int .i64))] },o:={ vs:=[.bool],os:=[(false,.mp (.int .i64))] } }
def sgi_Layout_1:Sig:={ i:={ vs:=[.str,.ptr 0 [] none],os:=[(true,.int .i64)] },o:={ vs:=[],os:=[(true,.int .i64)] } }
def sgi_Layout_2:Sig:={ i:={ vs:=[.int .i64,.ptr 0 [] none,.ptr 1 [] none,.ptr 2 [] none,.ptr 3 [] none],os:=[(true,.int .i64),(true,.int .i64),(true,.int .i64),(true,.int .i64)] },o:={ vs:=[],os:=[(true,.int .i64),(true,.int .i64),(true,.int .i64),(true,.int .i64)] } }
def sgi_setter_set:Sig:={ i:={ vs:=[.ptr 0 [] none,.int .i64,.int .i64,.bool],os:=[(true,.agg [.ro false 4,.ro false 1,.ro false 1,.clo 139 [.ref 2000001 []],.clo 141 [.ref 2000001 []]]),(false,.mp .oth)] },o:={ vs:=[],os:=[(true,.agg [.ro false 4,.ro false 1,.ro false 1,.clo 139 [.ref 2000001 []],.clo 141 [.ref 2000001 []]]),(false,.mp .oth)] } }
def sgstrings_Builder_String:Sig:={ i:={ vs:=[.ref 0 []],os:=[(false,.mp .oth)] },o:={ vs:=[.str],os:=[(false,.und)] } }
def sgl_eqIntS:Sig:={ i:={ vs:=[.ro false 1,.ro false 1] },o:={ vs:=[.bool] } }
def sgs_l14Set_feed:Sig:={ i:={ vs:=[.ptr 0 [] none,.int .i64],os:=[(true,.agg [.ro false 4,.ro false 1,.own 1])] },o:={ vs:=[],os:=[(true,.agg [.ro false 4,.ro false 1,.own 1])] } }
def sgs_l14Set_group:Sig:={ i:={ vs:=[.rop none,.int .i64] },o:={ vs:=[.int .i64] } }
def sgstrings_Contains:Sig:={ i:={ vs:=[.str,.str] },o:={ vs:=[.bool] } }
def sgi_setText_1:Sig:={ i:={ vs:=[.str,.ref 0 []],os:=[(false,.mp .oth)] },o:={ vs:=[],os:=[(false,.mp .oth)] } }
def sgi_setText_2:Sig:={ i:={ vs:=[.int .i64,.ref 0 []],os:=[(false,.mp .oth)] },o:={ vs:=[],os:=[(false,.mp .oth)] } }
def sgstrings_Index:Sig:={ i:={ vs:=[.str,.str] },o:={ vs:=[.int .i64] } }
def sgstrings_Builder_WriteString:Sig:={ i:={ vs:=[.ref 0 [],.str],os:=[(false,.mp .oth)] },o:={ vs:=[.int .i64,.und],os:=[(false,.mp .oth)] } }
def sgstrings_Repeat:Sig:={ i:={ vs:=[.str,.int .i64] },o:={ vs:=[.str] } }
def sginternal_stringslite_Index:Sig:={ i:={ vs:=[.str,.str] },o:={ vs:=[.int .i64] } }
def sginternal_stringslite_IndexByte:Sig:={ i:={ vs:=[.str,.int .u8] },o:={ vs:=[.int .i64] } }
def sigs:List (Nat×Sig):=[(5,sgl_FnExactLayout),(21,sgl_szLNodeS),(23,sgl_toLNodeS),(28,sgs_Layout),(29,sgi_Layout),(26,sgl_eqLNodeS),(66,sgl_szLNode),(70,sgl_toLNode),(67,sgs_LayoutOK),(75,sgs_l01Between),(68,sgs_l14Groups),(69,sgs_l14Text),(76,sgs_l14Cost),(71,sgi_LayoutOK),(72,sgi_groups),(77,sgi_newSetter),(80,sgi_setter_col),(73,sgi_setText),(74,sgl_eqLNode),(135,sgl_szIntS),(38,sgl_toIntS),(136,sgs_l02In),(137,sgs_l14Set_node),(138,sgi_layoutNode),(78,sgi_Layout_1),(79,sgi_Layout_2),(80,sgi_setter_set),(143,sgstrings_Builder_String),(40,sgl_eqIntS),(185,sgs_l14Set_feed),(186,sgs_l14Set_group),(187,sgstrings_Contains),(139,sgi_setText_1),(141,sgi_setText_2),(210,sgstrings_Index),(140,sgstrings_Builder_WriteString),(142,sgstrings_Repeat),(221,sginternal_stringslite_Index),(225,sginternal_stringslite_IndexByte)]
noncomputable def Fl_FnExactLayout (x0:List AVal) (x1:Int):Option (Bool):=FnV ctx 5 sgl_FnExactLayout (x0,x1)
def lsl_FnExactLayout:List LSig:=[]
noncomputable def Fl_szLNodeS (x0:List AVal) (x1:Int):Option (Int):=FnV ctx 21 sgl_szLNodeS (x0,x1)
def Xl_szLNodeS_0:List Ex:=[{ out:=.ret,st:={ env:=[(4,.int .i64)] } },{ out:=.exit 0,st:={ env:=[(1,.int .i64)] } }]
def Sl_szLNodeS_0:SP:={ env:=[(0,.ro false 4),(1,.int .i64),(5,.int .i64)] }
noncomputable def Ll_szLNodeS_0 (x0:List AVal) (x1:Int) (x2:Int):Option ((Int) ⊕ (Int)):=LpV ctx fn21 0 0 Xl_szLNodeS_0 Sl_szLNodeS_0 (x0,x1,x2)
def lsl_szLNodeS:List LSig:=[{ h:=0,X:=Xl_szLNodeS_0,Ss:=[Sl_szLNodeS_0] }]
noncomputable def Fl_toLNodeS (x0:List AVal):Option (List AVal):=FnV ctx 23 sgl_toLNodeS x0
def Xl_toLNodeS_0:List Ex:=[{ out:=.exit 0,st:={ env:=[(3,.ref 3 [])],objs:=[(3,false,.own 4)] } }]
def Sl_toLNodeS_0:SP:={ env:=[(0,.ro false 4),(3,.ref 3 []),(4,.int .i64)],objs:=[(3,false,.own 4)] }
noncomputable def Ll_toLNodeS_0 (x0:List AVal) (x1:Int) (x2:List AVal):Option (List AVal):=LpV ctx fn23 0 0 Xl_toLNodeS_0 Sl_toLNodeS_0 (x0,x1,x2)
def lsl_toLNodeS:List LSig:=[{ h:=0,X:=Xl_toLNodeS_0,Ss:=[Sl_toLNodeS_0] }]
noncomputable def Fs_Layout (x0:List AVal) (x1:Int):Option (ByteArray×Int×Int):=FnV ctx 28 sgs_Layout (x0,x1)
def Xs_Layout_0:List Ex:=[{ out:=.exit 0,st:={ env:=[(8,.str),(9,.int .i64)] } }]
def Ss_Layout_0:SP:={ env:=[(0,.ro false 4),(1,.int .i64),(7,.int .i64),(8,.str),(9,.int .i64),(10,.int .i64),(11,.int .i64)] }
noncomputable def Ls_Layout_0 (x0:List AVal) (x1:Int) (x2:Int) (x3:ByteArray) (x4:Int) (x5:Int) (x6:Int):Option (ByteArray×Int):=LpV ctx fn28 0 0 Xs_Layout_0 Ss_Layout_0 (x0,x1,x2,x3,x4,x5,x6)
def Xs_Layout_1:List Ex:=[{ out:=.exit 2,st:={ env:=[(0,.ro false 4),(1,.int .i64),(7,.int .i64),(8,.str),(9,.int .i64),(10,.int .i64),(11,.int .i64),(12,.ref 12 [])],objs:=[(12,false,.own 1)] } }]
def Ss_Layout_1:SP:={ env:=[(0,.ro false 4),(1,.int .i64),(7,.int .i64),(8,.str),(9,.int .i64),(10,.int .i64),(11,.int .i64),(12,.ref 12 []),(13,.int .i64)],objs:=[(12,false,.own 1)] }
noncomputable def Ls_Layout_1 (x0:List AVal) (x1:Int) (x2:Int) (x3:ByteArray) (x4:Int) (x5:Int) (x6:Int) (x7:Int) (x8:List AVal):Option (List AVal×Int×Int×ByteArray×Int×Int×Int×List AVal):=LpV ctx fn28 0 1 Xs_Layout_1 Ss_Layout_1 (x0,x1,x2,x3,x4,x5,x6,x7,x8)
def lss_Layout:List LSig:=[{ h:=0,X:=Xs_Layout_0,Ss:=[Ss_Layout_0] },{ h:=1,X:=Xs_Layout_1,Ss:=[Ss_Layout_1] }]
noncomputable def Fi_Layout (x0:List AVal) (x1:Int):Option (ByteArray×Int×Int):=FnV ctx 29 sgi_Layout (x0,x1)
def Xi_Layout_0:List Ex:=[{ out:=.exit 0,st:={ env:=[(0,.ro false 4),(8,.nils 1),(9,.int .i64)] } },{ out:=.exit 0,st:={ env:=[(0,.ro false 4),(8,.ref 8 []),(9,.int .i64)],objs:=[(8,false,.ro false 1)] } }]
def Si_Layout_0:SP:={ env:=[(0,.ro false 4),(3,.ptr 3 [] none),(7,.int .i64),(8,.nils 1),(9,.int .i64),(10,.int .i64),(11,.int .i64)],objs:=[(3,true,.int .i64)] }
noncomputable def Li_Layout_0 (x0:List AVal) (x1:Int) (x2:Int) (x3:Int) (x4:Int) (x5:Int):Option ((List AVal×Int) ⊕ (List AVal×Int×List AVal)):=LpV ctx fn29 0 0 Xi_Layout_0 Si_Layout_0 (x0,x1,x2,x3,x4,x5)
def Si_Layout_0s1:SP:={ env:=[(0,.ro false 4),(3,.ptr 3 [] none),(7,.int .i64),(8,.ref 8 []),(9,.int .i64),(10,.int .i64),(11,.int .i64)],objs:=[(3,true,.int .i64),(8,false,.ro false 1)] }
noncomputable def Li_Layout_0s1 (x0:List AVal) (x1:Int) (x2:Int) (x3:Int) (x4:Int) (x5:Int) (x6:List AVal):Option ((List AVal×Int) ⊕ (List AVal×Int×List AVal)):=LpV ctx fn29 0 0 Xi_Layout_0 Si_Layout_0s1 (x0,x1,x2,x3,x4,x5,x6)
def Xi_Layout_1:List Ex:=[{ out:=.exit 2,st:={ env:=[(0,.ro false 4),(3,.ptr 3 [] none),(7,.int .i64),(8,.nils 1),(9,.int .i64),(10,.int .i64),(11,.int .i64),(12,.ref 12 [])],objs:=[(3,true,.int .i64),(12,false,.own 1)] } },{ out:=.exit 2,st:={ env:=[(0,.ro false 4),(3,.ptr 3 [] none),(7,.int .i64),(8,.ref 8 []),(9,.int .i64),(10,.int .i64),(11,.int .i64),(12,.ref 12 [])],objs:=[(3,true,.int .i64),(8,false,.ro false 1),(12,false,.own 1)] } }]
def Si_Layout_1:SP:={ env:=[(0,.ro false 4),(3,.ptr 3 [] none),(7,.int .i64),(8,.nils 1),(9,.int .i64),(10,.int .i64),(11,.int .i64),(12,.ref 12 []),(40,.int .i64),(41,.int .i64)],objs:=[(3,true,.int .i64),(12,false,.own 1)] }
noncomputable def Li_Layout_1 (x0:List AVal) (x1:Int) (x2:Int) (x3:Int) (x4:Int) (x5:Int) (x6:Int) (x7:Int) (x8:List AVal):Option ((List AVal×Int×Int×Int×Int×Int×List AVal) ⊕ (List AVal×Int×Int×Int×Int×Int×List AVal×List AVal)):=LpV ctx fn29 0 1 Xi_Layout_1 Si_Layout_1 (x0,x1,x2,x3,x4,x5,x6,x7,x8)
def Si_Layout_1s1:SP:={ env:=[(0,.ro false 4),(3,.ptr 3 [] none),(7,.int .i64),(8,.ref 8 []),(9,.int .i64),(10,.int .i64),(11,.int .i64),(12,.ref 12 []),(40,.int .i64),(41,.int .i64)],objs:=[(3,true,.int .i64),(8,false,.ro false 1),(12,false,.own 1)] }
noncomputable def Li_Layout_1s1 (x0:List AVal) (x1:Int) (x2:Int) (x3:Int) (x4:Int) (x5:Int) (x6:Int) (x7:Int) (x8:List AVal) (x9:List AVal):Option ((List AVal×Int×Int×Int×Int×Int×List AVal) ⊕ (List AVal×Int×Int×Int×Int×Int×List AVal×List AVal)):=LpV ctx fn29 0 1 Xi_Layout_1 Si_Layout_1s1 (x0,x1,x2,x3,x4,x5,x6,x7,x8,x9)
def lsi_Layout:List LSig:=[{ h:=0,X:=Xi_Layout_0,Ss:=[Si_Layout_0,Si_Layout_0s1] },{ h:=1,X:=Xi_Layout_1,Ss:=[Si_Layout_1,Si_Layout_1s1] }]
noncomputable def Fl_eqLNodeS (x0:List AVal) (x1:List AVal):Option (Bool):=FnV ctx 26 sgl_eqLNodeS (x0,x1)
def Xl_eqLNodeS_0:List Ex:=[{ out:=.ret,st:={ env:=[(4,.bool)] } },{ out:=.exit 0,st:={ env:=[] } }]
def Sl_eqLNodeS_0:SP:={ env:=[(0,.ro false 4),(1,.ro false 4),(5,.int .i64)] }
noncomputable def Ll_eqLNodeS_0 (x0:List AVal) (x1:List AVal) (x2:Int):Option ((Bool) ⊕ (Unit)):=LpV ctx fn26 0 0 Xl_eqLNodeS_0 Sl_eqLNodeS_0 (x0,x1,x2)
def lsl_eqLNodeS:List LSig:=[{ h:=0,X:=Xl_eqLNodeS_0,Ss:=[Sl_eqLNodeS_0] }]
noncomputable def Fl_szLNode (x0:Int) (x1:ByteArray) (x2:Int) (x3:List AVal) (x4:Int):Option (Int):=FnV ctx 66 sgl_szLNode (x0,x1,x2,x3,x4)
def lsl_szLNode:List LSig:=[]
noncomputable def Fl_toLNode (x0:Int) (x1:ByteArray) (x2:Int) (x3:List AVal):Option (Int×ByteArray×Int×List AVal):=FnV ctx 70 sgl_toLNode (x0,x1,x2,x3)
def lsl_toLNode:List LSig:=[]
noncomputable def Fs_LayoutOK (x0:List AVal):Option (Bool):=FnV ctx 67 sgs_LayoutOK x0
def Xs_LayoutOK_0:List Ex:=[{ out:=.ret,st:={ env:=[(2,.bool)] } },{ out:=.exit 0,st:={ env:=[(0,.ro false 4),(3,.ref 3 [])],objs:=[(3,false,.own 1)] } }]
def Ss_LayoutOK_0:SP:={ env:=[(0,.ro false 4),(3,.ref 3 []),(4,.int .i64)],objs:=[(3,false,.own 1)] }
noncomputable def Ls_LayoutOK_0 (x0:List AVal) (x1:Int) (x2:List AVal):Option ((Bool) ⊕ (List AVal×List AVal)):=LpV ctx fn67 0 0 Xs_LayoutOK_0 Ss_LayoutOK_0 (x0,x1,x2)
def Xs_LayoutOK_1:List Ex:=[{ out:=.ret,st:={ env:=[(2,.bool)] } },{ out:=.exit 3,st:={ env:=[(0,.ro false 4),(3,.ref 3 []),(4,.int .i64)],objs:=[(3,false,.own 1)] } }]
def Ss_LayoutOK_1:SP:={ env:=[(0,.ro false 4),(3,.ref 3 []),(4,.int .i64),(5,.ptr 5 [] none),(6,.int .i64),(7,.int .i64)],objs:=[(3,false,.own 1),(5,true,.agg [.int .i64,.str,.int .i64,.ro false 1])] }
noncomputable def Ls_LayoutOK_1 (x0:List AVal) (x1:Int) (x2:Int) (x3:Int) (x4:List AVal) (x5:Int) (x6:ByteArray) (x7:Int) (x8:List AVal):Option ((Bool) ⊕ (List AVal×Int×List AVal)):=LpV ctx fn67 0 1 Xs_LayoutOK_1 Ss_LayoutOK_1 (x0,x1,x2,x3,x4,x5,x6,x7,x8)
def Xs_LayoutOK_2:List Ex:=[{ out:=.ret,st:={ env:=[(2,.bool)] } },{ out:=.exit 5,st:={ env:=[] } }]
def Ss_LayoutOK_2:SP:={ env:=[(0,.ro false 4),(3,.ref 3 []),(8,.int .i64)],objs:=[(3,false,.own 1)] }
noncomputable def Ls_LayoutOK_2 (x0:List AVal) (x1:Int) (x2:List AVal):Option ((Bool) ⊕ (Unit)):=LpV ctx fn67 0 2 Xs_LayoutOK_2 Ss_LayoutOK_2 (x0,x1,x2)
def lss_LayoutOK:List LSig:=[{ h:=0,X:=Xs_LayoutOK_0,Ss:=[Ss_LayoutOK_0] },{ h:=1,X:=Xs_LayoutOK_1,Ss:=[Ss_LayoutOK_1] },{ h:=2,X:=Xs_LayoutOK_2,Ss:=[Ss_LayoutOK_2] }]
noncomputable def Fs_l01Between (x0:Int) (x1:Int) (x2:Int):Option (Bool):=FnV ctx 75 sgs_l01Between (x0,x1,x2)
def lss_l01Between:List LSig:=[]
noncomputable def Fs_l14Groups (x0:List AVal):Option (Int):=FnV ctx 68 sgs_l14Groups x0
def Xs_l14Groups_0:List Ex:=[{ out:=.exit 0,st:={ env:=[(3,.int .i64)] } }]
def Ss_l14Groups_0:SP:={ env:=[(0,.ro false 4),(3,.int .i64),(4,.int .i64)] }
noncomputable def Ls_l14Groups_0 (x0:List AVal) (x1:Int) (x2:Int):Option (Int):=LpV ctx fn68 0 0 Xs_l14Groups_0 Ss_l14Groups_0 (x0,x1,x2)
def lss_l14Groups:List LSig:=[{ h:=0,X:=Xs_l14Groups_0,Ss:=[Ss_l14Groups_0] }]
noncomputable def Fs_l14Text (x0:List AVal) (x1:List AVal):Option (ByteArray):=FnV ctx 69 sgs_l14Text (x0,x1)
def lss_l14Text:List LSig:=[]
noncomputable def Fs_l14Cost (x0:ByteArray) (x1:Int):Option (Int×Int):=FnV ctx 76 sgs_l14Cost (x0,x1)
def Xs_l14Cost_0:List Ex:=[{ out:=.exit 0,st:={ env:=[(6,.int .i64),(7,.int .i64)] } }]
def Ss_l14Cost_0:SP:={ env:=[(0,.str),(1,.int .i64),(6,.int .i64),(7,.int .i64),(8,.int .i64),(9,.int .i64)] }
noncomputable def Ls_l14Cost_0 (x0:ByteArray) (x1:Int) (x2:Int) (x3:Int) (x4:Int) (x5:Int):Option (Int×Int):=LpV ctx fn76 0 0 Xs_l14Cost_0 Ss_l14Cost_0 (x0,x1,x2,x3,x4,x5)
def lss_l14Cost:List LSig:=[{ h:=0,X:=Xs_l14Cost_0,Ss:=[Ss_l14Cost_0] }]
noncomputable def Fi_LayoutOK (x0:List AVal):Option (Bool):=FnV ctx 71 sgi_LayoutOK x0
def Xi_LayoutOK_0:List Ex:=[{ out:=.ret,st:={ env:=[(2,.bool)] } },{ out:=.exit 0,st:={ env:=[(0,.ro false 4),(3,.ref 3 [])],objs:=[(3,false,.mp (.int .i64))] } }]
def Si_LayoutOK_0:SP:={ env:=[(0,.ro false 4),(3,.ref 3 []),(20,.int .i64),(21,.int .i64)],objs:=[(3,false,.mp (.int .i64))] }
noncomputable def Li_LayoutOK_0 (x0:List AVal) (x1:Int) (x2:Int) (x3:List AVal):Option ((Bool) ⊕ (List AVal×List AVal)):=LpV ctx fn71 0 0 Xi_LayoutOK_0 Si_LayoutOK_0 (x0,x1,x2,x3)
def lsi_LayoutOK:List LSig:=[{ h:=0,X:=Xi_LayoutOK_0,Ss:=[Si_LayoutOK_0] }]
noncomputable def Fi_groups (x0:List AVal):Option (Int):=FnV ctx 72 sgi_groups x0
def Xi_groups_0:List Ex:=[{ out:=.exit 0,st:={ env:=[(3,.int .i64)] } }]
def Si_groups_0:SP:={ env:=[(3,.int .i64),(6,.ro false 4),(7,.int .i64),(8,.int .i64)] }
noncomputable def Li_groups_0 (x0:Int) (x1:List AVal) (x2:Int) (x3:Int):Option (Int):=LpV ctx fn72 0 0 Xi_groups_0 Si_groups_0 (x0,x1,x2,x3)
def lsi_groups:List LSig:=[{ h:=0,X:=Xi_groups_0,Ss:=[Si_groups_0] }]
noncomputable def Fi_newSetter (x0:List AVal) (x1:List AVal):Option (List AVal×List AVal×List AVal):=FnV ctx 77 sgi_newSetter (x0,x1)
def Xi_newSetter_0:List Ex:=[{ out:=.exit 0,st:={ env:=[(5,.ptr 15 [] none)],objs:=[(15,true,.agg [.ro false 4,.own 1,.ro false 1,.unk,.unk])] } }]
def Si_newSetter_0:SP:={ env:=[(5,.ptr 15 [] none),(6,.int .i64),(16,.ro false 4),(17,.int .i64),(18,.int .i64)],objs:=[(15,true,.agg [.ro false 4,.own 1,.ro false 1,.unk,.unk])] }
noncomputable def Li_newSetter_0 (x0:Int) (x1:List AVal) (x2:Int) (x3:Int) (x4:List AVal) (x5:List AVal) (x6:List AVal):Option (List AVal×List AVal×List AVal):=LpV ctx fn77 0 0 Xi_newSetter_0 Si_newSetter_0 (x0,x1,x2,x3,x4,x5,x6)
def lsi_newSetter:List LSig:=[{ h:=0,X:=Xi_newSetter_0,Ss:=[Si_newSetter_0] }]
noncomputable def Fi_setter_col (x0:Int) (x1:Int) (x2:Bool) (x3:List AVal) (x4:List AVal) (x5:List AVal) (x6:Int) (x7:Int) (x8:Int) (x9:Int):Option (List AVal×List AVal×List AVal×Int×Int×Int×Int):=FnV ctx 80 sgi_setter_col (x0,x1,x2,x3,x4,x5,x6,x7,x8,x9)
def Xi_setter_col_0:List Ex:=[{ out:=.exit 1,st:={ env:=[],objs:=[(2000000,true,.agg [.ro false 4,.ro false 1,.ro false 1,.clo 78 [.ptr 2000001 [] none],.clo 79 [.ptr 2000002 [] none,.ptr 2000001 [] none,.ptr 2000003 [] none,.ptr 2000004 [] none]]),(2000001,true,.int .i64),(2000002,true,.int .i64),(2000003,true,.int .i64),(2000004,true,.int .i64)] } }]
def Si_setter_col_0:SP:={ env:=[(0,.ptr 2000000 [] none),(2,.int .i64),(3,.bool),(21,.ro false 1),(22,.int .i64),(23,.int .i64)],objs:=[(2000000,true,.agg [.ro false 4,.ro false 1,.ro false 1,.clo 78 [.ptr 2000001 [] none],.clo 79 [.ptr 2000002 [] none,.ptr 2000001 [] none,.ptr 2000003 [] none,.ptr 2000004 [] none]]),(2000001,true,.int .i64),(2000002,true,.int .i64),(2000003,true,.int .i64),(2000004,true,.int .i64)] }
noncomputable def Li_setter_col_0 (x0:Int) (x1:Bool) (x2:List AVal) (x3:Int) (x4:Int) (x5:List AVal) (x6:List AVal) (x7:List AVal) (x8:Int) (x9:Int) (x10:Int) (x11:Int):Option (List AVal×List AVal×List AVal×Int×Int×Int×Int):=LpV ctx fn80 5 0 Xi_setter_col_0 Si_setter_col_0 (x0,x1,x2,x3,x4,x5,x6,x7,x8,x9,x10,x11)
def lsi_setter_col:List LSig:=[{ h:=0,X:=Xi_setter_col_0,Ss:=[Si_setter_col_0] }]
noncomputable def Fi_setText (x0:List AVal) (x1:List AVal):Option (ByteArray):=FnV ctx 73 sgi_setText (x0,x1)
def lsi_setText:List LSig:=[]
noncomputable def Fl_eqLNode (x0:Int) (x1:ByteArray) (x2:Int) (x3:List AVal) (x4:Int) (x5:ByteArray) (x6:Int) (x7:List AVal):Option (Bool):=FnV ctx 74 sgl_eqLNode (x0,x1,x2,x3,x4,x5,x6,x7)
def lsl_eqLNode:List LSig:=[]
noncomputable def Fl_szIntS (x0:List AVal) (x1:Int):Option (Int):=FnV ctx 135 sgl_szIntS (x0,x1)
def lsl_szIntS:List LSig:=[]
noncomputable def Fl_toIntS (x0:List AVal):Option (List AVal):=FnV ctx 38 sgl_toIntS x0
def Xl_toIntS_0:List Ex:=[{ out:=.exit 0,st:={ env:=[(3,.ref 3 [])],objs:=[(3,false,.own 1)] } }]
def Sl_toIntS_0:SP:={ env:=[(0,.ro false 1),(3,.ref 3 []),(4,.int .i64)],objs:=[(3,false,.own 1)] }
noncomputable def Ll_toIntS_0 (x0:List AVal) (x1:Int) (x2:List AVal):Option (List AVal):=LpV ctx fn38 0 0 Xl_toIntS_0 Sl_toIntS_0 (x0,x1,x2)
def lsl_toIntS:List LSig:=[{ h:=0,X:=Xl_toIntS_0,Ss:=[Sl_toIntS_0] }]
noncomputable def Fs_l02In (x0:ByteArray) (x1:Int):Option (Bool):=FnV ctx 136 sgs_l02In (x0,x1)
def Xs_l02In_0:List Ex:=[{ out:=.ret,st:={ env:=[(4,.bool)] } },{ out:=.exit 0,st:={ env:=[] } }]
def Ss_l02In_0:SP:={ env:=[(0,.str),(1,.int .u8),(5,.int .i64)] }
noncomputable def Ls_l02In_0 (x0:ByteArray) (x1:Int) (x2:Int):Option ((Bool) ⊕ (Unit)):=LpV ctx fn136 0 0 Xs_l02In_0 Ss_l02In_0 (x0,x1,x2)
def lss_l02In:List LSig:=[{ h:=0,X:=Xs_l02In_0,Ss:=[Ss_l02In_0] }]
noncomputable def Fs_l14Set_node (x0:Int) (x1:Int) (x2:Bool) (x3:List AVal) (x4:List AVal) (x5:List AVal):Option (List AVal×List AVal×List AVal):=FnV ctx 137 sgs_l14Set_node (x0,x1,x2,x3,x4,x5)
def Xs_l14Set_node_0:List Ex:=[{ out:=.exit 1,st:={ env:=[],objs:=[(2000000,true,.agg [.ro false 4,.ro false 1,.own 1])] } }]
def Ss_l14Set_node_0:SP:={ env:=[(0,.ptr 2000000 [] none),(2,.int .i64),(3,.bool),(8,.ptr 8 [] none),(9,.int .i64)],objs:=[(2000000,true,.agg [.ro false 4,.ro false 1,.own 1]),(8,true,.agg [.int .i64,.str,.int .i64,.ro false 1])] }
noncomputable def Ls_l14Set_node_0 (x0:Int) (x1:Bool) (x2:Int) (x3:List AVal) (x4:List AVal) (x5:List AVal) (x6:Int) (x7:ByteArray) (x8:Int) (x9:List AVal):Option (List AVal×List AVal×List AVal):=LpV ctx fn137 1 0 Xs_l14Set_node_0 Ss_l14Set_node_0 (x0,x1,x2,x3,x4,x5,x6,x7,x8,x9)
def lss_l14Set_node:List LSig:=[{ h:=0,X:=Xs_l14Set_node_0,Ss:=[Ss_l14Set_node_0] }]
noncomputable def Fi_layoutNode (x0:List AVal) (x1:Int) (x2:List AVal):Option (Bool×List AVal):=FnV ctx 138 sgi_layoutNode (x0,x1,x2)
def Xi_layoutNode_0:List Ex:=[{ out:=.ret,st:={ env:=[(6,.bool)],objs:=[(2000000,false,.mp (.int .i64))] } },{ out:=.exit 1,st:={ env:=[],objs:=[(2000000,false,.mp (.int .i64))] } }]
def Si_layoutNode_0:SP:={ env:=[(1,.int .i64),(2,.ref 2000000 []),(106,.ro false 1),(107,.int .i64),(108,.int .i64)],objs:=[(2000000,false,.mp (.int .i64))] }
noncomputable def Li_layoutNode_0 (x0:Int) (x1:List AVal) (x2:Int) (x3:Int) (x4:List AVal):Option ((Bool×List AVal) ⊕ (List AVal)):=LpV ctx fn138 1 0 Xi_layoutNode_0 Si_layoutNode_0 (x0,x1,x2,x3,x4)
def lsi_layoutNode:List LSig:=[{ h:=0,X:=Xi_layoutNode_0,Ss:=[Si_layoutNode_0] }]
noncomputable def Fi_Layout_1 (x0:ByteArray) (x1:Int):Option (Int):=FnV ctx 78 sgi_Layout_1 (x0,x1)
def lsi_Layout_1:List LSig:=[]
noncomputable def Fi_Layout_2 (x0:Int) (x1:Int) (x2:Int) (x3:Int) (x4:Int):Option (Int×Int×Int×Int):=FnV ctx 79 sgi_Layout_2 (x0,x1,x2,x3,x4)
def lsi_Layout_2:List LSig:=[]
noncomputable def Fi_setter_set (x0:Int) (x1:Int) (x2:Bool) (x3:List AVal) (x4:List AVal) (x5:List AVal) (x6:List AVal):Option (List AVal×List AVal×List AVal×List AVal):=FnV ctx 80 sgi_setter_set (x0,x1,x2,x3,x4,x5,x6)
def Xi_setter_set_0:List Ex:=[{ out:=.exit 1,st:={ env:=[],objs:=[(2000000,true,.agg [.ro false 4,.ro false 1,.ro false 1,.clo 139 [.ref 2000001 []],.clo 141 [.ref 2000001 []]]),(2000001,false,.mp .oth)] } }]
def Si_setter_set_0:SP:={ env:=[(0,.ptr 2000000 [] none),(2,.int .i64),(3,.bool),(21,.ro false 1),(22,.int .i64),(23,.int .i64)],objs:=[(2000000,true,.agg [.ro false 4,.ro false 1,.ro false 1,.clo 139 [.ref 2000001 []],.clo 141 [.ref 2000001 []]]),(2000001,false,.mp .oth)] }
noncomputable def Li_setter_set_0 (x0:Int) (x1:Bool) (x2:List AVal) (x3:Int) (x4:Int) (x5:List AVal) (x6:List AVal) (x7:List AVal) (x8:List AVal):Option (List AVal×List AVal×List AVal×List AVal):=LpV ctx fn80 2 0 Xi_setter_set_0 Si_setter_set_0 (x0,x1,x2,x3,x4,x5,x6,x7,x8)
def lsi_setter_set:List LSig:=[{ h:=0,X:=Xi_setter_set_0,Ss:=[Si_setter_set_0] }]
noncomputable def Fstrings_Builder_String (x0:List AVal):Option (ByteArray):=FnV ctx 143 sgstrings_Builder_String x0
def lsstrings_Builder_String:List LSig:=[]
noncomputable def Fl_eqIntS (x0:List AVal) (x1:List AVal):Option (Bool):=FnV ctx 40 sgl_eqIntS (x0,x1)
def Xl_eqIntS_0:List Ex:=[{ out:=.ret,st:={ env:=[(4,.bool)] } },{ out:=.exit 0,st:={ env:=[] } }]
def Sl_eqIntS_0:SP:={ env:=[(0,.ro false 1),(1,.ro false 1),(5,.int .i64)] }
noncomputable def Ll_eqIntS_0 (x0:List AVal) (x1:List AVal) (x2:Int):Option ((Bool) ⊕ (Unit)):=LpV ctx fn40 0 0 Xl_eqIntS_0 Sl_eqIntS_0 (x0,x1,x2)
def lsl_eqIntS:List LSig:=[{ h:=0,X:=Xl_eqIntS_0,Ss:=[Sl_eqIntS_0] }]
noncomputable def Fs_l14Set_feed (x0:Int) (x1:List AVal) (x2:List AVal) (x3:List AVal):Option (List AVal×List AVal×List AVal):=FnV ctx 185 sgs_l14Set_feed (x0,x1,x2,x3)
def Xs_l14Set_feed_0:List Ex:=[{ out:=.exit 0,st:={ env:=[],objs:=[(2000000,true,.agg [.ro false 4,.ro false 1,.own 1])] } }]
def Ss_l14Set_feed_0:SP:={ env:=[(0,.ptr 2000000 [] none),(1,.int .i64),(4,.int .i64)],objs:=[(2000000,true,.agg [.ro false 4,.ro false 1,.own 1])] }
noncomputable def Ls_l14Set_feed_0 (x0:Int) (x1:Int) (x2:List AVal) (x3:List AVal) (x4:List AVal):Option (List AVal×List AVal×List AVal):=LpV ctx fn185 1 0 Xs_l14Set_feed_0 Ss_l14Set_feed_0 (x0,x1,x2,x3,x4)
def lss_l14Set_feed:List LSig:=[{ h:=0,X:=Xs_l14Set_feed_0,Ss:=[Ss_l14Set_feed_0] }]
noncomputable def Fs_l14Set_group (x0:AVal) (x1:Int):Option (Int):=FnV ctx 186 sgs_l14Set_group (x0,x1)
def lss_l14Set_group:List LSig:=[]
noncomputable def Fstrings_Contains (x0:ByteArray) (x1:ByteArray):Option (Bool):=FnV ctx 187 sgstrings_Contains (x0,x1)
def lsstrings_Contains:List LSig:=[]
noncomputable def Fi_setText_1 (x0:ByteArray) (x1:List AVal):Option (List AVal):=FnV ctx 139 sgi_setText_1 (x0,x1)
def lsi_setText_1:List LSig:=[]
noncomputable def Fi_setText_2 (x0:Int) (x1:List AVal):Option (List AVal):=FnV ctx 141 sgi_setText_2 (x0,x1)
def lsi_setText_2:List LSig:=[]
noncomputable def Fstrings_Index (x0:ByteArray) (x1:ByteArray):Option (Int):=FnV ctx 210 sgstrings_Index (x0,x1)
def lsstrings_Index:List LSig:=[]
noncomputable def Fstrings_Builder_WriteString (x0:ByteArray) (x1:List AVal):Option (Int×List AVal):=FnV ctx 140 sgstrings_Builder_WriteString (x0,x1)
def lsstrings_Builder_WriteString:List LSig:=[]
noncomputable def Fstrings_Repeat (x0:ByteArray) (x1:Int):Option (ByteArray):=FnV ctx 142 sgstrings_Repeat (x0,x1)
def lsstrings_Repeat:List LSig:=[]
noncomputable def Finternal_stringslite_Index (x0:ByteArray) (x1:ByteArray):Option (Int):=FnV ctx 221 sginternal_stringslite_Index (x0,x1)
def lsinternal_stringslite_Index:List LSig:=[]
noncomputable def Finternal_stringslite_IndexByte (x0:ByteArray) (x1:Int):Option (Int):=FnV ctx 225 sginternal_stringslite_IndexByte (x0,x1)
def lsinternal_stringslite_IndexByte:List LSig:=[]
end Go.Proofs.Ytnbpmjfemeeecaa
