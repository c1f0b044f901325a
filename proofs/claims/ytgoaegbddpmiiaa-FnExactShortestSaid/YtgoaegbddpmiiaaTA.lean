/- What the functions of the laws are given and give back, and their names on values; no condition. -/
import Derived.Test.YtgoaegbddpmiiaaVmd
import Derived.Test.YtgoaegbddpmiiaaVC
import Derived.Tactics
namespace Go.Proofs.Ytgoaegbddpmiiaa
open Go.VK AVal
abbrev ty_func:Nat:=1
abbrev ty_int64:Nat:=2
abbrev ty_int:Nat:=3
abbrev ty_bool:Nat:=4
abbrev ty_uint8:Nat:=5
abbrev ty_abi_BoundsErrorCode:Nat:=6
abbrev ty_runtime_boundsError:Nat:=8
abbrev ty_string:Nat:=9
abbrev ty_runtime_errorString:Nat:=10
abbrev ty_runtime_plainError:Nat:=11
abbrev ty_uintptr:Nat:=12
abbrev ty_runtime_errorAddressString:Nat:=14
abbrev ty_P_runtime_TypeAssertionError:Nat:=15
abbrev ty_P_runtime_PanicNilError:Nat:=16
abbrev ty_P_abi_Type:Nat:=17
abbrev ty_maps_unhashableTypeError:Nat:=19
abbrev ty_int32:Nat:=21
abbrev ty_S_laws_Term:Nat:=22
abbrev ty_S_string:Nat:=23
abbrev ty_S_laws_Prod:Nat:=24
abbrev ty_laws_Bnf:Nat:=26
abbrev ty_func_laws_Bnf_int_int:Nat:=27
abbrev ty_S_int:Nat:=28
abbrev ty_func_S_int_S_int_bool:Nat:=36
abbrev ty_func_S_int_int_int:Nat:=39
abbrev ty_func_laws_Bnf_int_bool:Nat:=40
abbrev ty_S_bool:Nat:=41
abbrev ty_S_S_int:Nat:=42
abbrev ty_func_laws_Bnf_bool:Nat:=49
abbrev ty_func_S_laws_Term_int_int:Nat:=50
abbrev ty_func_S_string_int_int:Nat:=51
abbrev ty_func_S_laws_Prod_int_int:Nat:=52
abbrev ty_func_int_int_int_bool:Nat:=54
abbrev ty_func_S_int_S_int_int:Nat:=60
abbrev ty_func_S_string_S_string:Nat:=62
abbrev ty_S_S_bool:Nat:=66
abbrev ty_func_func_bool:Nat:=69
abbrev ty_func_int_int:Nat:=70
abbrev ty_func_bool:Nat:=71
abbrev ty_func_S_string_S_string_bool:Nat:=73
abbrev ty_func_int_func_int_S_int_S_S_bool:Nat:=81
abbrev ty_func_int_S_int:Nat:=82
abbrev ty_func_S_S_bool:Nat:=83
abbrev ty_func_S_bool_S_int:Nat:=84
abbrev ty_func_S_bool_S_bool_bool:Nat:=85
abbrev ty_func_S_S_int_S_S_int_bool:Nat:=86
abbrev ty_func_S_bool_int_int:Nat:=87
abbrev ty_func_S_S_int_int_int:Nat:=88
abbrev ty_func_laws_Term_int_int:Nat:=89
abbrev ty_laws_Term:Nat:=91
abbrev ty_func_laws_Prod_int_int:Nat:=92
abbrev ty_laws_Prod:Nat:=93
abbrev ty_func_int_int_bool:Nat:=94
abbrev ty_func_S_string_string_int:Nat:=96
abbrev ty_func_string_bool:Nat:=97
abbrev ty_map_string_int:Nat:=101
abbrev ty_func_S_int_S_bool:Nat:=102
abbrev ty_func_int_int_int:Nat:=103
abbrev ty_func_int_string:Nat:=106
abbrev ty_func_S_int_S_int_S_int_bool:Nat:=109
abbrev ty_func_S_int_bool:Nat:=110
abbrev ty_func_uint8_bool:Nat:=111
abbrev ty_func_S_int_S_int:Nat:=112
abbrev ty_func_int_bool:Nat:=113
abbrev ty_S_uint8:Nat:=114
abbrev ty_func_S_int_int_S_int_bool:Nat:=115
abbrev ty_func_string:Nat:=116
abbrev ty_runtime_TypeAssertionError:Nat:=118
abbrev ty_func_int:Nat:=122
abbrev ty_uint32:Nat:=123
abbrev ty_abi_TFlag:Nat:=124
abbrev ty_abi_Kind:Nat:=125
abbrev ty_func_unsafe_Pointer_unsafe_Pointer_bool:Nat:=126
abbrev ty_P_uint8:Nat:=127
abbrev ty_abi_NameOff:Nat:=128
abbrev ty_abi_TypeOff:Nat:=129
abbrev ty_abi_Type:Nat:=131
abbrev n_l_FnExactShortest:Nat:=3
abbrev n_l_FnExactFactsOf:Nat:=4
def sgl_FnExactShortest:Sig:={ i:={ vs:=[.agg [.ro false 3,.ro false 1,.int .i64,.ro false 5],.int .i64] },o:={ vs:=[.bool] } }
def sgl_szBnf:Sig:={ i:={ vs:=[.agg [.ro false 3,.ro false 1,.int .i64,.ro false 5],.int .i64] },o:={ vs:=[.int .i64] } }
def sgl_toBnf:Sig:={ i:={ vs:=[.agg [.ro false 3,.ro false 1,.int .i64,.ro false 5]] },o:={ vs:=[.agg [.own 3,.own 1,.int .i64,.own 5]] } }
def sgs_Shortest:Sig:={ i:={ vs:=[.agg [.ro false 3,.ro false 1,.int .i64,.ro false 5],.int .i64] },o:={ vs:=[.ro false 1,.int .i64] } }
def sgi_Shortest:Sig:={ i:={ vs:=[.agg [.ro false 3,.ro false 1,.int .i64,.ro false 5],.int .i64] },o:={ vs:=[.own 1,.int .i64] } }
def sgl_eqIntS:Sig:={ i:={ vs:=[.ro false 1,.ro false 1] },o:={ vs:=[.bool] } }
def sgl_eqBnf:Sig:={ i:={ vs:=[.agg [.ro false 3,.ro false 1,.int .i64,.ro false 5],.agg [.ro false 3,.ro false 1,.int .i64,.ro false 5]] },o:={ vs:=[.bool] } }
def sgl_markBnf:Sig:={ i:={ vs:=[.agg [.ref 0 [],.ref 1 [],.int .i64,.ref 2 []],.int .i64],os:=[(false,.own 3),(false,.own 1),(false,.own 5)] },o:={ vs:=[.int .i64],os:=[(false,.own 3),(false,.own 1),(false,.own 5)] } }
def sgl_markIntS:Sig:={ i:={ vs:=[.ref 0 [],.int .i64],os:=[(false,.own 1)] },o:={ vs:=[.int .i64],os:=[(false,.own 1)] } }
def sgl_heldIntS:Sig:={ i:={ vs:=[.ro false 1,.int .i64] },o:={ vs:=[.int .i64] } }
def sgl_szTermS:Sig:={ i:={ vs:=[.ro false 3,.int .i64] },o:={ vs:=[.int .i64] } }
def sgl_szStringS:Sig:={ i:={ vs:=[.ro false 1,.int .i64] },o:={ vs:=[.int .i64] } }
def sgl_szProdS:Sig:={ i:={ vs:=[.ro false 5,.int .i64] },o:={ vs:=[.int .i64] } }
def sgl_toTermS:Sig:={ i:={ vs:=[.ro false 3] },o:={ vs:=[.own 3] } }
def sgl_toStringS:Sig:={ i:={ vs:=[.ro false 1] },o:={ vs:=[.own 1] } }
def sgl_toProdS:Sig:={ i:={ vs:=[.ro false 5] },o:={ vs:=[.own 5] } }
def sgs_BnfOK:Sig:={ i:={ vs:=[.agg [.ro false 3,.ro false 1,.int .i64,.ro false 5]] },o:={ vs:=[.bool] } }
def sgs_l01Between:Sig:={ i:={ vs:=[.int .i64,.int .i64,.int .i64] },o:={ vs:=[.bool] } }
def sgs_l04Least:Sig:={ i:={ vs:=[.agg [.ro false 3,.ro false 1,.int .i64,.ro false 5]] },o:={ vs:=[.ro false 1] } }
def sgs_l04Non:Sig:={ i:={ vs:=[.agg [.ro false 3,.ro false 1,.int .i64,.ro false 5],.int .i64] },o:={ vs:=[.int .i64] } }
def sgs_l04Spell:Sig:={ i:={ vs:=[.agg [.ro false 3,.ro false 1,.int .i64,.ro false 5],.ro false 1,.ro false 1,.ro false 1,.ro false 1,.int .i64] },o:={ vs:=[.own 1,.bool] } }
def sgs_l04Cmp:Sig:={ i:={ vs:=[.ro false 1,.ro false 1] },o:={ vs:=[.int .i64] } }
def sgi_BnfOK:Sig:={ i:={ vs:=[.agg [.ro false 3,.ro false 1,.int .i64,.ro false 5]] },o:={ vs:=[.bool] } }
def sgi_factsOf:Sig:={ i:={ vs:=[.agg [.ro false 3,.ro false 1,.int .i64,.ro false 5]] },o:={ vs:=[.tup [.agg [.ro false 3,.ro false 1,.int .i64,.ro false 5,.int .i64,.int .i64,.own 1,.own 1,.own 1,.own 1,.own 1]]] } }
def sgi_around_w:Sig:={ i:={ vs:=[.clo 34 [.ptr 0 [] none,.ptr 1 [] none,.ptr 2 [] none,.ptr 3 [] none]],os:=[(true,.agg [.ro false 3,.ro false 1,.int .i64,.ro false 5]),(true,.ptr 2000004 [] none),(true,.own 1),(true,.own 1),(true,.agg [.ro false 3,.ro false 1,.int .i64,.ro false 5,.int .i64,.int .i64,.own 1,.own 1,.own 1,.own 1,.own 1])] },o:={ vs:=[],os:=[(true,.agg [.ro false 3,.ro false 1,.int .i64,.ro false 5]),(true,.ptr 2000004 [] none),(true,.own 1),(true,.own 1),(true,.agg [.ro false 3,.ro false 1,.int .i64,.ro false 5,.int .i64,.int .i64,.own 1,.own 1,.own 1,.own 1,.own 1])] } }
def sgl_eqTermS:Sig:={ i:={ vs:=[.ro false 3,.ro false 3] },o:={ vs:=[.bool] } }
def sgl_eqStringS:Sig:={ i:={ vs:=[.ro false 1,.ro false 1] },o:={ vs:=[.bool] } }
def sgl_eqProdS:Sig:={ i:={ vs:=[.ro false 5,.ro false 5] },o:={ vs:=[.bool] } }
def sgl_markTermS:Sig:={ i:={ vs:=[.ref 0 [],.int .i64],os:=[(false,.own 3)] },o:={ vs:=[.int .i64],os:=[(false,.own 3)] } }
def sgl_markStringS:Sig:={ i:={ vs:=[.ref 0 [],.int .i64],os:=[(false,.own 1)] },o:={ vs:=[.int .i64],os:=[(false,.own 1)] } }
def sgl_markProdS:Sig:={ i:={ vs:=[.ref 0 [],.int .i64],os:=[(false,.own 5)] },o:={ vs:=[.int .i64],os:=[(false,.own 5)] } }
def sgl_szTerm:Sig:={ i:={ vs:=[.agg [.str,.int .i64,.int .i64],.int .i64] },o:={ vs:=[.int .i64] } }
def sgl_szProd:Sig:={ i:={ vs:=[.agg [.int .i64,.ro false 1,.str,.int .i64,.int .i64],.int .i64] },o:={ vs:=[.int .i64] } }
def sgl_toTerm:Sig:={ i:={ vs:=[.agg [.str,.int .i64,.int .i64]] },o:={ vs:=[.agg [.str,.int .i64,.int .i64]] } }
def sgl_toProd:Sig:={ i:={ vs:=[.agg [.int .i64,.ro false 1,.str,.int .i64,.int .i64]] },o:={ vs:=[.agg [.int .i64,.own 1,.str,.int .i64,.int .i64]] } }
def sgs_l04Strength:Sig:={ i:={ vs:=[.int .i64,.int .i64] },o:={ vs:=[.bool] } }
def sgs_l03At:Sig:={ i:={ vs:=[.ro false 1,.str] },o:={ vs:=[.int .i64] } }
def sgs_l01Name:Sig:={ i:={ vs:=[.str] },o:={ vs:=[.bool] } }
def sgs_l04Sum:Sig:={ i:={ vs:=[.agg [.ro false 3,.ro false 1,.int .i64,.ro false 5],.ro false 1,.ro false 1] },o:={ vs:=[.int .i64] } }
def sgi_levelOK:Sig:={ i:={ vs:=[.int .i64,.int .i64] },o:={ vs:=[.bool] } }
def sgi_nameOK:Sig:={ i:={ vs:=[.str] },o:={ vs:=[.bool] } }
def sgi_around:Sig:={ i:={ vs:=[.clo 68 [.ptr 0 [] none,.ptr 1 [] none]],os:=[(true,.agg [.ro false 3,.ro false 1,.int .i64,.ro false 5]),(true,.ptr 2000002 [] none),(true,.agg [.ro false 3,.ro false 1,.int .i64,.ro false 5,.int .i64,.int .i64,.own 1,.own 1,.own 1,.own 1,.own 1])] },o:={ vs:=[],os:=[(true,.agg [.ro false 3,.ro false 1,.int .i64,.ro false 5]),(true,.ptr 2000002 [] none),(true,.agg [.ro false 3,.ro false 1,.int .i64,.ro false 5,.int .i64,.int .i64,.own 1,.own 1,.own 1,.own 1,.own 1])] } }
def sgi_around_v1:Sig:={ i:={ vs:=[.clo 69 [.ptr 0 [] none,.ptr 1 [] none]],os:=[(true,.agg [.ro false 3,.ro false 1,.int .i64,.ro false 5]),(true,.ptr 2000002 [] none),(true,.agg [.ro false 3,.ro false 1,.int .i64,.ro false 5,.int .i64,.int .i64,.own 1,.own 1,.own 1,.own 1,.own 1])] },o:={ vs:=[],os:=[(true,.agg [.ro false 3,.ro false 1,.int .i64,.ro false 5]),(true,.ptr 2000002 [] none),(true,.agg [.ro false 3,.ro false 1,.int .i64,.ro false 5,.int .i64,.int .i64,.own 1,.own 1,.own 1,.own 1,.own 1])] } }
def sgi_Shortest_1:Sig:={ i:={ vs:=[.ptr 0 [] none,.ptr 1 [] none,.ptr 2 [] none,.ptr 3 [] none],os:=[(true,.agg [.ro false 3,.ro false 1,.int .i64,.ro false 5]),(true,.ptr 2000004 [] none),(true,.own 1),(true,.own 1),(true,.agg [.ro false 3,.ro false 1,.int .i64,.ro false 5,.int .i64,.int .i64,.own 1,.own 1,.own 1,.own 1,.own 1])] },o:={ vs:=[.bool],os:=[(true,.agg [.ro false 3,.ro false 1,.int .i64,.ro false 5]),(true,.ptr 2000004 [] none),(true,.own 1),(true,.own 1),(true,.agg [.ro false 3,.ro false 1,.int .i64,.ro false 5,.int .i64,.int .i64,.own 1,.own 1,.own 1,.own 1,.own 1])] } }
def sgl_eqTerm:Sig:={ i:={ vs:=[.agg [.str,.int .i64,.int .i64],.agg [.str,.int .i64,.int .i64]] },o:={ vs:=[.bool] } }
def sgl_eqProd:Sig:={ i:={ vs:=[.agg [.int .i64,.ro false 1,.str,.int .i64,.int .i64],.agg [.int .i64,.ro false 1,.str,.int .i64,.int .i64]] },o:={ vs:=[.bool] } }
def sgl_markText:Sig:={ i:={ vs:=[.int .i64] },o:={ vs:=[.str] } }
def sgl_szIntS:Sig:={ i:={ vs:=[.ro false 1,.int .i64] },o:={ vs:=[.int .i64] } }
def sgl_toIntS:Sig:={ i:={ vs:=[.ro false 1] },o:={ vs:=[.own 1] } }
def sgs_l01Letter:Sig:={ i:={ vs:=[.int .u8] },o:={ vs:=[.bool] } }
def sgs_l01NameByte:Sig:={ i:={ vs:=[.int .u8] },o:={ vs:=[.bool] } }
def sgi_isLetter:Sig:={ i:={ vs:=[.int .u8] },o:={ vs:=[.bool] } }
def sgi_inName:Sig:={ i:={ vs:=[.int .u8] },o:={ vs:=[.bool] } }
def sgi_factsOf_1:Sig:={ i:={ vs:=[.ptr 0 [] none,.ptr 1 [] none],os:=[(true,.agg [.ro false 3,.ro false 1,.int .i64,.ro false 5]),(true,.ptr 2000002 [] none),(true,.agg [.ro false 3,.ro false 1,.int .i64,.ro false 5,.int .i64,.int .i64,.own 1,.own 1,.own 1,.own 1,.own 1])] },o:={ vs:=[.bool],os:=[(true,.agg [.ro false 3,.ro false 1,.int .i64,.ro false 5]),(true,.ptr 2000002 [] none),(true,.agg [.ro false 3,.ro false 1,.int .i64,.ro false 5,.int .i64,.int .i64,.own 1,.own 1,.own 1,.own 1,.own 1])] } }
def sgi_factsOf_2:Sig:={ i:={ vs:=[.ptr 0 [] none,.ptr 1 [] none],os:=[(true,.agg [.ro false 3,.ro false 1,.int .i64,.ro false 5]),(true,.ptr 2000002 [] none),(true,.agg [.ro false 3,.ro false 1,.int .i64,.ro false 5,.int .i64,.int .i64,.own 1,.own 1,.own 1,.own 1,.own 1])] },o:={ vs:=[.bool],os:=[(true,.agg [.ro false 3,.ro false 1,.int .i64,.ro false 5]),(true,.ptr 2000002 [] none),(true,.agg [.ro false 3,.ro false 1,.int .i64,.ro false 5,.int .i64,.int .i64,.own 1,.own 1,.own 1,.own 1,.own 1])] } }
def sgi_facts_length:Sig:={ i:={ vs:=[.rop none,.int .i64] },o:={ vs:=[.int .i64] } }
def sgslices_Compare_int_int:Sig:={ i:={ vs:=[.ro false 1,.ro false 1] },o:={ vs:=[.int .i64] } }
def sgs_l01Digit:Sig:={ i:={ vs:=[.int .u8] },o:={ vs:=[.bool] } }
def sgi_isDigit:Sig:={ i:={ vs:=[.int .u8] },o:={ vs:=[.bool] } }
def sgi_facts_firstOf:Sig:={ i:={ vs:=[.rop none,.ro false 1] },o:={ vs:=[.own 1] } }
def sgi_merge:Sig:={ i:={ vs:=[.ref 0 [],.ro false 1],os:=[(false,.own 1)] },o:={ vs:=[.bool],os:=[(false,.own 1)] } }
def sgcmp_Compare_int:Sig:={ i:={ vs:=[.int .i64,.int .i64] },o:={ vs:=[.int .i64] } }
def sgcmp_isNaN_int:Sig:={ i:={ vs:=[.int .i64] },o:={ vs:=[.bool] } }
def sigs:List (Nat×Sig):=[(3,sgl_FnExactShortest),(5,sgl_szBnf),(7,sgl_toBnf),(6,sgs_Shortest),(8,sgi_Shortest),(9,sgl_eqIntS),(10,sgl_eqBnf),(11,sgl_markBnf),(12,sgl_markIntS),(13,sgl_heldIntS),(19,sgl_szTermS),(20,sgl_szStringS),(21,sgl_szProdS),(28,sgl_toTermS),(29,sgl_toStringS),(30,sgl_toProdS),(22,sgs_BnfOK),(23,sgs_l01Between),(24,sgs_l04Least),(25,sgs_l04Non),(26,sgs_l04Spell),(27,sgs_l04Cmp),(31,sgi_BnfOK),(32,sgi_factsOf),(33,sgi_around_w),(37,sgl_eqTermS),(38,sgl_eqStringS),(39,sgl_eqProdS),(40,sgl_markTermS),(41,sgl_markStringS),(42,sgl_markProdS),(58,sgl_szTerm),(59,sgl_szProd),(64,sgl_toTerm),(65,sgl_toProd),(60,sgs_l04Strength),(61,sgs_l03At),(62,sgs_l01Name),(63,sgs_l04Sum),(66,sgi_levelOK),(67,sgi_nameOK),(33,sgi_around),(33,sgi_around_v1),(34,sgi_Shortest_1),(73,sgl_eqTerm),(74,sgl_eqProd),(75,sgl_markText),(81,sgl_szIntS),(84,sgl_toIntS),(82,sgs_l01Letter),(83,sgs_l01NameByte),(85,sgi_isLetter),(86,sgi_inName),(68,sgi_factsOf_1),(69,sgi_factsOf_2),(35,sgi_facts_length),(36,sgslices_Compare_int_int),(90,sgs_l01Digit),(91,sgi_isDigit),(71,sgi_facts_firstOf),(70,sgi_merge),(72,sgcmp_Compare_int),(87,sgcmp_isNaN_int)]
noncomputable def Fl_FnExactShortest (x0:List AVal) (x1:List AVal) (x2:Int) (x3:List AVal) (x4:Int):Option (Bool):=FnV ctx 3 sgl_FnExactShortest (x0,x1,x2,x3,x4)
def lsl_FnExactShortest:List LSig:=[]
noncomputable def Fl_szBnf (x0:List AVal) (x1:List AVal) (x2:Int) (x3:List AVal) (x4:Int):Option (Int):=FnV ctx 5 sgl_szBnf (x0,x1,x2,x3,x4)
def lsl_szBnf:List LSig:=[]
noncomputable def Fl_toBnf (x0:List AVal) (x1:List AVal) (x2:Int) (x3:List AVal):Option (List AVal×List AVal×Int×List AVal):=FnV ctx 7 sgl_toBnf (x0,x1,x2,x3)
def lsl_toBnf:List LSig:=[]
noncomputable def Fs_Shortest (x0:List AVal) (x1:List AVal) (x2:Int) (x3:List AVal) (x4:Int):Option (List AVal×Int):=FnV ctx 6 sgs_Shortest (x0,x1,x2,x3,x4)
def Xs_Shortest_0:List Ex:=[{ out:=.exit 0,st:={ env:=[(1,.int .i64),(7,.ref 7 [])],objs:=[(7,false,.own 1)] } }]
def Ss_Shortest_0:SP:={ env:=[(1,.int .i64),(2,.ptr 2 [] none),(6,.ro false 1),(7,.ref 7 []),(8,.ref 8 []),(9,.bool)],objs:=[(2,true,.agg [.ro false 3,.ro false 1,.int .i64,.ro false 5]),(7,false,.own 1),(8,false,.own 1)] }
noncomputable def Ls_Shortest_0 (x0:Int) (x1:List AVal) (x2:Bool) (x3:List AVal) (x4:List AVal) (x5:Int) (x6:List AVal) (x7:List AVal) (x8:List AVal):Option (Int×List AVal):=LpV ctx fn6 0 0 Xs_Shortest_0 Ss_Shortest_0 (x0,x1,x2,x3,x4,x5,x6,x7,x8)
def Xs_Shortest_1:List Ex:=[{ out:=.exit 2,st:={ env:=[(1,.int .i64),(2,.ptr 2 [] none),(6,.ro false 1),(7,.ref 7 []),(8,.ref 8 []),(9,.bool)],objs:=[(2,true,.agg [.ro false 3,.ro false 1,.int .i64,.ro false 5]),(7,false,.own 1),(8,false,.own 1)] } }]
def Ss_Shortest_1:SP:={ env:=[(1,.int .i64),(2,.ptr 2 [] none),(6,.ro false 1),(7,.ref 7 []),(8,.ref 8 []),(9,.bool),(10,.int .i64)],objs:=[(2,true,.agg [.ro false 3,.ro false 1,.int .i64,.ro false 5]),(7,false,.own 1),(8,false,.own 1)] }
noncomputable def Ls_Shortest_1 (x0:Int) (x1:List AVal) (x2:Bool) (x3:Int) (x4:List AVal) (x5:List AVal) (x6:Int) (x7:List AVal) (x8:List AVal) (x9:List AVal):Option (Int×List AVal×Bool×List AVal×List AVal×Int×List AVal×List AVal×List AVal):=LpV ctx fn6 0 1 Xs_Shortest_1 Ss_Shortest_1 (x0,x1,x2,x3,x4,x5,x6,x7,x8,x9)
def lss_Shortest:List LSig:=[{ h:=0,X:=Xs_Shortest_0,Ss:=[Ss_Shortest_0] },{ h:=1,X:=Xs_Shortest_1,Ss:=[Ss_Shortest_1] }]
noncomputable def Fi_Shortest (x0:List AVal) (x1:List AVal) (x2:Int) (x3:List AVal) (x4:Int):Option (List AVal×Int):=FnV ctx 8 sgi_Shortest (x0,x1,x2,x3,x4)
def lsi_Shortest:List LSig:=[]
noncomputable def Fl_eqIntS (x0:List AVal) (x1:List AVal):Option (Bool):=FnV ctx 9 sgl_eqIntS (x0,x1)
def Xl_eqIntS_0:List Ex:=[{ out:=.ret,st:={ env:=[(4,.bool)] } },{ out:=.exit 0,st:={ env:=[] } }]
def Sl_eqIntS_0:SP:={ env:=[(0,.ro false 1),(1,.ro false 1),(5,.int .i64)] }
noncomputable def Ll_eqIntS_0 (x0:List AVal) (x1:List AVal) (x2:Int):Option ((Bool) ⊕ (Unit)):=LpV ctx fn9 0 0 Xl_eqIntS_0 Sl_eqIntS_0 (x0,x1,x2)
def lsl_eqIntS:List LSig:=[{ h:=0,X:=Xl_eqIntS_0,Ss:=[Sl_eqIntS_0] }]
noncomputable def Fl_eqBnf (x0:List AVal) (x1:List AVal) (x2:Int) (x3:List AVal) (x4:List AVal) (x5:List AVal) (x6:Int) (x7:List AVal):Option (Bool):=FnV ctx 10 sgl_eqBnf (x0,x1,x2,x3,x4,x5,x6,x7)
def lsl_eqBnf:List LSig:=[]
noncomputable def Fl_markBnf (x0:Int) (x1:Int) (x2:List AVal) (x3:List AVal) (x4:List AVal):Option (Int×List AVal×List AVal×List AVal):=FnV ctx 11 sgl_markBnf (x0,x1,x2,x3,x4)
def lsl_markBnf:List LSig:=[]
noncomputable def Fl_markIntS (x0:Int) (x1:List AVal):Option (Int×List AVal):=FnV ctx 12 sgl_markIntS (x0,x1)
def Xl_markIntS_0:List Ex:=[{ out:=.exit 0,st:={ env:=[(1,.int .i64)],objs:=[(2000000,false,.own 1)] } }]
def Sl_markIntS_0:SP:={ env:=[(0,.ref 2000000 []),(1,.int .i64),(5,.int .i64)],objs:=[(2000000,false,.own 1)] }
noncomputable def Ll_markIntS_0 (x0:Int) (x1:Int) (x2:List AVal):Option (Int×List AVal):=LpV ctx fn12 1 0 Xl_markIntS_0 Sl_markIntS_0 (x0,x1,x2)
def lsl_markIntS:List LSig:=[{ h:=0,X:=Xl_markIntS_0,Ss:=[Sl_markIntS_0] }]
noncomputable def Fl_heldIntS (x0:List AVal) (x1:Int):Option (Int):=FnV ctx 13 sgl_heldIntS (x0,x1)
def Xl_heldIntS_0:List Ex:=[{ out:=.ret,st:={ env:=[(4,.int .i64)] } },{ out:=.exit 0,st:={ env:=[(1,.int .i64)] } }]
def Sl_heldIntS_0:SP:={ env:=[(0,.ro false 1),(1,.int .i64),(5,.int .i64)] }
noncomputable def Ll_heldIntS_0 (x0:List AVal) (x1:Int) (x2:Int):Option ((Int) ⊕ (Int)):=LpV ctx fn13 0 0 Xl_heldIntS_0 Sl_heldIntS_0 (x0,x1,x2)
def lsl_heldIntS:List LSig:=[{ h:=0,X:=Xl_heldIntS_0,Ss:=[Sl_heldIntS_0] }]
noncomputable def Fl_szTermS (x0:List AVal) (x1:Int):Option (Int):=FnV ctx 19 sgl_szTermS (x0,x1)
def Xl_szTermS_0:List Ex:=[{ out:=.ret,st:={ env:=[(4,.int .i64)] } },{ out:=.exit 0,st:={ env:=[(1,.int .i64)] } }]
def Sl_szTermS_0:SP:={ env:=[(0,.ro false 3),(1,.int .i64),(5,.int .i64)] }
noncomputable def Ll_szTermS_0 (x0:List AVal) (x1:Int) (x2:Int):Option ((Int) ⊕ (Int)):=LpV ctx fn19 0 0 Xl_szTermS_0 Sl_szTermS_0 (x0,x1,x2)
def lsl_szTermS:List LSig:=[{ h:=0,X:=Xl_szTermS_0,Ss:=[Sl_szTermS_0] }]
noncomputable def Fl_szStringS (x0:List AVal) (x1:Int):Option (Int):=FnV ctx 20 sgl_szStringS (x0,x1)
def Xl_szStringS_0:List Ex:=[{ out:=.ret,st:={ env:=[(4,.int .i64)] } },{ out:=.exit 0,st:={ env:=[(1,.int .i64)] } }]
def Sl_szStringS_0:SP:={ env:=[(0,.ro false 1),(1,.int .i64),(5,.int .i64)] }
noncomputable def Ll_szStringS_0 (x0:List AVal) (x1:Int) (x2:Int):Option ((Int) ⊕ (Int)):=LpV ctx fn20 0 0 Xl_szStringS_0 Sl_szStringS_0 (x0,x1,x2)
def lsl_szStringS:List LSig:=[{ h:=0,X:=Xl_szStringS_0,Ss:=[Sl_szStringS_0] }]
noncomputable def Fl_szProdS (x0:List AVal) (x1:Int):Option (Int):=FnV ctx 21 sgl_szProdS (x0,x1)
def Xl_szProdS_0:List Ex:=[{ out:=.ret,st:={ env:=[(4,.int .i64)] } },{ out:=.exit 0,st:={ env:=[(1,.int .i64)] } }]
def Sl_szProdS_0:SP:={ env:=[(0,.ro false 5),(1,.int .i64),(5,.int .i64)] }
noncomputable def Ll_szProdS_0 (x0:List AVal) (x1:Int) (x2:Int):Option ((Int) ⊕ (Int)):=LpV ctx fn21 0 0 Xl_szProdS_0 Sl_szProdS_0 (x0,x1,x2)
def lsl_szProdS:List LSig:=[{ h:=0,X:=Xl_szProdS_0,Ss:=[Sl_szProdS_0] }]
noncomputable def Fl_toTermS (x0:List AVal):Option (List AVal):=FnV ctx 28 sgl_toTermS x0
def Xl_toTermS_0:List Ex:=[{ out:=.exit 0,st:={ env:=[(3,.ref 3 [])],objs:=[(3,false,.own 3)] } }]
def Sl_toTermS_0:SP:={ env:=[(0,.ro false 3),(3,.ref 3 []),(4,.int .i64)],objs:=[(3,false,.own 3)] }
noncomputable def Ll_toTermS_0 (x0:List AVal) (x1:Int) (x2:List AVal):Option (List AVal):=LpV ctx fn28 0 0 Xl_toTermS_0 Sl_toTermS_0 (x0,x1,x2)
def lsl_toTermS:List LSig:=[{ h:=0,X:=Xl_toTermS_0,Ss:=[Sl_toTermS_0] }]
noncomputable def Fl_toStringS (x0:List AVal):Option (List AVal):=FnV ctx 29 sgl_toStringS x0
def Xl_toStringS_0:List Ex:=[{ out:=.exit 0,st:={ env:=[(3,.ref 3 [])],objs:=[(3,false,.own 1)] } }]
def Sl_toStringS_0:SP:={ env:=[(0,.ro false 1),(3,.ref 3 []),(4,.int .i64)],objs:=[(3,false,.own 1)] }
noncomputable def Ll_toStringS_0 (x0:List AVal) (x1:Int) (x2:List AVal):Option (List AVal):=LpV ctx fn29 0 0 Xl_toStringS_0 Sl_toStringS_0 (x0,x1,x2)
def lsl_toStringS:List LSig:=[{ h:=0,X:=Xl_toStringS_0,Ss:=[Sl_toStringS_0] }]
noncomputable def Fl_toProdS (x0:List AVal):Option (List AVal):=FnV ctx 30 sgl_toProdS x0
def Xl_toProdS_0:List Ex:=[{ out:=.exit 0,st:={ env:=[(3,.ref 3 [])],objs:=[(3,false,.own 5)] } }]
def Sl_toProdS_0:SP:={ env:=[(0,.ro false 5),(3,.ref 3 []),(4,.int .i64)],objs:=[(3,false,.own 5)] }
noncomputable def Ll_toProdS_0 (x0:List AVal) (x1:Int) (x2:List AVal):Option (List AVal):=LpV ctx fn30 0 0 Xl_toProdS_0 Sl_toProdS_0 (x0,x1,x2)
def lsl_toProdS:List LSig:=[{ h:=0,X:=Xl_toProdS_0,Ss:=[Sl_toProdS_0] }]
noncomputable def Fs_BnfOK (x0:List AVal) (x1:List AVal) (x2:Int) (x3:List AVal):Option (Bool):=FnV ctx 22 sgs_BnfOK (x0,x1,x2,x3)
def Xs_BnfOK_0:List Ex:=[{ out:=.ret,st:={ env:=[(2,.bool)] } },{ out:=.exit 0,st:={ env:=[(1,.ptr 1 [] none)],objs:=[(1,true,.agg [.ro false 3,.ro false 1,.int .i64,.ro false 5])] } }]
def Ss_BnfOK_0:SP:={ env:=[(1,.ptr 1 [] none),(3,.int .i64)],objs:=[(1,true,.agg [.ro false 3,.ro false 1,.int .i64,.ro false 5])] }
noncomputable def Ls_BnfOK_0 (x0:Int) (x1:List AVal) (x2:List AVal) (x3:Int) (x4:List AVal):Option ((Bool) ⊕ (List AVal×List AVal×Int×List AVal)):=LpV ctx fn22 0 0 Xs_BnfOK_0 Ss_BnfOK_0 (x0,x1,x2,x3,x4)
def Xs_BnfOK_1:List Ex:=[{ out:=.ret,st:={ env:=[(2,.bool)] } },{ out:=.exit 2,st:={ env:=[(1,.ptr 1 [] none),(3,.int .i64)],objs:=[(1,true,.agg [.ro false 3,.ro false 1,.int .i64,.ro false 5])] } }]
def Ss_BnfOK_1:SP:={ env:=[(1,.ptr 1 [] none),(3,.int .i64),(4,.int .i64)],objs:=[(1,true,.agg [.ro false 3,.ro false 1,.int .i64,.ro false 5])] }
noncomputable def Ls_BnfOK_1 (x0:Int) (x1:Int) (x2:List AVal) (x3:List AVal) (x4:Int) (x5:List AVal):Option ((Bool) ⊕ (Int×List AVal×List AVal×Int×List AVal)):=LpV ctx fn22 0 1 Xs_BnfOK_1 Ss_BnfOK_1 (x0,x1,x2,x3,x4,x5)
def Xs_BnfOK_2:List Ex:=[{ out:=.ret,st:={ env:=[(2,.bool)] } },{ out:=.exit 4,st:={ env:=[(1,.ptr 1 [] none)],objs:=[(1,true,.agg [.ro false 3,.ro false 1,.int .i64,.ro false 5])] } }]
def Ss_BnfOK_2:SP:={ env:=[(1,.ptr 1 [] none),(5,.int .i64)],objs:=[(1,true,.agg [.ro false 3,.ro false 1,.int .i64,.ro false 5])] }
noncomputable def Ls_BnfOK_2 (x0:Int) (x1:List AVal) (x2:List AVal) (x3:Int) (x4:List AVal):Option ((Bool) ⊕ (List AVal×List AVal×Int×List AVal)):=LpV ctx fn22 0 2 Xs_BnfOK_2 Ss_BnfOK_2 (x0,x1,x2,x3,x4)
def Xs_BnfOK_3:List Ex:=[{ out:=.ret,st:={ env:=[(2,.bool)] } },{ out:=.exit 6,st:={ env:=[] } }]
def Ss_BnfOK_3:SP:={ env:=[(1,.ptr 1 [] none),(6,.int .i64),(7,.int .i64)],objs:=[(1,true,.agg [.ro false 3,.ro false 1,.int .i64,.ro false 5])] }
noncomputable def Ls_BnfOK_3 (x0:Int) (x1:Int) (x2:List AVal) (x3:List AVal) (x4:Int) (x5:List AVal):Option ((Bool) ⊕ (Unit)):=LpV ctx fn22 0 3 Xs_BnfOK_3 Ss_BnfOK_3 (x0,x1,x2,x3,x4,x5)
def Xs_BnfOK_4:List Ex:=[{ out:=.ret,st:={ env:=[(2,.bool)] } },{ out:=.exit 8,st:={ env:=[(1,.ptr 1 [] none),(6,.int .i64),(7,.int .i64)],objs:=[(1,true,.agg [.ro false 3,.ro false 1,.int .i64,.ro false 5])] } }]
def Ss_BnfOK_4:SP:={ env:=[(1,.ptr 1 [] none),(6,.int .i64),(7,.int .i64),(8,.ptr 8 [] none),(9,.int .i64)],objs:=[(1,true,.agg [.ro false 3,.ro false 1,.int .i64,.ro false 5]),(8,true,.agg [.int .i64,.ro false 1,.str,.int .i64,.int .i64])] }
noncomputable def Ls_BnfOK_4 (x0:Int) (x1:Int) (x2:Int) (x3:List AVal) (x4:List AVal) (x5:Int) (x6:List AVal) (x7:Int) (x8:List AVal) (x9:ByteArray) (x10:Int) (x11:Int):Option ((Bool) ⊕ (Int×Int×List AVal×List AVal×Int×List AVal)):=LpV ctx fn22 0 4 Xs_BnfOK_4 Ss_BnfOK_4 (x0,x1,x2,x3,x4,x5,x6,x7,x8,x9,x10,x11)
def lss_BnfOK:List LSig:=[{ h:=0,X:=Xs_BnfOK_0,Ss:=[Ss_BnfOK_0] },{ h:=1,X:=Xs_BnfOK_1,Ss:=[Ss_BnfOK_1] },{ h:=2,X:=Xs_BnfOK_2,Ss:=[Ss_BnfOK_2] },{ h:=3,X:=Xs_BnfOK_3,Ss:=[Ss_BnfOK_3] },{ h:=4,X:=Xs_BnfOK_4,Ss:=[Ss_BnfOK_4] }]
noncomputable def Fs_l01Between (x0:Int) (x1:Int) (x2:Int):Option (Bool):=FnV ctx 23 sgs_l01Between (x0,x1,x2)
def lss_l01Between:List LSig:=[]
noncomputable def Fs_l04Least (x0:List AVal) (x1:List AVal) (x2:Int) (x3:List AVal):Option (List AVal):=FnV ctx 24 sgs_l04Least (x0,x1,x2,x3)
def Xs_l04Least_0:List Ex:=[{ out:=.exit 0,st:={ env:=[(1,.ptr 1 [] none),(3,.ref 3 [])],objs:=[(1,true,.agg [.ro false 3,.ro false 1,.int .i64,.ro false 5]),(3,false,.own 1)] } }]
def Ss_l04Least_0:SP:={ env:=[(1,.ptr 1 [] none),(3,.ref 3 []),(4,.int .i64)],objs:=[(1,true,.agg [.ro false 3,.ro false 1,.int .i64,.ro false 5]),(3,false,.own 1)] }
noncomputable def Ls_l04Least_0 (x0:Int) (x1:List AVal) (x2:List AVal) (x3:Int) (x4:List AVal) (x5:List AVal):Option (List AVal×List AVal×Int×List AVal×List AVal):=LpV ctx fn24 0 0 Xs_l04Least_0 Ss_l04Least_0 (x0,x1,x2,x3,x4,x5)
def Xs_l04Least_1:List Ex:=[{ out:=.exit 2,st:={ env:=[(3,.ref 3 [])],objs:=[(3,false,.own 1)] } }]
def Ss_l04Least_1:SP:={ env:=[(1,.ptr 1 [] none),(3,.ref 3 []),(5,.bool)],objs:=[(1,true,.agg [.ro false 3,.ro false 1,.int .i64,.ro false 5]),(3,false,.own 1)] }
noncomputable def Ls_l04Least_1 (x0:Bool) (x1:List AVal) (x2:List AVal) (x3:Int) (x4:List AVal) (x5:List AVal):Option (List AVal):=LpV ctx fn24 0 1 Xs_l04Least_1 Ss_l04Least_1 (x0,x1,x2,x3,x4,x5)
def Xs_l04Least_2:List Ex:=[{ out:=.exit 4,st:={ env:=[(1,.ptr 1 [] none),(3,.ref 3 []),(5,.bool)],objs:=[(1,true,.agg [.ro false 3,.ro false 1,.int .i64,.ro false 5]),(3,false,.own 1)] } }]
def Ss_l04Least_2:SP:={ env:=[(1,.ptr 1 [] none),(3,.ref 3 []),(5,.bool),(6,.int .i64)],objs:=[(1,true,.agg [.ro false 3,.ro false 1,.int .i64,.ro false 5]),(3,false,.own 1)] }
noncomputable def Ls_l04Least_2 (x0:Bool) (x1:Int) (x2:List AVal) (x3:List AVal) (x4:Int) (x5:List AVal) (x6:List AVal):Option (Bool×List AVal×List AVal×Int×List AVal×List AVal):=LpV ctx fn24 0 2 Xs_l04Least_2 Ss_l04Least_2 (x0,x1,x2,x3,x4,x5,x6)
def lss_l04Least:List LSig:=[{ h:=0,X:=Xs_l04Least_0,Ss:=[Ss_l04Least_0] },{ h:=1,X:=Xs_l04Least_1,Ss:=[Ss_l04Least_1] },{ h:=2,X:=Xs_l04Least_2,Ss:=[Ss_l04Least_2] }]
noncomputable def Fs_l04Non (x0:List AVal) (x1:List AVal) (x2:Int) (x3:List AVal) (x4:Int):Option (Int):=FnV ctx 25 sgs_l04Non (x0,x1,x2,x3,x4)
def lss_l04Non:List LSig:=[]
noncomputable def Fs_l04Spell (x0:List AVal) (x1:List AVal) (x2:Int) (x3:List AVal) (x4:List AVal) (x5:List AVal) (x6:List AVal) (x7:List AVal) (x8:Int):Option (List AVal×Bool):=FnV ctx 26 sgs_l04Spell (x0,x1,x2,x3,x4,x5,x6,x7,x8)
def Xs_l04Spell_0:List Ex:=[{ out:=.ret,st:={ env:=[(12,.ref 12 []),(13,.bool)],objs:=[(12,false,.own 1)] } },{ out:=.exit 0,st:={ env:=[(14,.ref 14 [])],objs:=[(14,false,.own 1)] } }]
def Ss_l04Spell_0:SP:={ env:=[(2,.ro false 1),(3,.ro false 1),(4,.ro false 1),(6,.ptr 6 [] none),(14,.ref 14 []),(15,.int .i64)],objs:=[(6,true,.agg [.ro false 3,.ro false 1,.int .i64,.ro false 5]),(14,false,.own 1)] }
noncomputable def Ls_l04Spell_0 (x0:List AVal) (x1:List AVal) (x2:List AVal) (x3:Int) (x4:List AVal) (x5:List AVal) (x6:Int) (x7:List AVal) (x8:List AVal):Option ((Bool×List AVal) ⊕ (List AVal)):=LpV ctx fn26 0 0 Xs_l04Spell_0 Ss_l04Spell_0 (x0,x1,x2,x3,x4,x5,x6,x7,x8)
def lss_l04Spell:List LSig:=[{ h:=0,X:=Xs_l04Spell_0,Ss:=[Ss_l04Spell_0] }]
noncomputable def Fs_l04Cmp (x0:List AVal) (x1:List AVal):Option (Int):=FnV ctx 27 sgs_l04Cmp (x0,x1)
def Xs_l04Cmp_0:List Ex:=[{ out:=.ret,st:={ env:=[(4,.int .i64)] } },{ out:=.exit 0,st:={ env:=[] } }]
def Ss_l04Cmp_0:SP:={ env:=[(0,.ro false 1),(1,.ro false 1),(5,.int .i64)] }
noncomputable def Ls_l04Cmp_0 (x0:List AVal) (x1:List AVal) (x2:Int):Option ((Int) ⊕ (Unit)):=LpV ctx fn27 0 0 Xs_l04Cmp_0 Ss_l04Cmp_0 (x0,x1,x2)
def lss_l04Cmp:List LSig:=[{ h:=0,X:=Xs_l04Cmp_0,Ss:=[Ss_l04Cmp_0] }]
noncomputable def Fi_BnfOK (x0:List AVal) (x1:List AVal) (x2:Int) (x3:List AVal):Option (Bool):=FnV ctx 31 sgi_BnfOK (x0,x1,x2,x3)
def Xi_BnfOK_0:List Ex:=[{ out:=.ret,st:={ env:=[(2,.bool)] } },{ out:=.exit 0,st:={ env:=[(1,.ptr 1 [] none)],objs:=[(1,true,.agg [.ro false 3,.ro false 1,.int .i64,.ro false 5])] } }]
def Si_BnfOK_0:SP:={ env:=[(1,.ptr 1 [] none),(3,.ref 3 []),(51,.ro false 3),(52,.int .i64),(53,.int .i64)],objs:=[(1,true,.agg [.ro false 3,.ro false 1,.int .i64,.ro false 5]),(3,false,.mp .str)] }
noncomputable def Li_BnfOK_0 (x0:List AVal) (x1:Int) (x2:Int) (x3:List AVal) (x4:List AVal) (x5:Int) (x6:List AVal) (x7:List AVal):Option ((Bool) ⊕ (List AVal×List AVal×Int×List AVal)):=LpV ctx fn31 0 0 Xi_BnfOK_0 Si_BnfOK_0 (x0,x1,x2,x3,x4,x5,x6,x7)
def Xi_BnfOK_1:List Ex:=[{ out:=.ret,st:={ env:=[(2,.bool)] } },{ out:=.exit 2,st:={ env:=[(1,.ptr 1 [] none)],objs:=[(1,true,.agg [.ro false 3,.ro false 1,.int .i64,.ro false 5])] } }]
def Si_BnfOK_1:SP:={ env:=[(1,.ptr 1 [] none),(6,.ref 6 []),(76,.ro false 1),(77,.int .i64),(78,.int .i64)],objs:=[(1,true,.agg [.ro false 3,.ro false 1,.int .i64,.ro false 5]),(6,false,.mp .str)] }
noncomputable def Li_BnfOK_1 (x0:List AVal) (x1:Int) (x2:Int) (x3:List AVal) (x4:List AVal) (x5:Int) (x6:List AVal) (x7:List AVal):Option ((Bool) ⊕ (List AVal×List AVal×Int×List AVal)):=LpV ctx fn31 0 1 Xi_BnfOK_1 Si_BnfOK_1 (x0,x1,x2,x3,x4,x5,x6,x7)
def Xi_BnfOK_2:List Ex:=[{ out:=.ret,st:={ env:=[(2,.bool)] } },{ out:=.exit 4,st:={ env:=[] } }]
def Si_BnfOK_2:SP:={ env:=[(1,.ptr 1 [] none),(9,.int .i64),(97,.ro false 5),(98,.int .i64),(99,.int .i64)],objs:=[(1,true,.agg [.ro false 3,.ro false 1,.int .i64,.ro false 5])] }
noncomputable def Li_BnfOK_2 (x0:Int) (x1:List AVal) (x2:Int) (x3:Int) (x4:List AVal) (x5:List AVal) (x6:Int) (x7:List AVal):Option ((Bool) ⊕ (Unit)):=LpV ctx fn31 0 2 Xi_BnfOK_2 Si_BnfOK_2 (x0,x1,x2,x3,x4,x5,x6,x7)
def Xi_BnfOK_3:List Ex:=[{ out:=.ret,st:={ env:=[(2,.bool)] } },{ out:=.exit 6,st:={ env:=[(1,.ptr 1 [] none),(9,.int .i64),(97,.ro false 5),(98,.int .i64),(99,.int .i64)],objs:=[(1,true,.agg [.ro false 3,.ro false 1,.int .i64,.ro false 5])] } }]
def Si_BnfOK_3:SP:={ env:=[(1,.ptr 1 [] none),(9,.int .i64),(97,.ro false 5),(98,.int .i64),(99,.int .i64),(141,.ro false 1),(142,.int .i64),(143,.int .i64)],objs:=[(1,true,.agg [.ro false 3,.ro false 1,.int .i64,.ro false 5])] }
noncomputable def Li_BnfOK_3 (x0:Int) (x1:List AVal) (x2:Int) (x3:Int) (x4:List AVal) (x5:Int) (x6:Int) (x7:List AVal) (x8:List AVal) (x9:Int) (x10:List AVal):Option ((Bool) ⊕ (Int×List AVal×Int×Int×List AVal×List AVal×Int×List AVal)):=LpV ctx fn31 0 3 Xi_BnfOK_3 Si_BnfOK_3 (x0,x1,x2,x3,x4,x5,x6,x7,x8,x9,x10)
def lsi_BnfOK:List LSig:=[{ h:=0,X:=Xi_BnfOK_0,Ss:=[Si_BnfOK_0] },{ h:=1,X:=Xi_BnfOK_1,Ss:=[Si_BnfOK_1] },{ h:=2,X:=Xi_BnfOK_2,Ss:=[Si_BnfOK_2] },{ h:=3,X:=Xi_BnfOK_3,Ss:=[Si_BnfOK_3] }]
noncomputable def Fi_factsOf (x0:List AVal) (x1:List AVal) (x2:Int) (x3:List AVal):Option (List AVal×List AVal×Int×List AVal×Int×Int×List AVal×List AVal×List AVal×List AVal×List AVal):=FnV ctx 32 sgi_factsOf (x0,x1,x2,x3)
def Xi_factsOf_0:List Ex:=[{ out:=.exit 0,st:={ env:=[(1,.ptr 1 [] none),(3,.ptr 3 [] none)],objs:=[(1,true,.agg [.ro false 3,.ro false 1,.int .i64,.ro false 5]),(3,true,.ptr 15 [] none),(15,true,.agg [.ro false 3,.ro false 1,.int .i64,.ro false 5,.int .i64,.int .i64,.own 1,.own 1,.own 1,.own 1,.own 1])] } }]
def Si_factsOf_0:SP:={ env:=[(1,.ptr 1 [] none),(3,.ptr 3 [] none),(52,.int .i64),(53,.int .i64)],objs:=[(1,true,.agg [.ro false 3,.ro false 1,.int .i64,.ro false 5]),(3,true,.ptr 15 [] none),(15,true,.agg [.ro false 3,.ro false 1,.int .i64,.ro false 5,.int .i64,.int .i64,.own 1,.own 1,.own 1,.own 1,.own 1])] }
noncomputable def Li_factsOf_0 (x0:Int) (x1:Int) (x2:List AVal) (x3:List AVal) (x4:Int) (x5:List AVal) (x6:List AVal) (x7:List AVal) (x8:Int) (x9:List AVal) (x10:Int) (x11:Int) (x12:List AVal) (x13:List AVal) (x14:List AVal) (x15:List AVal) (x16:List AVal):Option (List AVal×List AVal×Int×List AVal×List AVal×List AVal×Int×List AVal×Int×Int×List AVal×List AVal×List AVal×List AVal×List AVal):=LpV ctx fn32 0 0 Xi_factsOf_0 Si_factsOf_0 (x0,x1,x2,x3,x4,x5,x6,x7,x8,x9,x10,x11,x12,x13,x14,x15,x16)
def Xi_factsOf_1:List Ex:=[{ out:=.exit 2,st:={ env:=[(1,.ptr 1 [] none),(3,.ptr 3 [] none)],objs:=[(1,true,.agg [.ro false 3,.ro false 1,.int .i64,.ro false 5]),(3,true,.ptr 15 [] none),(15,true,.agg [.ro false 3,.ro false 1,.int .i64,.ro false 5,.int .i64,.int .i64,.own 1,.own 1,.own 1,.own 1,.own 1])] } }]
def Si_factsOf_1:SP:={ env:=[(1,.ptr 1 [] none),(3,.ptr 3 [] none),(78,.ro false 5),(79,.int .i64),(80,.int .i64)],objs:=[(1,true,.agg [.ro false 3,.ro false 1,.int .i64,.ro false 5]),(3,true,.ptr 15 [] none),(15,true,.agg [.ro false 3,.ro false 1,.int .i64,.ro false 5,.int .i64,.int .i64,.own 1,.own 1,.own 1,.own 1,.own 1])] }
noncomputable def Li_factsOf_1 (x0:List AVal) (x1:Int) (x2:Int) (x3:List AVal) (x4:List AVal) (x5:Int) (x6:List AVal) (x7:List AVal) (x8:List AVal) (x9:Int) (x10:List AVal) (x11:Int) (x12:Int) (x13:List AVal) (x14:List AVal) (x15:List AVal) (x16:List AVal) (x17:List AVal):Option (List AVal×List AVal×Int×List AVal×List AVal×List AVal×Int×List AVal×Int×Int×List AVal×List AVal×List AVal×List AVal×List AVal):=LpV ctx fn32 0 1 Xi_factsOf_1 Si_factsOf_1 (x0,x1,x2,x3,x4,x5,x6,x7,x8,x9,x10,x11,x12,x13,x14,x15,x16,x17)
def lsi_factsOf:List LSig:=[{ h:=0,X:=Xi_factsOf_0,Ss:=[Si_factsOf_0] },{ h:=1,X:=Xi_factsOf_1,Ss:=[Si_factsOf_1] }]
noncomputable def Fi_around_w (x0:List AVal) (x1:List AVal) (x2:Int) (x3:List AVal) (x4:List AVal) (x5:List AVal) (x6:List AVal) (x7:List AVal) (x8:Int) (x9:List AVal) (x10:Int) (x11:Int) (x12:List AVal) (x13:List AVal) (x14:List AVal) (x15:List AVal) (x16:List AVal):Option (List AVal×List AVal×Int×List AVal×List AVal×List AVal×List AVal×List AVal×Int×List AVal×Int×Int×List AVal×List AVal×List AVal×List AVal×List AVal):=FnV ctx 33 sgi_around_w (x0,x1,x2,x3,x4,x5,x6,x7,x8,x9,x10,x11,x12,x13,x14,x15,x16)
def Xi_around_w_0:List Ex:=[{ out:=.exit 0,st:={ env:=[],objs:=[(2000000,true,.agg [.ro false 3,.ro false 1,.int .i64,.ro false 5]),(2000001,true,.ptr 2000004 [] none),(2000002,true,.own 1),(2000003,true,.own 1),(2000004,true,.agg [.ro false 3,.ro false 1,.int .i64,.ro false 5,.int .i64,.int .i64,.own 1,.own 1,.own 1,.own 1,.own 1])] } }]
def Si_around_w_0:SP:={ env:=[(0,.clo 34 [.ptr 2000000 [] none,.ptr 2000001 [] none,.ptr 2000002 [] none,.ptr 2000003 [] none])],objs:=[(2000000,true,.agg [.ro false 3,.ro false 1,.int .i64,.ro false 5]),(2000001,true,.ptr 2000004 [] none),(2000002,true,.own 1),(2000003,true,.own 1),(2000004,true,.agg [.ro false 3,.ro false 1,.int .i64,.ro false 5,.int .i64,.int .i64,.own 1,.own 1,.own 1,.own 1,.own 1])] }
noncomputable def Li_around_w_0 (x0:List AVal) (x1:List AVal) (x2:Int) (x3:List AVal) (x4:List AVal) (x5:List AVal) (x6:List AVal) (x7:List AVal) (x8:Int) (x9:List AVal) (x10:Int) (x11:Int) (x12:List AVal) (x13:List AVal) (x14:List AVal) (x15:List AVal) (x16:List AVal):Option (List AVal×List AVal×Int×List AVal×List AVal×List AVal×List AVal×List AVal×Int×List AVal×Int×Int×List AVal×List AVal×List AVal×List AVal×List AVal):=LpV ctx fn33 5 0 Xi_around_w_0 Si_around_w_0 (x0,x1,x2,x3,x4,x5,x6,x7,x8,x9,x10,x11,x12,x13,x14,x15,x16)
def lsi_around_w:List LSig:=[{ h:=0,X:=Xi_around_w_0,Ss:=[Si_around_w_0] }]
noncomputable def Fl_eqTermS (x0:List AVal) (x1:List AVal):Option (Bool):=FnV ctx 37 sgl_eqTermS (x0,x1)
def Xl_eqTermS_0:List Ex:=[{ out:=.ret,st:={ env:=[(4,.bool)] } },{ out:=.exit 0,st:={ env:=[] } }]
def Sl_eqTermS_0:SP:={ env:=[(0,.ro false 3),(1,.ro false 3),(5,.int .i64)] }
noncomputable def Ll_eqTermS_0 (x0:List AVal) (x1:List AVal) (x2:Int):Option ((Bool) ⊕ (Unit)):=LpV ctx fn37 0 0 Xl_eqTermS_0 Sl_eqTermS_0 (x0,x1,x2)
def lsl_eqTermS:List LSig:=[{ h:=0,X:=Xl_eqTermS_0,Ss:=[Sl_eqTermS_0] }]
noncomputable def Fl_eqStringS (x0:List AVal) (x1:List AVal):Option (Bool):=FnV ctx 38 sgl_eqStringS (x0,x1)
def Xl_eqStringS_0:List Ex:=[{ out:=.ret,st:={ env:=[(4,.bool)] } },{ out:=.exit 0,st:={ env:=[] } }]
def Sl_eqStringS_0:SP:={ env:=[(0,.ro false 1),(1,.ro false 1),(5,.int .i64)] }
noncomputable def Ll_eqStringS_0 (x0:List AVal) (x1:List AVal) (x2:Int):Option ((Bool) ⊕ (Unit)):=LpV ctx fn38 0 0 Xl_eqStringS_0 Sl_eqStringS_0 (x0,x1,x2)
def lsl_eqStringS:List LSig:=[{ h:=0,X:=Xl_eqStringS_0,Ss:=[Sl_eqStringS_0] }]
noncomputable def Fl_eqProdS (x0:List AVal) (x1:List AVal):Option (Bool):=FnV ctx 39 sgl_eqProdS (x0,x1)
def Xl_eqProdS_0:List Ex:=[{ out:=.ret,st:={ env:=[(4,.bool)] } },{ out:=.exit 0,st:={ env:=[] } }]
def Sl_eqProdS_0:SP:={ env:=[(0,.ro false 5),(1,.ro false 5),(5,.int .i64)] }
noncomputable def Ll_eqProdS_0 (x0:List AVal) (x1:List AVal) (x2:Int):Option ((Bool) ⊕ (Unit)):=LpV ctx fn39 0 0 Xl_eqProdS_0 Sl_eqProdS_0 (x0,x1,x2)
def lsl_eqProdS:List LSig:=[{ h:=0,X:=Xl_eqProdS_0,Ss:=[Sl_eqProdS_0] }]
noncomputable def Fl_markTermS (x0:Int) (x1:List AVal):Option (Int×List AVal):=FnV ctx 40 sgl_markTermS (x0,x1)
def Xl_markTermS_0:List Ex:=[{ out:=.exit 0,st:={ env:=[(1,.int .i64)],objs:=[(2000000,false,.own 3)] } }]
def Sl_markTermS_0:SP:={ env:=[(0,.ref 2000000 []),(1,.int .i64),(5,.int .i64)],objs:=[(2000000,false,.own 3)] }
noncomputable def Ll_markTermS_0 (x0:Int) (x1:Int) (x2:List AVal):Option (Int×List AVal):=LpV ctx fn40 1 0 Xl_markTermS_0 Sl_markTermS_0 (x0,x1,x2)
def lsl_markTermS:List LSig:=[{ h:=0,X:=Xl_markTermS_0,Ss:=[Sl_markTermS_0] }]
noncomputable def Fl_markStringS (x0:Int) (x1:List AVal):Option (Int×List AVal):=FnV ctx 41 sgl_markStringS (x0,x1)
def Xl_markStringS_0:List Ex:=[{ out:=.exit 0,st:={ env:=[(1,.int .i64)],objs:=[(2000000,false,.own 1)] } }]
def Sl_markStringS_0:SP:={ env:=[(0,.ref 2000000 []),(1,.int .i64),(5,.int .i64)],objs:=[(2000000,false,.own 1)] }
noncomputable def Ll_markStringS_0 (x0:Int) (x1:Int) (x2:List AVal):Option (Int×List AVal):=LpV ctx fn41 1 0 Xl_markStringS_0 Sl_markStringS_0 (x0,x1,x2)
def lsl_markStringS:List LSig:=[{ h:=0,X:=Xl_markStringS_0,Ss:=[Sl_markStringS_0] }]
noncomputable def Fl_markProdS (x0:Int) (x1:List AVal):Option (Int×List AVal):=FnV ctx 42 sgl_markProdS (x0,x1)
def Xl_markProdS_0:List Ex:=[{ out:=.exit 0,st:={ env:=[(1,.int .i64)],objs:=[(2000000,false,.own 5)] } }]
def Sl_markProdS_0:SP:={ env:=[(0,.ref 2000000 []),(1,.int .i64),(5,.int .i64)],objs:=[(2000000,false,.own 5)] }
noncomputable def Ll_markProdS_0 (x0:Int) (x1:Int) (x2:List AVal):Option (Int×List AVal):=LpV ctx fn42 1 0 Xl_markProdS_0 Sl_markProdS_0 (x0,x1,x2)
def lsl_markProdS:List LSig:=[{ h:=0,X:=Xl_markProdS_0,Ss:=[Sl_markProdS_0] }]
noncomputable def Fl_szTerm (x0:ByteArray) (x1:Int) (x2:Int) (x3:Int):Option (Int):=FnV ctx 58 sgl_szTerm (x0,x1,x2,x3)
def lsl_szTerm:List LSig:=[]
noncomputable def Fl_szProd (x0:Int) (x1:List AVal) (x2:ByteArray) (x3:Int) (x4:Int) (x5:Int):Option (Int):=FnV ctx 59 sgl_szProd (x0,x1,x2,x3,x4,x5)
def lsl_szProd:List LSig:=[]
noncomputable def Fl_toTerm (x0:ByteArray) (x1:Int) (x2:Int):Option (ByteArray×Int×Int):=FnV ctx 64 sgl_toTerm (x0,x1,x2)
def lsl_toTerm:List LSig:=[]
noncomputable def Fl_toProd (x0:Int) (x1:List AVal) (x2:ByteArray) (x3:Int) (x4:Int):Option (Int×List AVal×ByteArray×Int×Int):=FnV ctx 65 sgl_toProd (x0,x1,x2,x3,x4)
def lsl_toProd:List LSig:=[]
noncomputable def Fs_l04Strength (x0:Int) (x1:Int):Option (Bool):=FnV ctx 60 sgs_l04Strength (x0,x1)
def lss_l04Strength:List LSig:=[]
noncomputable def Fs_l03At (x0:List AVal) (x1:ByteArray):Option (Int):=FnV ctx 61 sgs_l03At (x0,x1)
def Xs_l03At_0:List Ex:=[{ out:=.ret,st:={ env:=[(4,.int .i64)] } },{ out:=.exit 0,st:={ env:=[] } }]
def Ss_l03At_0:SP:={ env:=[(0,.ro false 1),(1,.str),(5,.int .i64)] }
noncomputable def Ls_l03At_0 (x0:List AVal) (x1:ByteArray) (x2:Int):Option ((Int) ⊕ (Unit)):=LpV ctx fn61 0 0 Xs_l03At_0 Ss_l03At_0 (x0,x1,x2)
def lss_l03At:List LSig:=[{ h:=0,X:=Xs_l03At_0,Ss:=[Ss_l03At_0] }]
noncomputable def Fs_l01Name (x0:ByteArray):Option (Bool):=FnV ctx 62 sgs_l01Name x0
def Xs_l01Name_0:List Ex:=[{ out:=.ret,st:={ env:=[(2,.bool)] } },{ out:=.exit 0,st:={ env:=[] } }]
def Ss_l01Name_0:SP:={ env:=[(0,.str),(3,.int .i64)] }
noncomputable def Ls_l01Name_0 (x0:ByteArray) (x1:Int):Option ((Bool) ⊕ (Unit)):=LpV ctx fn62 0 0 Xs_l01Name_0 Ss_l01Name_0 (x0,x1)
def lss_l01Name:List LSig:=[{ h:=0,X:=Xs_l01Name_0,Ss:=[Ss_l01Name_0] }]
noncomputable def Fs_l04Sum (x0:List AVal) (x1:List AVal) (x2:Int) (x3:List AVal) (x4:List AVal) (x5:List AVal):Option (Int):=FnV ctx 63 sgs_l04Sum (x0,x1,x2,x3,x4,x5)
def Xs_l04Sum_0:List Ex:=[{ out:=.ret,st:={ env:=[(6,.int .i64)] } },{ out:=.exit 0,st:={ env:=[(7,.int .i64)] } }]
def Ss_l04Sum_0:SP:={ env:=[(1,.ro false 1),(2,.ro false 1),(3,.ptr 3 [] none),(7,.int .i64),(8,.int .i64)],objs:=[(3,true,.agg [.ro false 3,.ro false 1,.int .i64,.ro false 5])] }
noncomputable def Ls_l04Sum_0 (x0:List AVal) (x1:List AVal) (x2:Int) (x3:Int) (x4:List AVal) (x5:List AVal) (x6:Int) (x7:List AVal):Option ((Int) ⊕ (Int)):=LpV ctx fn63 0 0 Xs_l04Sum_0 Ss_l04Sum_0 (x0,x1,x2,x3,x4,x5,x6,x7)
def lss_l04Sum:List LSig:=[{ h:=0,X:=Xs_l04Sum_0,Ss:=[Ss_l04Sum_0] }]
noncomputable def Fi_levelOK (x0:Int) (x1:Int):Option (Bool):=FnV ctx 66 sgi_levelOK (x0,x1)
def lsi_levelOK:List LSig:=[]
noncomputable def Fi_nameOK (x0:ByteArray):Option (Bool):=FnV ctx 67 sgi_nameOK x0
def Xi_nameOK_0:List Ex:=[{ out:=.ret,st:={ env:=[(2,.bool)] } },{ out:=.exit 0,st:={ env:=[] } }]
def Si_nameOK_0:SP:={ env:=[(0,.str),(3,.int .i64)] }
noncomputable def Li_nameOK_0 (x0:ByteArray) (x1:Int):Option ((Bool) ⊕ (Unit)):=LpV ctx fn67 0 0 Xi_nameOK_0 Si_nameOK_0 (x0,x1)
def lsi_nameOK:List LSig:=[{ h:=0,X:=Xi_nameOK_0,Ss:=[Si_nameOK_0] }]
noncomputable def Fi_around (x0:List AVal) (x1:List AVal) (x2:Int) (x3:List AVal) (x4:List AVal) (x5:List AVal) (x6:Int) (x7:List AVal) (x8:Int) (x9:Int) (x10:List AVal) (x11:List AVal) (x12:List AVal) (x13:List AVal) (x14:List AVal):Option (List AVal×List AVal×Int×List AVal×List AVal×List AVal×Int×List AVal×Int×Int×List AVal×List AVal×List AVal×List AVal×List AVal):=FnV ctx 33 sgi_around (x0,x1,x2,x3,x4,x5,x6,x7,x8,x9,x10,x11,x12,x13,x14)
def Xi_around_0:List Ex:=[{ out:=.exit 0,st:={ env:=[],objs:=[(2000000,true,.agg [.ro false 3,.ro false 1,.int .i64,.ro false 5]),(2000001,true,.ptr 2000002 [] none),(2000002,true,.agg [.ro false 3,.ro false 1,.int .i64,.ro false 5,.int .i64,.int .i64,.own 1,.own 1,.own 1,.own 1,.own 1])] } }]
def Si_around_0:SP:={ env:=[(0,.clo 68 [.ptr 2000000 [] none,.ptr 2000001 [] none])],objs:=[(2000000,true,.agg [.ro false 3,.ro false 1,.int .i64,.ro false 5]),(2000001,true,.ptr 2000002 [] none),(2000002,true,.agg [.ro false 3,.ro false 1,.int .i64,.ro false 5,.int .i64,.int .i64,.own 1,.own 1,.own 1,.own 1,.own 1])] }
noncomputable def Li_around_0 (x0:List AVal) (x1:List AVal) (x2:Int) (x3:List AVal) (x4:List AVal) (x5:List AVal) (x6:Int) (x7:List AVal) (x8:Int) (x9:Int) (x10:List AVal) (x11:List AVal) (x12:List AVal) (x13:List AVal) (x14:List AVal):Option (List AVal×List AVal×Int×List AVal×List AVal×List AVal×Int×List AVal×Int×Int×List AVal×List AVal×List AVal×List AVal×List AVal):=LpV ctx fn33 3 0 Xi_around_0 Si_around_0 (x0,x1,x2,x3,x4,x5,x6,x7,x8,x9,x10,x11,x12,x13,x14)
def lsi_around:List LSig:=[{ h:=0,X:=Xi_around_0,Ss:=[Si_around_0] }]
noncomputable def Fi_around_v1 (x0:List AVal) (x1:List AVal) (x2:Int) (x3:List AVal) (x4:List AVal) (x5:List AVal) (x6:Int) (x7:List AVal) (x8:Int) (x9:Int) (x10:List AVal) (x11:List AVal) (x12:List AVal) (x13:List AVal) (x14:List AVal):Option (List AVal×List AVal×Int×List AVal×List AVal×List AVal×Int×List AVal×Int×Int×List AVal×List AVal×List AVal×List AVal×List AVal):=FnV ctx 33 sgi_around_v1 (x0,x1,x2,x3,x4,x5,x6,x7,x8,x9,x10,x11,x12,x13,x14)
def Xi_around_v1_0:List Ex:=[{ out:=.exit 0,st:={ env:=[],objs:=[(2000000,true,.agg [.ro false 3,.ro false 1,.int .i64,.ro false 5]),(2000001,true,.ptr 2000002 [] none),(2000002,true,.agg [.ro false 3,.ro false 1,.int .i64,.ro false 5,.int .i64,.int .i64,.own 1,.own 1,.own 1,.own 1,.own 1])] } }]
def Si_around_v1_0:SP:={ env:=[(0,.clo 69 [.ptr 2000000 [] none,.ptr 2000001 [] none])],objs:=[(2000000,true,.agg [.ro false 3,.ro false 1,.int .i64,.ro false 5]),(2000001,true,.ptr 2000002 [] none),(2000002,true,.agg [.ro false 3,.ro false 1,.int .i64,.ro false 5,.int .i64,.int .i64,.own 1,.own 1,.own 1,.own 1,.own 1])] }
noncomputable def Li_around_v1_0 (x0:List AVal) (x1:List AVal) (x2:Int) (x3:List AVal) (x4:List AVal) (x5:List AVal) (x6:Int) (x7:List AVal) (x8:Int) (x9:Int) (x10:List AVal) (x11:List AVal) (x12:List AVal) (x13:List AVal) (x14:List AVal):Option (List AVal×List AVal×Int×List AVal×List AVal×List AVal×Int×List AVal×Int×Int×List AVal×List AVal×List AVal×List AVal×List AVal):=LpV ctx fn33 3 0 Xi_around_v1_0 Si_around_v1_0 (x0,x1,x2,x3,x4,x5,x6,x7,x8,x9,x10,x11,x12,x13,x14)
def lsi_around_v1:List LSig:=[{ h:=0,X:=Xi_around_v1_0,Ss:=[Si_around_v1_0] }]
noncomputable def Fi_Shortest_1 (x0:List AVal) (x1:List AVal) (x2:Int) (x3:List AVal) (x4:List AVal) (x5:List AVal) (x6:List AVal) (x7:List AVal) (x8:Int) (x9:List AVal) (x10:Int) (x11:Int) (x12:List AVal) (x13:List AVal) (x14:List AVal) (x15:List AVal) (x16:List AVal):Option (Bool×List AVal×List AVal×Int×List AVal×List AVal×List AVal×List AVal×List AVal×Int×List AVal×Int×Int×List AVal×List AVal×List AVal×List AVal×List AVal):=FnV ctx 34 sgi_Shortest_1 (x0,x1,x2,x3,x4,x5,x6,x7,x8,x9,x10,x11,x12,x13,x14,x15,x16)
def Xi_Shortest_1_0:List Ex:=[{ out:=.exit 0,st:={ env:=[(5,.bool)],objs:=[(2000000,true,.agg [.ro false 3,.ro false 1,.int .i64,.ro false 5]),(2000001,true,.ptr 2000004 [] none),(2000002,true,.own 1),(2000003,true,.own 1),(2000004,true,.agg [.ro false 3,.ro false 1,.int .i64,.ro false 5,.int .i64,.int .i64,.own 1,.own 1,.own 1,.own 1,.own 1])] } }]
def Si_Shortest_1_0:SP:={ env:=[(1,.ptr 2000001 [] none),(2,.ptr 2000002 [] none),(3,.ptr 2000003 [] none),(5,.bool),(18,.ro false 5),(19,.int .i64),(20,.int .i64)],objs:=[(2000001,true,.ptr 2000004 [] none),(2000002,true,.own 1),(2000003,true,.own 1),(2000000,true,.agg [.ro false 3,.ro false 1,.int .i64,.ro false 5]),(2000004,true,.agg [.ro false 3,.ro false 1,.int .i64,.ro false 5,.int .i64,.int .i64,.own 1,.own 1,.own 1,.own 1,.own 1])] }
noncomputable def Li_Shortest_1_0 (x0:Bool) (x1:List AVal) (x2:Int) (x3:Int) (x4:List AVal) (x5:List AVal) (x6:List AVal) (x7:List AVal) (x8:Int) (x9:List AVal) (x10:List AVal) (x11:List AVal) (x12:Int) (x13:List AVal) (x14:Int) (x15:Int) (x16:List AVal) (x17:List AVal) (x18:List AVal) (x19:List AVal) (x20:List AVal):Option (Bool×List AVal×List AVal×Int×List AVal×List AVal×List AVal×List AVal×List AVal×Int×List AVal×Int×Int×List AVal×List AVal×List AVal×List AVal×List AVal):=LpV ctx fn34 5 0 Xi_Shortest_1_0 Si_Shortest_1_0 (x0,x1,x2,x3,x4,x5,x6,x7,x8,x9,x10,x11,x12,x13,x14,x15,x16,x17,x18,x19,x20)
def Xi_Shortest_1_1:List Ex:=[{ out:=.exit 2,st:={ env:=[(1,.ptr 2000001 [] none),(2,.ptr 2000002 [] none),(3,.ptr 2000003 [] none),(5,.bool),(7,.ptr 7 [] none),(8,.int .i64),(9,.int .i64),(18,.ro false 5),(19,.int .i64),(20,.int .i64)],objs:=[(2000001,true,.ptr 2000004 [] none),(2000002,true,.own 1),(2000003,true,.own 1),(7,true,.agg [.int .i64,.ro false 1,.str,.int .i64,.int .i64]),(2000000,true,.agg [.ro false 3,.ro false 1,.int .i64,.ro false 5]),(2000004,true,.agg [.ro false 3,.ro false 1,.int .i64,.ro false 5,.int .i64,.int .i64,.own 1,.own 1,.own 1,.own 1,.own 1])] } }]
def Si_Shortest_1_1:SP:={ env:=[(1,.ptr 2000001 [] none),(2,.ptr 2000002 [] none),(3,.ptr 2000003 [] none),(5,.bool),(7,.ptr 7 [] none),(8,.int .i64),(9,.int .i64),(18,.ro false 5),(19,.int .i64),(20,.int .i64),(32,.ro false 1),(33,.int .i64),(34,.int .i64)],objs:=[(2000001,true,.ptr 2000004 [] none),(2000002,true,.own 1),(2000003,true,.own 1),(7,true,.agg [.int .i64,.ro false 1,.str,.int .i64,.int .i64]),(2000000,true,.agg [.ro false 3,.ro false 1,.int .i64,.ro false 5]),(2000004,true,.agg [.ro false 3,.ro false 1,.int .i64,.ro false 5,.int .i64,.int .i64,.own 1,.own 1,.own 1,.own 1,.own 1])] }
noncomputable def Li_Shortest_1_1 (x0:Bool) (x1:Int) (x2:Int) (x3:List AVal) (x4:Int) (x5:Int) (x6:List AVal) (x7:Int) (x8:Int) (x9:List AVal) (x10:List AVal) (x11:Int) (x12:List AVal) (x13:ByteArray) (x14:Int) (x15:Int) (x16:List AVal) (x17:List AVal) (x18:Int) (x19:List AVal) (x20:List AVal) (x21:List AVal) (x22:Int) (x23:List AVal) (x24:Int) (x25:Int) (x26:List AVal) (x27:List AVal) (x28:List AVal) (x29:List AVal) (x30:List AVal):Option (Bool×Int×Int×List AVal×Int×Int×List AVal×List AVal×Int×List AVal×ByteArray×Int×Int×List AVal×List AVal×Int×List AVal×List AVal×List AVal×Int×List AVal×Int×Int×List AVal×List AVal×List AVal×List AVal×List AVal):=LpV ctx fn34 5 1 Xi_Shortest_1_1 Si_Shortest_1_1 (x0,x1,x2,x3,x4,x5,x6,x7,x8,x9,x10,x11,x12,x13,x14,x15,x16,x17,x18,x19,x20,x21,x22,x23,x24,x25,x26,x27,x28,x29,x30)
def Xi_Shortest_1_2:List Ex:=[{ out:=.exit 4,st:={ env:=[(1,.ptr 2000001 [] none),(2,.ptr 2000002 [] none),(3,.ptr 2000003 [] none),(5,.bool),(8,.int .i64),(13,.ref 13 []),(14,.bool),(18,.ro false 5),(19,.int .i64),(20,.int .i64)],objs:=[(2000001,true,.ptr 2000004 [] none),(2000002,true,.own 1),(2000003,true,.own 1),(13,false,.own 1),(2000000,true,.agg [.ro false 3,.ro false 1,.int .i64,.ro false 5]),(2000004,true,.agg [.ro false 3,.ro false 1,.int .i64,.ro false 5,.int .i64,.int .i64,.own 1,.own 1,.own 1,.own 1,.own 1])] } }]
def Si_Shortest_1_2:SP:={ env:=[(1,.ptr 2000001 [] none),(2,.ptr 2000002 [] none),(3,.ptr 2000003 [] none),(5,.bool),(8,.int .i64),(13,.ref 13 []),(14,.bool),(18,.ro false 5),(19,.int .i64),(20,.int .i64),(68,.ro false 1),(69,.int .i64),(70,.int .i64)],objs:=[(2000001,true,.ptr 2000004 [] none),(2000002,true,.own 1),(2000003,true,.own 1),(13,false,.own 1),(2000000,true,.agg [.ro false 3,.ro false 1,.int .i64,.ro false 5]),(2000004,true,.agg [.ro false 3,.ro false 1,.int .i64,.ro false 5,.int .i64,.int .i64,.own 1,.own 1,.own 1,.own 1,.own 1])] }
noncomputable def Li_Shortest_1_2 (x0:Bool) (x1:Int) (x2:Bool) (x3:List AVal) (x4:Int) (x5:Int) (x6:List AVal) (x7:Int) (x8:Int) (x9:List AVal) (x10:List AVal) (x11:List AVal) (x12:List AVal) (x13:List AVal) (x14:Int) (x15:List AVal) (x16:List AVal) (x17:List AVal) (x18:Int) (x19:List AVal) (x20:Int) (x21:Int) (x22:List AVal) (x23:List AVal) (x24:List AVal) (x25:List AVal) (x26:List AVal):Option (Bool×Int×Bool×List AVal×Int×Int×List AVal×List AVal×List AVal×List AVal×List AVal×Int×List AVal×List AVal×List AVal×Int×List AVal×Int×Int×List AVal×List AVal×List AVal×List AVal×List AVal):=LpV ctx fn34 5 2 Xi_Shortest_1_2 Si_Shortest_1_2 (x0,x1,x2,x3,x4,x5,x6,x7,x8,x9,x10,x11,x12,x13,x14,x15,x16,x17,x18,x19,x20,x21,x22,x23,x24,x25,x26)
def lsi_Shortest_1:List LSig:=[{ h:=0,X:=Xi_Shortest_1_0,Ss:=[Si_Shortest_1_0] },{ h:=1,X:=Xi_Shortest_1_1,Ss:=[Si_Shortest_1_1] },{ h:=2,X:=Xi_Shortest_1_2,Ss:=[Si_Shortest_1_2] }]
noncomputable def Fl_eqTerm (x0:ByteArray) (x1:Int) (x2:Int) (x3:ByteArray) (x4:Int) (x5:Int):Option (Bool):=FnV ctx 73 sgl_eqTerm (x0,x1,x2,x3,x4,x5)
def lsl_eqTerm:List LSig:=[]
noncomputable def Fl_eqProd (x0:Int) (x1:List AVal) (x2:ByteArray) (x3:Int) (x4:Int) (x5:Int) (x6:List AVal) (x7:ByteArray) (x8:Int) (x9:Int):Option (Bool):=FnV ctx 74 sgl_eqProd (x0,x1,x2,x3,x4,x5,x6,x7,x8,x9)
def lsl_eqProd:List LSig:=[]
noncomputable def Fl_markText (x0:Int):Option (ByteArray):=FnV ctx 75 sgl_markText x0
def Xl_markText_0:List Ex:=[{ out:=.exit 0,st:={ env:=[(3,.str)] } }]
def Sl_markText_0:SP:={ env:=[(0,.int .i64),(3,.str)] }
noncomputable def Ll_markText_0 (x0:Int) (x1:ByteArray):Option (ByteArray):=LpV ctx fn75 0 0 Xl_markText_0 Sl_markText_0 (x0,x1)
def lsl_markText:List LSig:=[{ h:=0,X:=Xl_markText_0,Ss:=[Sl_markText_0] }]
noncomputable def Fl_szIntS (x0:List AVal) (x1:Int):Option (Int):=FnV ctx 81 sgl_szIntS (x0,x1)
def lsl_szIntS:List LSig:=[]
noncomputable def Fl_toIntS (x0:List AVal):Option (List AVal):=FnV ctx 84 sgl_toIntS x0
def Xl_toIntS_0:List Ex:=[{ out:=.exit 0,st:={ env:=[(3,.ref 3 [])],objs:=[(3,false,.own 1)] } }]
def Sl_toIntS_0:SP:={ env:=[(0,.ro false 1),(3,.ref 3 []),(4,.int .i64)],objs:=[(3,false,.own 1)] }
noncomputable def Ll_toIntS_0 (x0:List AVal) (x1:Int) (x2:List AVal):Option (List AVal):=LpV ctx fn84 0 0 Xl_toIntS_0 Sl_toIntS_0 (x0,x1,x2)
def lsl_toIntS:List LSig:=[{ h:=0,X:=Xl_toIntS_0,Ss:=[Sl_toIntS_0] }]
noncomputable def Fs_l01Letter (x0:Int):Option (Bool):=FnV ctx 82 sgs_l01Letter x0
def lss_l01Letter:List LSig:=[]
noncomputable def Fs_l01NameByte (x0:Int):Option (Bool):=FnV ctx 83 sgs_l01NameByte x0
def lss_l01NameByte:List LSig:=[]
noncomputable def Fi_isLetter (x0:Int):Option (Bool):=FnV ctx 85 sgi_isLetter x0
def lsi_isLetter:List LSig:=[]
noncomputable def Fi_inName (x0:Int):Option (Bool):=FnV ctx 86 sgi_inName x0
def lsi_inName:List LSig:=[]
noncomputable def Fi_factsOf_1 (x0:List AVal) (x1:List AVal) (x2:Int) (x3:List AVal) (x4:List AVal) (x5:List AVal) (x6:Int) (x7:List AVal) (x8:Int) (x9:Int) (x10:List AVal) (x11:List AVal) (x12:List AVal) (x13:List AVal) (x14:List AVal):Option (Bool×List AVal×List AVal×Int×List AVal×List AVal×List AVal×Int×List AVal×Int×Int×List AVal×List AVal×List AVal×List AVal×List AVal):=FnV ctx 68 sgi_factsOf_1 (x0,x1,x2,x3,x4,x5,x6,x7,x8,x9,x10,x11,x12,x13,x14)
def Xi_factsOf_1_0:List Ex:=[{ out:=.exit 0,st:={ env:=[(3,.bool)],objs:=[(2000000,true,.agg [.ro false 3,.ro false 1,.int .i64,.ro false 5]),(2000001,true,.ptr 2000002 [] none),(2000002,true,.agg [.ro false 3,.ro false 1,.int .i64,.ro false 5,.int .i64,.int .i64,.own 1,.own 1,.own 1,.own 1,.own 1])] } }]
def Si_factsOf_1_0:SP:={ env:=[(1,.ptr 2000001 [] none),(3,.bool),(13,.ro false 5),(14,.int .i64),(15,.int .i64)],objs:=[(2000001,true,.ptr 2000002 [] none),(2000000,true,.agg [.ro false 3,.ro false 1,.int .i64,.ro false 5]),(2000002,true,.agg [.ro false 3,.ro false 1,.int .i64,.ro false 5,.int .i64,.int .i64,.own 1,.own 1,.own 1,.own 1,.own 1])] }
noncomputable def Li_factsOf_1_0 (x0:Bool) (x1:List AVal) (x2:Int) (x3:Int) (x4:List AVal) (x5:List AVal) (x6:Int) (x7:List AVal) (x8:List AVal) (x9:List AVal) (x10:Int) (x11:List AVal) (x12:Int) (x13:Int) (x14:List AVal) (x15:List AVal) (x16:List AVal) (x17:List AVal) (x18:List AVal):Option (Bool×List AVal×List AVal×Int×List AVal×List AVal×List AVal×Int×List AVal×Int×Int×List AVal×List AVal×List AVal×List AVal×List AVal):=LpV ctx fn68 3 0 Xi_factsOf_1_0 Si_factsOf_1_0 (x0,x1,x2,x3,x4,x5,x6,x7,x8,x9,x10,x11,x12,x13,x14,x15,x16,x17,x18)
def Xi_factsOf_1_1:List Ex:=[{ out:=.exit 2,st:={ env:=[(1,.ptr 2000001 [] none),(3,.bool),(6,.int .i64),(7,.int .i64),(8,.bool),(13,.ro false 5),(14,.int .i64),(15,.int .i64)],objs:=[(2000001,true,.ptr 2000002 [] none),(2000000,true,.agg [.ro false 3,.ro false 1,.int .i64,.ro false 5]),(2000002,true,.agg [.ro false 3,.ro false 1,.int .i64,.ro false 5,.int .i64,.int .i64,.own 1,.own 1,.own 1,.own 1,.own 1])] } }]
def Si_factsOf_1_1:SP:={ env:=[(1,.ptr 2000001 [] none),(3,.bool),(6,.int .i64),(7,.int .i64),(8,.bool),(13,.ro false 5),(14,.int .i64),(15,.int .i64),(27,.ro false 1),(28,.int .i64),(29,.int .i64)],objs:=[(2000001,true,.ptr 2000002 [] none),(2000000,true,.agg [.ro false 3,.ro false 1,.int .i64,.ro false 5]),(2000002,true,.agg [.ro false 3,.ro false 1,.int .i64,.ro false 5,.int .i64,.int .i64,.own 1,.own 1,.own 1,.own 1,.own 1])] }
noncomputable def Li_factsOf_1_1 (x0:Bool) (x1:Int) (x2:Int) (x3:Bool) (x4:List AVal) (x5:Int) (x6:Int) (x7:List AVal) (x8:Int) (x9:Int) (x10:List AVal) (x11:List AVal) (x12:Int) (x13:List AVal) (x14:List AVal) (x15:List AVal) (x16:Int) (x17:List AVal) (x18:Int) (x19:Int) (x20:List AVal) (x21:List AVal) (x22:List AVal) (x23:List AVal) (x24:List AVal):Option (Bool×Int×Int×Bool×List AVal×Int×Int×List AVal×List AVal×Int×List AVal×List AVal×List AVal×Int×List AVal×Int×Int×List AVal×List AVal×List AVal×List AVal×List AVal):=LpV ctx fn68 3 1 Xi_factsOf_1_1 Si_factsOf_1_1 (x0,x1,x2,x3,x4,x5,x6,x7,x8,x9,x10,x11,x12,x13,x14,x15,x16,x17,x18,x19,x20,x21,x22,x23,x24)
def lsi_factsOf_1:List LSig:=[{ h:=0,X:=Xi_factsOf_1_0,Ss:=[Si_factsOf_1_0] },{ h:=1,X:=Xi_factsOf_1_1,Ss:=[Si_factsOf_1_1] }]
noncomputable def Fi_factsOf_2 (x0:List AVal) (x1:List AVal) (x2:Int) (x3:List AVal) (x4:List AVal) (x5:List AVal) (x6:Int) (x7:List AVal) (x8:Int) (x9:Int) (x10:List AVal) (x11:List AVal) (x12:List AVal) (x13:List AVal) (x14:List AVal):Option (Bool×List AVal×List AVal×Int×List AVal×List AVal×List AVal×Int×List AVal×Int×Int×List AVal×List AVal×List AVal×List AVal×List AVal):=FnV ctx 69 sgi_factsOf_2 (x0,x1,x2,x3,x4,x5,x6,x7,x8,x9,x10,x11,x12,x13,x14)
def Xi_factsOf_2_0:List Ex:=[{ out:=.exit 0,st:={ env:=[(3,.bool)],objs:=[(2000000,true,.agg [.ro false 3,.ro false 1,.int .i64,.ro false 5]),(2000001,true,.ptr 2000002 [] none),(2000002,true,.agg [.ro false 3,.ro false 1,.int .i64,.ro false 5,.int .i64,.int .i64,.own 1,.own 1,.own 1,.own 1,.own 1])] } }]
def Si_factsOf_2_0:SP:={ env:=[(1,.ptr 2000001 [] none),(3,.bool),(7,.ro false 5),(8,.int .i64),(9,.int .i64)],objs:=[(2000001,true,.ptr 2000002 [] none),(2000000,true,.agg [.ro false 3,.ro false 1,.int .i64,.ro false 5]),(2000002,true,.agg [.ro false 3,.ro false 1,.int .i64,.ro false 5,.int .i64,.int .i64,.own 1,.own 1,.own 1,.own 1,.own 1])] }
noncomputable def Li_factsOf_2_0 (x0:Bool) (x1:List AVal) (x2:Int) (x3:Int) (x4:List AVal) (x5:List AVal) (x6:Int) (x7:List AVal) (x8:List AVal) (x9:List AVal) (x10:Int) (x11:List AVal) (x12:Int) (x13:Int) (x14:List AVal) (x15:List AVal) (x16:List AVal) (x17:List AVal) (x18:List AVal):Option (Bool×List AVal×List AVal×Int×List AVal×List AVal×List AVal×Int×List AVal×Int×Int×List AVal×List AVal×List AVal×List AVal×List AVal):=LpV ctx fn69 3 0 Xi_factsOf_2_0 Si_factsOf_2_0 (x0,x1,x2,x3,x4,x5,x6,x7,x8,x9,x10,x11,x12,x13,x14,x15,x16,x17,x18)
def lsi_factsOf_2:List LSig:=[{ h:=0,X:=Xi_factsOf_2_0,Ss:=[Si_factsOf_2_0] }]
noncomputable def Fi_facts_length (x0:AVal) (x1:Int):Option (Int):=FnV ctx 35 sgi_facts_length (x0,x1)
def lsi_facts_length:List LSig:=[]
noncomputable def Fslices_Compare_int_int (x0:List AVal) (x1:List AVal):Option (Int):=FnV ctx 36 sgslices_Compare_int_int (x0,x1)
def Xslices_Compare_int_int_0:List Ex:=[{ out:=.ret,st:={ env:=[(4,.int .i64)] } },{ out:=.exit 0,st:={ env:=[(0,.ro false 1),(1,.ro false 1)] } }]
def Sslices_Compare_int_int_0:SP:={ env:=[(0,.ro false 1),(1,.ro false 1),(9,.ro false 1),(10,.int .i64),(11,.int .i64)] }
noncomputable def Lslices_Compare_int_int_0 (x0:List AVal) (x1:List AVal) (x2:List AVal) (x3:Int) (x4:Int):Option ((Int) ⊕ (List AVal×List AVal)):=LpV ctx fn36 0 0 Xslices_Compare_int_int_0 Sslices_Compare_int_int_0 (x0,x1,x2,x3,x4)
def lsslices_Compare_int_int:List LSig:=[{ h:=0,X:=Xslices_Compare_int_int_0,Ss:=[Sslices_Compare_int_int_0] }]
noncomputable def Fs_l01Digit (x0:Int):Option (Bool):=FnV ctx 90 sgs_l01Digit x0
def lss_l01Digit:List LSig:=[]
noncomputable def Fi_isDigit (x0:Int):Option (Bool):=FnV ctx 91 sgi_isDigit x0
def lsi_isDigit:List LSig:=[]
noncomputable def Fi_facts_firstOf (x0:AVal) (x1:List AVal):Option (List AVal):=FnV ctx 71 sgi_facts_firstOf (x0,x1)
def Xi_facts_firstOf_0:List Ex:=[{ out:=.exit 0,st:={ env:=[(5,.ref 5 [])],objs:=[(5,false,.own 1)] } }]
def Si_facts_firstOf_0:SP:={ env:=[(0,.rop none),(5,.ref 5 []),(13,.ro false 1),(14,.int .i64),(15,.int .i64)],objs:=[(5,false,.own 1)] }
noncomputable def Li_facts_firstOf_0 (x0:AVal) (x1:List AVal) (x2:Int) (x3:Int) (x4:List AVal):Option (List AVal):=LpV ctx fn71 0 0 Xi_facts_firstOf_0 Si_facts_firstOf_0 (x0,x1,x2,x3,x4)
def lsi_facts_firstOf:List LSig:=[{ h:=0,X:=Xi_facts_firstOf_0,Ss:=[Si_facts_firstOf_0] }]
noncomputable def Fi_merge (x0:List AVal) (x1:List AVal):Option (Bool×List AVal):=FnV ctx 70 sgi_merge (x0,x1)
def Xi_merge_0:List Ex:=[{ out:=.exit 0,st:={ env:=[(5,.bool)],objs:=[(2000000,false,.own 1)] } }]
def Si_merge_0:SP:={ env:=[(0,.ref 2000000 []),(5,.bool),(8,.ro false 1),(9,.int .i64),(10,.int .i64)],objs:=[(2000000,false,.own 1)] }
noncomputable def Li_merge_0 (x0:Bool) (x1:List AVal) (x2:Int) (x3:Int) (x4:List AVal):Option (Bool×List AVal):=LpV ctx fn70 1 0 Xi_merge_0 Si_merge_0 (x0,x1,x2,x3,x4)
def lsi_merge:List LSig:=[{ h:=0,X:=Xi_merge_0,Ss:=[Si_merge_0] }]
noncomputable def Fcmp_Compare_int (x0:Int) (x1:Int):Option (Int):=FnV ctx 72 sgcmp_Compare_int (x0,x1)
def lscmp_Compare_int:List LSig:=[]
noncomputable def Fcmp_isNaN_int (x0:Int):Option (Bool):=FnV ctx 87 sgcmp_isNaN_int x0
def lscmp_isNaN_int:List LSig:=[]
end Go.Proofs.Ytgoaegbddpmiiaa
