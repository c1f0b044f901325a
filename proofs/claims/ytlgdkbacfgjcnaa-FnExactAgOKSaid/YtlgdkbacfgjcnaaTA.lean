/- What the functions of the laws are given and give back, and their names on values; no condition. -/
import Derived.Test.YtlgdkbacfgjcnaaVmd
import Derived.Test.YtlgdkbacfgjcnaaVC
import Derived.Tactics
namespace Go.Proofs.Ytlgdkbacfgjcnaa
open Go.VK AVal

abbrev ty_int64 : Nat := 2
abbrev ty_int : Nat := 3
abbrev ty_bool : Nat := 4
abbrev ty_uint8 : Nat := 5
abbrev ty_abi_BoundsErrorCode : Nat := 6
abbrev ty_runtime_boundsError : Nat := 8
abbrev ty_string : Nat := 9
abbrev ty_runtime_errorString : Nat := 10
abbrev ty_runtime_plainError : Nat := 11
abbrev ty_uintptr : Nat := 12
abbrev ty_runtime_errorAddressString : Nat := 14
abbrev ty_P_runtime_TypeAssertionError : Nat := 15
abbrev ty_P_runtime_PanicNilError : Nat := 16
abbrev ty_P_abi_Type : Nat := 17
abbrev ty_maps_unhashableTypeError : Nat := 19
abbrev ty_int32 : Nat := 21
abbrev ty_S_laws_Tree : Nat := 22
abbrev ty_laws_Tree : Nat := 24
abbrev ty_S_S_int : Nat := 29
abbrev ty_S_laws_Term : Nat := 46
abbrev ty_S_string : Nat := 47
abbrev ty_S_laws_Prod : Nat := 48
abbrev ty_laws_Bnf : Nat := 50
abbrev ty_S_laws_Attr : Nat := 51
abbrev ty_S_laws_Eq : Nat := 52
abbrev ty_laws_Ag : Nat := 54
abbrev ty_S_laws_RwRule : Nat := 74
abbrev ty_S_int : Nat := 87
abbrev ty_map_2_int_int : Nat := 101
abbrev ty_laws_RwRule : Nat := 158
abbrev ty_P_int : Nat := 179
abbrev ty_laws_Term : Nat := 195
abbrev ty_laws_Prod : Nat := 197
abbrev ty_laws_Attr : Nat := 199
abbrev ty_S_laws_Ref : Nat := 201
abbrev ty_laws_Eq : Nat := 203
abbrev ty_map_string_int : Nat := 212
abbrev ty_S_S_bool : Nat := 243
abbrev ty_S_bool : Nat := 244
abbrev ty_S_uint8 : Nat := 246
abbrev ty_laws_Ref : Nat := 265
abbrev ty_runtime_TypeAssertionError : Nat := 278
abbrev ty_uint32 : Nat := 282
abbrev ty_abi_TFlag : Nat := 283
abbrev ty_abi_Kind : Nat := 284
abbrev ty_P_uint8 : Nat := 286
abbrev ty_abi_NameOff : Nat := 287
abbrev ty_abi_TypeOff : Nat := 288
abbrev ty_abi_Type : Nat := 290
abbrev n_l_FnExactMerge : Nat := 3
abbrev n_l_FnExactDiff : Nat := 4
abbrev n_l_FnExactAgOK : Nat := 5
abbrev n_l_FnExactRxOK : Nat := 6
abbrev n_l_FnExactPlanOK : Nat := 7
/-- laws.FnExactAgOK -/
def sgl_FnExactAgOK : Sig := { i := { vs := [.agg [.ro false 3, .ro false 1, .int .i64, .ro false 5], .agg [.ro false 3, .ro false 5]] }, o := { vs := [.bool] } }
/-- laws.szBnf -/
def sgl_szBnf : Sig := { i := { vs := [.agg [.ro false 3, .ro false 1, .int .i64, .ro false 5], .int .i64] }, o := { vs := [.int .i64] } }
/-- laws.szAg -/
def sgl_szAg : Sig := { i := { vs := [.agg [.ro false 3, .ro false 5], .int .i64] }, o := { vs := [.int .i64] } }
/-- laws.toBnf -/
def sgl_toBnf : Sig := { i := { vs := [.agg [.ro false 3, .ro false 1, .int .i64, .ro false 5]] }, o := { vs := [.agg [.own 3, .own 1, .int .i64, .own 5]] } }
/-- laws.toAg -/
def sgl_toAg : Sig := { i := { vs := [.agg [.ro false 3, .ro false 5]] }, o := { vs := [.agg [.own 3, .own 5]] } }
/-- spec.AgOK -/
def sgs_AgOK : Sig := { i := { vs := [.agg [.ro false 3, .ro false 1, .int .i64, .ro false 5], .agg [.ro false 3, .ro false 5]] }, o := { vs := [.bool] } }
/-- impl.AgOK -/
def sgi_AgOK : Sig := { i := { vs := [.agg [.ro false 3, .ro false 1, .int .i64, .ro false 5], .agg [.ro false 3, .ro false 5]] }, o := { vs := [.bool] } }
/-- laws.eqBnf -/
def sgl_eqBnf : Sig := { i := { vs := [.agg [.ro false 3, .ro false 1, .int .i64, .ro false 5], .agg [.ro false 3, .ro false 1, .int .i64, .ro false 5]] }, o := { vs := [.bool] } }
/-- laws.eqAg -/
def sgl_eqAg : Sig := { i := { vs := [.agg [.ro false 3, .ro false 5], .agg [.ro false 3, .ro false 5]] }, o := { vs := [.bool] } }
/-- laws.szTermS -/
def sgl_szTermS : Sig := { i := { vs := [.ro false 3, .int .i64] }, o := { vs := [.int .i64] } }
/-- laws.szStringS -/
def sgl_szStringS : Sig := { i := { vs := [.ro false 1, .int .i64] }, o := { vs := [.int .i64] } }
/-- laws.szProdS -/
def sgl_szProdS : Sig := { i := { vs := [.ro false 5, .int .i64] }, o := { vs := [.int .i64] } }
/-- laws.szAttrS -/
def sgl_szAttrS : Sig := { i := { vs := [.ro false 3, .int .i64] }, o := { vs := [.int .i64] } }
/-- laws.szEqS -/
def sgl_szEqS : Sig := { i := { vs := [.ro false 5, .int .i64] }, o := { vs := [.int .i64] } }
/-- laws.toTermS -/
def sgl_toTermS : Sig := { i := { vs := [.ro false 3] }, o := { vs := [.own 3] } }
/-- laws.toStringS -/
def sgl_toStringS : Sig := { i := { vs := [.ro false 1] }, o := { vs := [.own 1] } }
/-- laws.toProdS -/
def sgl_toProdS : Sig := { i := { vs := [.ro false 5] }, o := { vs := [.own 5] } }
/-- laws.toAttrS -/
def sgl_toAttrS : Sig := { i := { vs := [.ro false 3] }, o := { vs := [.own 3] } }
/-- laws.toEqS -/
def sgl_toEqS : Sig := { i := { vs := [.ro false 5] }, o := { vs := [.own 5] } }
/-- spec.BnfOK -/
def sgs_BnfOK : Sig := { i := { vs := [.agg [.ro false 3, .ro false 1, .int .i64, .ro false 5]] }, o := { vs := [.bool] } }
/-- spec.l01Between -/
def sgs_l01Between : Sig := { i := { vs := [.int .i64, .int .i64, .int .i64] }, o := { vs := [.bool] } }
/-- spec.l01Name -/
def sgs_l01Name : Sig := { i := { vs := [.str] }, o := { vs := [.bool] } }
/-- spec.l10Has -/
def sgs_l10Has : Sig := { i := { vs := [.agg [.ro false 3, .ro false 1, .int .i64, .ro false 5], .agg [.ro false 3, .ro false 5], .int .i64, .int .i64, .int .i64] }, o := { vs := [.bool] } }
/-- spec.l10Args -/
def sgs_l10Args : Sig := { i := { vs := [.int .i64] }, o := { vs := [.int .i64] } }
/-- spec.l10ArgOK -/
def sgs_l10ArgOK : Sig := { i := { vs := [.agg [.ro false 3, .ro false 1, .int .i64, .ro false 5], .agg [.ro false 3, .ro false 5], .int .i64, .agg [.int .i64, .int .i64, .int .i64]] }, o := { vs := [.bool] } }
/-- spec.l10Eq -/
def sgs_l10Eq : Sig := { i := { vs := [.agg [.ro false 3, .ro false 5], .int .i64, .int .i64, .int .i64] }, o := { vs := [.int .i64, .int .i64] } }
/-- impl.BnfOK -/
def sgi_BnfOK : Sig := { i := { vs := [.agg [.ro false 3, .ro false 1, .int .i64, .ro false 5]] }, o := { vs := [.bool] } }
/-- impl.nameOK -/
def sgi_nameOK : Sig := { i := { vs := [.str] }, o := { vs := [.bool] } }
/-- impl.argsOf -/
def sgi_argsOf : Sig := { i := { vs := [.int .i64] }, o := { vs := [.int .i64] } }
/-- impl.nonAt -/
def sgi_nonAt : Sig := { i := { vs := [.agg [.ro false 3, .ro false 1, .int .i64, .ro false 5], .int .i64, .int .i64] }, o := { vs := [.int .i64, .bool, .bool] } }
/-- impl.refOK -/
def sgi_refOK : Sig := { i := { vs := [.agg [.ro false 3, .ro false 1, .int .i64, .ro false 5], .agg [.ro false 3, .ro false 5], .int .i64, .agg [.int .i64, .int .i64, .int .i64]] }, o := { vs := [.bool] } }
/-- laws.eqTermS -/
def sgl_eqTermS : Sig := { i := { vs := [.ro false 3, .ro false 3] }, o := { vs := [.bool] } }
/-- laws.eqStringS -/
def sgl_eqStringS : Sig := { i := { vs := [.ro false 1, .ro false 1] }, o := { vs := [.bool] } }
/-- laws.eqProdS -/
def sgl_eqProdS : Sig := { i := { vs := [.ro false 5, .ro false 5] }, o := { vs := [.bool] } }
/-- laws.eqAttrS -/
def sgl_eqAttrS : Sig := { i := { vs := [.ro false 3, .ro false 3] }, o := { vs := [.bool] } }
/-- laws.eqEqS -/
def sgl_eqEqS : Sig := { i := { vs := [.ro false 5, .ro false 5] }, o := { vs := [.bool] } }
/-- laws.szTerm -/
def sgl_szTerm : Sig := { i := { vs := [.agg [.str, .int .i64, .int .i64], .int .i64] }, o := { vs := [.int .i64] } }
/-- laws.szProd -/
def sgl_szProd : Sig := { i := { vs := [.agg [.int .i64, .ro false 1, .str, .int .i64, .int .i64], .int .i64] }, o := { vs := [.int .i64] } }
/-- laws.szAttr -/
def sgl_szAttr : Sig := { i := { vs := [.agg [.int .i64, .str, .bool], .int .i64] }, o := { vs := [.int .i64] } }
/-- laws.szEq -/
def sgl_szEq : Sig := { i := { vs := [.agg [.int .i64, .int .i64, .int .i64, .int .i64, .ro false 3], .int .i64] }, o := { vs := [.int .i64] } }
/-- laws.toTerm -/
def sgl_toTerm : Sig := { i := { vs := [.agg [.str, .int .i64, .int .i64]] }, o := { vs := [.agg [.str, .int .i64, .int .i64]] } }
/-- laws.toProd -/
def sgl_toProd : Sig := { i := { vs := [.agg [.int .i64, .ro false 1, .str, .int .i64, .int .i64]] }, o := { vs := [.agg [.int .i64, .own 1, .str, .int .i64, .int .i64]] } }
/-- laws.toAttr -/
def sgl_toAttr : Sig := { i := { vs := [.agg [.int .i64, .str, .bool]] }, o := { vs := [.agg [.int .i64, .str, .bool]] } }
/-- laws.toEq -/
def sgl_toEq : Sig := { i := { vs := [.agg [.int .i64, .int .i64, .int .i64, .int .i64, .ro false 3]] }, o := { vs := [.agg [.int .i64, .int .i64, .int .i64, .int .i64, .own 3]] } }
/-- spec.l04Strength -/
def sgs_l04Strength : Sig := { i := { vs := [.int .i64, .int .i64] }, o := { vs := [.bool] } }
/-- spec.l03At -/
def sgs_l03At : Sig := { i := { vs := [.ro false 1, .str] }, o := { vs := [.int .i64] } }
/-- spec.l01Letter -/
def sgs_l01Letter : Sig := { i := { vs := [.int .u8] }, o := { vs := [.bool] } }
/-- spec.l01NameByte -/
def sgs_l01NameByte : Sig := { i := { vs := [.int .u8] }, o := { vs := [.bool] } }
/-- spec.l10Sym -/
def sgs_l10Sym : Sig := { i := { vs := [.agg [.ro false 3, .ro false 1, .int .i64, .ro false 5], .int .i64, .int .i64] }, o := { vs := [.int .i64] } }
/-- impl.levelOK -/
def sgi_levelOK : Sig := { i := { vs := [.int .i64, .int .i64] }, o := { vs := [.bool] } }
/-- impl.isLetter -/
def sgi_isLetter : Sig := { i := { vs := [.int .u8] }, o := { vs := [.bool] } }
/-- impl.inName -/
def sgi_inName : Sig := { i := { vs := [.int .u8] }, o := { vs := [.bool] } }
/-- impl.within -/
def sgi_within : Sig := { i := { vs := [.int .i64, .int .i64] }, o := { vs := [.bool] } }
/-- laws.eqTerm -/
def sgl_eqTerm : Sig := { i := { vs := [.agg [.str, .int .i64, .int .i64], .agg [.str, .int .i64, .int .i64]] }, o := { vs := [.bool] } }
/-- laws.eqProd -/
def sgl_eqProd : Sig := { i := { vs := [.agg [.int .i64, .ro false 1, .str, .int .i64, .int .i64], .agg [.int .i64, .ro false 1, .str, .int .i64, .int .i64]] }, o := { vs := [.bool] } }
/-- laws.eqAttr -/
def sgl_eqAttr : Sig := { i := { vs := [.agg [.int .i64, .str, .bool], .agg [.int .i64, .str, .bool]] }, o := { vs := [.bool] } }
/-- laws.eqEq -/
def sgl_eqEq : Sig := { i := { vs := [.agg [.int .i64, .int .i64, .int .i64, .int .i64, .ro false 3], .agg [.int .i64, .int .i64, .int .i64, .int .i64, .ro false 3]] }, o := { vs := [.bool] } }
/-- laws.szIntS -/
def sgl_szIntS : Sig := { i := { vs := [.ro false 1, .int .i64] }, o := { vs := [.int .i64] } }
/-- laws.szRefS -/
def sgl_szRefS : Sig := { i := { vs := [.ro false 3, .int .i64] }, o := { vs := [.int .i64] } }
/-- laws.toIntS -/
def sgl_toIntS : Sig := { i := { vs := [.ro false 1] }, o := { vs := [.own 1] } }
/-- laws.toRefS -/
def sgl_toRefS : Sig := { i := { vs := [.ro false 3] }, o := { vs := [.own 3] } }
/-- spec.l01Digit -/
def sgs_l01Digit : Sig := { i := { vs := [.int .u8] }, o := { vs := [.bool] } }
/-- impl.isDigit -/
def sgi_isDigit : Sig := { i := { vs := [.int .u8] }, o := { vs := [.bool] } }
/-- laws.eqIntS -/
def sgl_eqIntS : Sig := { i := { vs := [.ro false 1, .ro false 1] }, o := { vs := [.bool] } }
/-- laws.eqRefS -/
def sgl_eqRefS : Sig := { i := { vs := [.ro false 3, .ro false 3] }, o := { vs := [.bool] } }
/-- laws.toRef -/
def sgl_toRef : Sig := { i := { vs := [.agg [.int .i64, .int .i64, .int .i64]] }, o := { vs := [.agg [.int .i64, .int .i64, .int .i64]] } }
/-- laws.eqRef -/
def sgl_eqRef : Sig := { i := { vs := [.agg [.int .i64, .int .i64, .int .i64], .agg [.int .i64, .int .i64, .int .i64]] }, o := { vs := [.bool] } }
def sigs : List (Nat × Sig) := [(5, sgl_FnExactAgOK), (23, sgl_szBnf), (24, sgl_szAg), (26, sgl_toBnf), (27, sgl_toAg), (25, sgs_AgOK), (28, sgi_AgOK), (29, sgl_eqBnf), (30, sgl_eqAg), (60, sgl_szTermS), (61, sgl_szStringS), (62, sgl_szProdS), (63, sgl_szAttrS), (64, sgl_szEqS), (72, sgl_toTermS), (73, sgl_toStringS), (74, sgl_toProdS), (75, sgl_toAttrS), (76, sgl_toEqS), (65, sgs_BnfOK), (66, sgs_l01Between), (67, sgs_l01Name), (68, sgs_l10Has), (69, sgs_l10Args), (70, sgs_l10ArgOK), (71, sgs_l10Eq), (77, sgi_BnfOK), (78, sgi_nameOK), (79, sgi_argsOf), (80, sgi_nonAt), (81, sgi_refOK), (82, sgl_eqTermS), (83, sgl_eqStringS), (84, sgl_eqProdS), (85, sgl_eqAttrS), (86, sgl_eqEqS), (116, sgl_szTerm), (117, sgl_szProd), (118, sgl_szAttr), (119, sgl_szEq), (125, sgl_toTerm), (126, sgl_toProd), (127, sgl_toAttr), (128, sgl_toEq), (120, sgs_l04Strength), (121, sgs_l03At), (122, sgs_l01Letter), (123, sgs_l01NameByte), (124, sgs_l10Sym), (129, sgi_levelOK), (130, sgi_isLetter), (131, sgi_inName), (132, sgi_within), (133, sgl_eqTerm), (134, sgl_eqProd), (135, sgl_eqAttr), (136, sgl_eqEq), (162, sgl_szIntS), (163, sgl_szRefS), (165, sgl_toIntS), (166, sgl_toRefS), (164, sgs_l01Digit), (167, sgi_isDigit), (47, sgl_eqIntS), (168, sgl_eqRefS), (180, sgl_toRef), (181, sgl_eqRef)]
noncomputable def Fl_FnExactAgOK (x0 : List AVal) (x1 : List AVal) (x2 : Int) (x3 : List AVal) (x4 : List AVal) (x5 : List AVal) : Option (Bool) := FnV ctx 5 sgl_FnExactAgOK (x0, x1, x2, x3, x4, x5)
def lsl_FnExactAgOK : List LSig := []
noncomputable def Fl_szBnf (x0 : List AVal) (x1 : List AVal) (x2 : Int) (x3 : List AVal) (x4 : Int) : Option (Int) := FnV ctx 23 sgl_szBnf (x0, x1, x2, x3, x4)
def lsl_szBnf : List LSig := []
noncomputable def Fl_szAg (x0 : List AVal) (x1 : List AVal) (x2 : Int) : Option (Int) := FnV ctx 24 sgl_szAg (x0, x1, x2)
def lsl_szAg : List LSig := []
noncomputable def Fl_toBnf (x0 : List AVal) (x1 : List AVal) (x2 : Int) (x3 : List AVal) : Option (List AVal × List AVal × Int × List AVal) := FnV ctx 26 sgl_toBnf (x0, x1, x2, x3)
def lsl_toBnf : List LSig := []
noncomputable def Fl_toAg (x0 : List AVal) (x1 : List AVal) : Option (List AVal × List AVal) := FnV ctx 27 sgl_toAg (x0, x1)
def lsl_toAg : List LSig := []
noncomputable def Fs_AgOK (x0 : List AVal) (x1 : List AVal) (x2 : Int) (x3 : List AVal) (x4 : List AVal) (x5 : List AVal) : Option (Bool) := FnV ctx 25 sgs_AgOK (x0, x1, x2, x3, x4, x5)
def Xs_AgOK_0 : List Ex := [{ out := .ret, st := { env := [(4, .bool)] } }, { out := .exit 0, st := { env := [(2, .ptr 2 [] none), (3, .ptr 3 [] none)], objs := [(2, true, .agg [.ro false 3, .ro false 1, .int .i64, .ro false 5]), (3, true, .agg [.ro false 3, .ro false 5])] } }]
def Ss_AgOK_0 : SP := { env := [(2, .ptr 2 [] none), (3, .ptr 3 [] none), (5, .int .i64)], objs := [(2, true, .agg [.ro false 3, .ro false 1, .int .i64, .ro false 5]), (3, true, .agg [.ro false 3, .ro false 5])] }
noncomputable def Ls_AgOK_0 (x0 : Int) (x1 : List AVal) (x2 : List AVal) (x3 : Int) (x4 : List AVal) (x5 : List AVal) (x6 : List AVal) : Option ((Bool) ⊕ (List AVal × List AVal × Int × List AVal × List AVal × List AVal)) := LpV ctx fn25 0 0 Xs_AgOK_0 Ss_AgOK_0 (x0, x1, x2, x3, x4, x5, x6)
def Xs_AgOK_1 : List Ex := [{ out := .ret, st := { env := [(4, .bool)] } }, { out := .exit 2, st := { env := [(2, .ptr 2 [] none), (3, .ptr 3 [] none), (5, .int .i64)], objs := [(2, true, .agg [.ro false 3, .ro false 1, .int .i64, .ro false 5]), (3, true, .agg [.ro false 3, .ro false 5])] } }]
def Ss_AgOK_1 : SP := { env := [(2, .ptr 2 [] none), (3, .ptr 3 [] none), (5, .int .i64), (6, .ptr 6 [] none), (7, .int .i64)], objs := [(2, true, .agg [.ro false 3, .ro false 1, .int .i64, .ro false 5]), (3, true, .agg [.ro false 3, .ro false 5]), (6, true, .agg [.int .i64, .str, .bool])] }
noncomputable def Ls_AgOK_1 (x0 : Int) (x1 : Int) (x2 : List AVal) (x3 : List AVal) (x4 : Int) (x5 : List AVal) (x6 : List AVal) (x7 : List AVal) (x8 : Int) (x9 : ByteArray) (x10 : Bool) : Option ((Bool) ⊕ (Int × List AVal × List AVal × Int × List AVal × List AVal × List AVal)) := LpV ctx fn25 0 1 Xs_AgOK_1 Ss_AgOK_1 (x0, x1, x2, x3, x4, x5, x6, x7, x8, x9, x10)
def Xs_AgOK_2 : List Ex := [{ out := .ret, st := { env := [(4, .bool)] } }, { out := .exit 4, st := { env := [(2, .ptr 2 [] none), (3, .ptr 3 [] none)], objs := [(2, true, .agg [.ro false 3, .ro false 1, .int .i64, .ro false 5]), (3, true, .agg [.ro false 3, .ro false 5])] } }]
def Ss_AgOK_2 : SP := { env := [(2, .ptr 2 [] none), (3, .ptr 3 [] none), (8, .int .i64)], objs := [(2, true, .agg [.ro false 3, .ro false 1, .int .i64, .ro false 5]), (3, true, .agg [.ro false 3, .ro false 5])] }
noncomputable def Ls_AgOK_2 (x0 : Int) (x1 : List AVal) (x2 : List AVal) (x3 : Int) (x4 : List AVal) (x5 : List AVal) (x6 : List AVal) : Option ((Bool) ⊕ (List AVal × List AVal × Int × List AVal × List AVal × List AVal)) := LpV ctx fn25 0 2 Xs_AgOK_2 Ss_AgOK_2 (x0, x1, x2, x3, x4, x5, x6)
def Xs_AgOK_3 : List Ex := [{ out := .ret, st := { env := [(4, .bool)] } }, { out := .exit 6, st := { env := [(2, .ptr 2 [] none), (3, .ptr 3 [] none), (8, .int .i64)], objs := [(2, true, .agg [.ro false 3, .ro false 1, .int .i64, .ro false 5]), (3, true, .agg [.ro false 3, .ro false 5])] } }]
def Ss_AgOK_3 : SP := { env := [(2, .ptr 2 [] none), (3, .ptr 3 [] none), (8, .int .i64), (9, .ptr 9 [] none), (10, .int .i64)], objs := [(2, true, .agg [.ro false 3, .ro false 1, .int .i64, .ro false 5]), (3, true, .agg [.ro false 3, .ro false 5]), (9, true, .agg [.int .i64, .int .i64, .int .i64, .int .i64, .ro false 3])] }
noncomputable def Ls_AgOK_3 (x0 : Int) (x1 : Int) (x2 : List AVal) (x3 : List AVal) (x4 : Int) (x5 : List AVal) (x6 : List AVal) (x7 : List AVal) (x8 : Int) (x9 : Int) (x10 : Int) (x11 : Int) (x12 : List AVal) : Option ((Bool) ⊕ (Int × List AVal × List AVal × Int × List AVal × List AVal × List AVal)) := LpV ctx fn25 0 3 Xs_AgOK_3 Ss_AgOK_3 (x0, x1, x2, x3, x4, x5, x6, x7, x8, x9, x10, x11, x12)
def Xs_AgOK_4 : List Ex := [{ out := .ret, st := { env := [(4, .bool)] } }, { out := .exit 8, st := { env := [] } }]
def Ss_AgOK_4 : SP := { env := [(2, .ptr 2 [] none), (3, .ptr 3 [] none), (11, .int .i64)], objs := [(2, true, .agg [.ro false 3, .ro false 1, .int .i64, .ro false 5]), (3, true, .agg [.ro false 3, .ro false 5])] }
noncomputable def Ls_AgOK_4 (x0 : Int) (x1 : List AVal) (x2 : List AVal) (x3 : Int) (x4 : List AVal) (x5 : List AVal) (x6 : List AVal) : Option ((Bool) ⊕ (Unit)) := LpV ctx fn25 0 4 Xs_AgOK_4 Ss_AgOK_4 (x0, x1, x2, x3, x4, x5, x6)
def Xs_AgOK_5 : List Ex := [{ out := .ret, st := { env := [(4, .bool)] } }, { out := .exit 10, st := { env := [(2, .ptr 2 [] none), (3, .ptr 3 [] none), (11, .int .i64)], objs := [(2, true, .agg [.ro false 3, .ro false 1, .int .i64, .ro false 5]), (3, true, .agg [.ro false 3, .ro false 5])] } }]
def Ss_AgOK_5 : SP := { env := [(2, .ptr 2 [] none), (3, .ptr 3 [] none), (11, .int .i64), (12, .int .i64)], objs := [(2, true, .agg [.ro false 3, .ro false 1, .int .i64, .ro false 5]), (3, true, .agg [.ro false 3, .ro false 5])] }
noncomputable def Ls_AgOK_5 (x0 : Int) (x1 : Int) (x2 : List AVal) (x3 : List AVal) (x4 : Int) (x5 : List AVal) (x6 : List AVal) (x7 : List AVal) : Option ((Bool) ⊕ (Int × List AVal × List AVal × Int × List AVal × List AVal × List AVal)) := LpV ctx fn25 0 5 Xs_AgOK_5 Ss_AgOK_5 (x0, x1, x2, x3, x4, x5, x6, x7)
def Xs_AgOK_6 : List Ex := [{ out := .ret, st := { env := [(4, .bool)] } }, { out := .exit 12, st := { env := [(2, .ptr 2 [] none), (3, .ptr 3 [] none), (11, .int .i64), (12, .int .i64)], objs := [(2, true, .agg [.ro false 3, .ro false 1, .int .i64, .ro false 5]), (3, true, .agg [.ro false 3, .ro false 5])] } }]
def Ss_AgOK_6 : SP := { env := [(2, .ptr 2 [] none), (3, .ptr 3 [] none), (11, .int .i64), (12, .int .i64), (13, .int .i64)], objs := [(2, true, .agg [.ro false 3, .ro false 1, .int .i64, .ro false 5]), (3, true, .agg [.ro false 3, .ro false 5])] }
noncomputable def Ls_AgOK_6 (x0 : Int) (x1 : Int) (x2 : Int) (x3 : List AVal) (x4 : List AVal) (x5 : Int) (x6 : List AVal) (x7 : List AVal) (x8 : List AVal) : Option ((Bool) ⊕ (Int × Int × List AVal × List AVal × Int × List AVal × List AVal × List AVal)) := LpV ctx fn25 0 6 Xs_AgOK_6 Ss_AgOK_6 (x0, x1, x2, x3, x4, x5, x6, x7, x8)
def lss_AgOK : List LSig := [{ h := 0, X := Xs_AgOK_0, Ss := [Ss_AgOK_0] }, { h := 1, X := Xs_AgOK_1, Ss := [Ss_AgOK_1] }, { h := 2, X := Xs_AgOK_2, Ss := [Ss_AgOK_2] }, { h := 3, X := Xs_AgOK_3, Ss := [Ss_AgOK_3] }, { h := 4, X := Xs_AgOK_4, Ss := [Ss_AgOK_4] }, { h := 5, X := Xs_AgOK_5, Ss := [Ss_AgOK_5] }, { h := 6, X := Xs_AgOK_6, Ss := [Ss_AgOK_6] }]
noncomputable def Fi_AgOK (x0 : List AVal) (x1 : List AVal) (x2 : Int) (x3 : List AVal) (x4 : List AVal) (x5 : List AVal) : Option (Bool) := FnV ctx 28 sgi_AgOK (x0, x1, x2, x3, x4, x5)
def Xi_AgOK_0 : List Ex := [{ out := .ret, st := { env := [(4, .bool)] } }, { out := .exit 0, st := { env := [(2, .ptr 2 [] none), (3, .ptr 3 [] none)], objs := [(2, true, .agg [.ro false 3, .ro false 1, .int .i64, .ro false 5]), (3, true, .agg [.ro false 3, .ro false 5])] } }]
def Si_AgOK_0 : SP := { env := [(2, .ptr 2 [] none), (3, .ptr 3 [] none), (5, .ref 5 []), (43, .ro false 3), (44, .int .i64), (45, .int .i64)], objs := [(2, true, .agg [.ro false 3, .ro false 1, .int .i64, .ro false 5]), (3, true, .agg [.ro false 3, .ro false 5]), (5, false, .mp (.slice 9))] }
noncomputable def Li_AgOK_0 (x0 : List AVal) (x1 : Int) (x2 : Int) (x3 : List AVal) (x4 : List AVal) (x5 : Int) (x6 : List AVal) (x7 : List AVal) (x8 : List AVal) (x9 : List AVal) : Option ((Bool) ⊕ (List AVal × List AVal × Int × List AVal × List AVal × List AVal)) := LpV ctx fn28 0 0 Xi_AgOK_0 Si_AgOK_0 (x0, x1, x2, x3, x4, x5, x6, x7, x8, x9)
def Xi_AgOK_1 : List Ex := [{ out := .ret, st := { env := [(4, .bool)] } }, { out := .exit 2, st := { env := [(2, .ptr 2 [] none), (3, .ptr 3 [] none)], objs := [(2, true, .agg [.ro false 3, .ro false 1, .int .i64, .ro false 5]), (3, true, .agg [.ro false 3, .ro false 5])] } }]
def Si_AgOK_1 : SP := { env := [(2, .ptr 2 [] none), (3, .ptr 3 [] none), (8, .ref 8 []), (85, .ro false 5), (86, .int .i64), (87, .int .i64)], objs := [(2, true, .agg [.ro false 3, .ro false 1, .int .i64, .ro false 5]), (3, true, .agg [.ro false 3, .ro false 5]), (8, false, .mp (.slice 21))] }
noncomputable def Li_AgOK_1 (x0 : List AVal) (x1 : Int) (x2 : Int) (x3 : List AVal) (x4 : List AVal) (x5 : Int) (x6 : List AVal) (x7 : List AVal) (x8 : List AVal) (x9 : List AVal) : Option ((Bool) ⊕ (List AVal × List AVal × Int × List AVal × List AVal × List AVal)) := LpV ctx fn28 0 1 Xi_AgOK_1 Si_AgOK_1 (x0, x1, x2, x3, x4, x5, x6, x7, x8, x9)
def Xi_AgOK_2 : List Ex := [{ out := .ret, st := { env := [(4, .bool)] } }, { out := .exit 4, st := { env := [(2, .ptr 2 [] none), (3, .ptr 3 [] none), (8, .ref 8 []), (85, .ro false 5), (86, .int .i64), (87, .int .i64)], objs := [(2, true, .agg [.ro false 3, .ro false 1, .int .i64, .ro false 5]), (3, true, .agg [.ro false 3, .ro false 5]), (8, false, .mp (.slice 21))] } }]
def Si_AgOK_2 : SP := { env := [(2, .ptr 2 [] none), (3, .ptr 3 [] none), (8, .ref 8 []), (10, .ptr 10 [] none), (85, .ro false 5), (86, .int .i64), (87, .int .i64), (172, .ro false 3), (173, .int .i64), (174, .int .i64)], objs := [(2, true, .agg [.ro false 3, .ro false 1, .int .i64, .ro false 5]), (3, true, .agg [.ro false 3, .ro false 5]), (8, false, .mp (.slice 21)), (10, true, .agg [.int .i64, .int .i64, .int .i64, .int .i64, .ro false 3])] }
noncomputable def Li_AgOK_2 (x0 : List AVal) (x1 : Int) (x2 : Int) (x3 : List AVal) (x4 : Int) (x5 : Int) (x6 : List AVal) (x7 : List AVal) (x8 : Int) (x9 : List AVal) (x10 : List AVal) (x11 : List AVal) (x12 : List AVal) (x13 : Int) (x14 : Int) (x15 : Int) (x16 : Int) (x17 : List AVal) : Option ((Bool) ⊕ (List AVal × Int × Int × List AVal × List AVal × Int × List AVal × List AVal × List AVal × List AVal)) := LpV ctx fn28 0 2 Xi_AgOK_2 Si_AgOK_2 (x0, x1, x2, x3, x4, x5, x6, x7, x8, x9, x10, x11, x12, x13, x14, x15, x16, x17)
def Xi_AgOK_3 : List Ex := [{ out := .exit 6, st := { env := [(3, .ptr 3 [] none), (18, .int .i64)], objs := [(3, true, .agg [.ro false 3, .ro false 5])] } }]
def Si_AgOK_3 : SP := { env := [(2, .ptr 2 [] none), (3, .ptr 3 [] none), (18, .int .i64), (189, .int .i64), (190, .int .i64)], objs := [(2, true, .agg [.ro false 3, .ro false 1, .int .i64, .ro false 5]), (3, true, .agg [.ro false 3, .ro false 5])] }
noncomputable def Li_AgOK_3 (x0 : Int) (x1 : Int) (x2 : Int) (x3 : List AVal) (x4 : List AVal) (x5 : Int) (x6 : List AVal) (x7 : List AVal) (x8 : List AVal) : Option (Int × List AVal × List AVal) := LpV ctx fn28 0 3 Xi_AgOK_3 Si_AgOK_3 (x0, x1, x2, x3, x4, x5, x6, x7, x8)
def Xi_AgOK_4 : List Ex := [{ out := .exit 8, st := { env := [(2, .ptr 2 [] none), (3, .ptr 3 [] none), (18, .int .i64), (189, .int .i64), (190, .int .i64)], objs := [(2, true, .agg [.ro false 3, .ro false 1, .int .i64, .ro false 5]), (3, true, .agg [.ro false 3, .ro false 5])] } }]
def Si_AgOK_4 : SP := { env := [(2, .ptr 2 [] none), (3, .ptr 3 [] none), (18, .int .i64), (19, .int .i64), (20, .int .i64), (189, .int .i64), (190, .int .i64)], objs := [(2, true, .agg [.ro false 3, .ro false 1, .int .i64, .ro false 5]), (3, true, .agg [.ro false 3, .ro false 5])] }
noncomputable def Li_AgOK_4 (x0 : Int) (x1 : Int) (x2 : Int) (x3 : Int) (x4 : Int) (x5 : List AVal) (x6 : List AVal) (x7 : Int) (x8 : List AVal) (x9 : List AVal) (x10 : List AVal) : Option (Int × Int × Int × List AVal × List AVal × Int × List AVal × List AVal × List AVal) := LpV ctx fn28 0 4 Xi_AgOK_4 Si_AgOK_4 (x0, x1, x2, x3, x4, x5, x6, x7, x8, x9, x10)
def Xi_AgOK_5 : List Ex := [{ out := .exit 10, st := { env := [(2, .ptr 2 [] none), (3, .ptr 3 [] none), (18, .int .i64), (19, .int .i64), (20, .int .i64), (189, .int .i64), (190, .int .i64)], objs := [(2, true, .agg [.ro false 3, .ro false 1, .int .i64, .ro false 5]), (3, true, .agg [.ro false 3, .ro false 5])] } }]
def Si_AgOK_5 : SP := { env := [(2, .ptr 2 [] none), (3, .ptr 3 [] none), (18, .int .i64), (19, .int .i64), (20, .int .i64), (21, .int .i64), (22, .bool), (189, .int .i64), (190, .int .i64), (213, .ro false 3), (214, .int .i64), (215, .int .i64)], objs := [(2, true, .agg [.ro false 3, .ro false 1, .int .i64, .ro false 5]), (3, true, .agg [.ro false 3, .ro false 5])] }
noncomputable def Li_AgOK_5 (x0 : Int) (x1 : Int) (x2 : Int) (x3 : Int) (x4 : Bool) (x5 : Int) (x6 : Int) (x7 : List AVal) (x8 : Int) (x9 : Int) (x10 : List AVal) (x11 : List AVal) (x12 : Int) (x13 : List AVal) (x14 : List AVal) (x15 : List AVal) : Option (Int × Int × Int × Int × Int × List AVal × List AVal × Int × List AVal × List AVal × List AVal) := LpV ctx fn28 0 5 Xi_AgOK_5 Si_AgOK_5 (x0, x1, x2, x3, x4, x5, x6, x7, x8, x9, x10, x11, x12, x13, x14, x15)
def lsi_AgOK : List LSig := [{ h := 0, X := Xi_AgOK_0, Ss := [Si_AgOK_0] }, { h := 1, X := Xi_AgOK_1, Ss := [Si_AgOK_1] }, { h := 2, X := Xi_AgOK_2, Ss := [Si_AgOK_2] }, { h := 3, X := Xi_AgOK_3, Ss := [Si_AgOK_3] }, { h := 4, X := Xi_AgOK_4, Ss := [Si_AgOK_4] }, { h := 5, X := Xi_AgOK_5, Ss := [Si_AgOK_5] }]
noncomputable def Fl_eqBnf (x0 : List AVal) (x1 : List AVal) (x2 : Int) (x3 : List AVal) (x4 : List AVal) (x5 : List AVal) (x6 : Int) (x7 : List AVal) : Option (Bool) := FnV ctx 29 sgl_eqBnf (x0, x1, x2, x3, x4, x5, x6, x7)
def lsl_eqBnf : List LSig := []
noncomputable def Fl_eqAg (x0 : List AVal) (x1 : List AVal) (x2 : List AVal) (x3 : List AVal) : Option (Bool) := FnV ctx 30 sgl_eqAg (x0, x1, x2, x3)
def lsl_eqAg : List LSig := []
noncomputable def Fl_szTermS (x0 : List AVal) (x1 : Int) : Option (Int) := FnV ctx 60 sgl_szTermS (x0, x1)
def Xl_szTermS_0 : List Ex := [{ out := .ret, st := { env := [(4, .int .i64)] } }, { out := .exit 0, st := { env := [(1, .int .i64)] } }]
def Sl_szTermS_0 : SP := { env := [(0, .ro false 3), (1, .int .i64), (5, .int .i64)] }
noncomputable def Ll_szTermS_0 (x0 : List AVal) (x1 : Int) (x2 : Int) : Option ((Int) ⊕ (Int)) := LpV ctx fn60 0 0 Xl_szTermS_0 Sl_szTermS_0 (x0, x1, x2)
def lsl_szTermS : List LSig := [{ h := 0, X := Xl_szTermS_0, Ss := [Sl_szTermS_0] }]
noncomputable def Fl_szStringS (x0 : List AVal) (x1 : Int) : Option (Int) := FnV ctx 61 sgl_szStringS (x0, x1)
def Xl_szStringS_0 : List Ex := [{ out := .ret, st := { env := [(4, .int .i64)] } }, { out := .exit 0, st := { env := [(1, .int .i64)] } }]
def Sl_szStringS_0 : SP := { env := [(0, .ro false 1), (1, .int .i64), (5, .int .i64)] }
noncomputable def Ll_szStringS_0 (x0 : List AVal) (x1 : Int) (x2 : Int) : Option ((Int) ⊕ (Int)) := LpV ctx fn61 0 0 Xl_szStringS_0 Sl_szStringS_0 (x0, x1, x2)
def lsl_szStringS : List LSig := [{ h := 0, X := Xl_szStringS_0, Ss := [Sl_szStringS_0] }]
noncomputable def Fl_szProdS (x0 : List AVal) (x1 : Int) : Option (Int) := FnV ctx 62 sgl_szProdS (x0, x1)
def Xl_szProdS_0 : List Ex := [{ out := .ret, st := { env := [(4, .int .i64)] } }, { out := .exit 0, st := { env := [(1, .int .i64)] } }]
def Sl_szProdS_0 : SP := { env := [(0, .ro false 5), (1, .int .i64), (5, .int .i64)] }
noncomputable def Ll_szProdS_0 (x0 : List AVal) (x1 : Int) (x2 : Int) : Option ((Int) ⊕ (Int)) := LpV ctx fn62 0 0 Xl_szProdS_0 Sl_szProdS_0 (x0, x1, x2)
def lsl_szProdS : List LSig := [{ h := 0, X := Xl_szProdS_0, Ss := [Sl_szProdS_0] }]
noncomputable def Fl_szAttrS (x0 : List AVal) (x1 : Int) : Option (Int) := FnV ctx 63 sgl_szAttrS (x0, x1)
def Xl_szAttrS_0 : List Ex := [{ out := .ret, st := { env := [(4, .int .i64)] } }, { out := .exit 0, st := { env := [(1, .int .i64)] } }]
def Sl_szAttrS_0 : SP := { env := [(0, .ro false 3), (1, .int .i64), (5, .int .i64)] }
noncomputable def Ll_szAttrS_0 (x0 : List AVal) (x1 : Int) (x2 : Int) : Option ((Int) ⊕ (Int)) := LpV ctx fn63 0 0 Xl_szAttrS_0 Sl_szAttrS_0 (x0, x1, x2)
def lsl_szAttrS : List LSig := [{ h := 0, X := Xl_szAttrS_0, Ss := [Sl_szAttrS_0] }]
noncomputable def Fl_szEqS (x0 : List AVal) (x1 : Int) : Option (Int) := FnV ctx 64 sgl_szEqS (x0, x1)
def Xl_szEqS_0 : List Ex := [{ out := .ret, st := { env := [(4, .int .i64)] } }, { out := .exit 0, st := { env := [(1, .int .i64)] } }]
def Sl_szEqS_0 : SP := { env := [(0, .ro false 5), (1, .int .i64), (5, .int .i64)] }
noncomputable def Ll_szEqS_0 (x0 : List AVal) (x1 : Int) (x2 : Int) : Option ((Int) ⊕ (Int)) := LpV ctx fn64 0 0 Xl_szEqS_0 Sl_szEqS_0 (x0, x1, x2)
def lsl_szEqS : List LSig := [{ h := 0, X := Xl_szEqS_0, Ss := [Sl_szEqS_0] }]
noncomputable def Fl_toTermS (x0 : List AVal) : Option (List AVal) := FnV ctx 72 sgl_toTermS x0
def Xl_toTermS_0 : List Ex := [{ out := .exit 0, st := { env := [(3, .ref 3 [])], objs := [(3, false, .own 3)] } }]
def Sl_toTermS_0 : SP := { env := [(0, .ro false 3), (3, .ref 3 []), (4, .int .i64)], objs := [(3, false, .own 3)] }
noncomputable def Ll_toTermS_0 (x0 : List AVal) (x1 : Int) (x2 : List AVal) : Option (List AVal) := LpV ctx fn72 0 0 Xl_toTermS_0 Sl_toTermS_0 (x0, x1, x2)
def lsl_toTermS : List LSig := [{ h := 0, X := Xl_toTermS_0, Ss := [Sl_toTermS_0] }]
noncomputable def Fl_toStringS (x0 : List AVal) : Option (List AVal) := FnV ctx 73 sgl_toStringS x0
def Xl_toStringS_0 : List Ex := [{ out := .exit 0, st := { env := [(3, .ref 3 [])], objs := [(3, false, .own 1)] } }]
def Sl_toStringS_0 : SP := { env := [(0, .ro false 1), (3, .ref 3 []), (4, .int .i64)], objs := [(3, false, .own 1)] }
noncomputable def Ll_toStringS_0 (x0 : List AVal) (x1 : Int) (x2 : List AVal) : Option (List AVal) := LpV ctx fn73 0 0 Xl_toStringS_0 Sl_toStringS_0 (x0, x1, x2)
def lsl_toStringS : List LSig := [{ h := 0, X := Xl_toStringS_0, Ss := [Sl_toStringS_0] }]
noncomputable def Fl_toProdS (x0 : List AVal) : Option (List AVal) := FnV ctx 74 sgl_toProdS x0
def Xl_toProdS_0 : List Ex := [{ out := .exit 0, st := { env := [(3, .ref 3 [])], objs := [(3, false, .own 5)] } }]
def Sl_toProdS_0 : SP := { env := [(0, .ro false 5), (3, .ref 3 []), (4, .int .i64)], objs := [(3, false, .own 5)] }
noncomputable def Ll_toProdS_0 (x0 : List AVal) (x1 : Int) (x2 : List AVal) : Option (List AVal) := LpV ctx fn74 0 0 Xl_toProdS_0 Sl_toProdS_0 (x0, x1, x2)
def lsl_toProdS : List LSig := [{ h := 0, X := Xl_toProdS_0, Ss := [Sl_toProdS_0] }]
noncomputable def Fl_toAttrS (x0 : List AVal) : Option (List AVal) := FnV ctx 75 sgl_toAttrS x0
def Xl_toAttrS_0 : List Ex := [{ out := .exit 0, st := { env := [(3, .ref 3 [])], objs := [(3, false, .own 3)] } }]
def Sl_toAttrS_0 : SP := { env := [(0, .ro false 3), (3, .ref 3 []), (4, .int .i64)], objs := [(3, false, .own 3)] }
noncomputable def Ll_toAttrS_0 (x0 : List AVal) (x1 : Int) (x2 : List AVal) : Option (List AVal) := LpV ctx fn75 0 0 Xl_toAttrS_0 Sl_toAttrS_0 (x0, x1, x2)
def lsl_toAttrS : List LSig := [{ h := 0, X := Xl_toAttrS_0, Ss := [Sl_toAttrS_0] }]
noncomputable def Fl_toEqS (x0 : List AVal) : Option (List AVal) := FnV ctx 76 sgl_toEqS x0
def Xl_toEqS_0 : List Ex := [{ out := .exit 0, st := { env := [(3, .ref 3 [])], objs := [(3, false, .own 5)] } }]
def Sl_toEqS_0 : SP := { env := [(0, .ro false 5), (3, .ref 3 []), (4, .int .i64)], objs := [(3, false, .own 5)] }
noncomputable def Ll_toEqS_0 (x0 : List AVal) (x1 : Int) (x2 : List AVal) : Option (List AVal) := LpV ctx fn76 0 0 Xl_toEqS_0 Sl_toEqS_0 (x0, x1, x2)
def lsl_toEqS : List LSig := [{ h := 0, X := Xl_toEqS_0, Ss := [Sl_toEqS_0] }]
noncomputable def Fs_BnfOK (x0 : List AVal) (x1 : List AVal) (x2 : Int) (x3 : List AVal) : Option (Bool) := FnV ctx 65 sgs_BnfOK (x0, x1, x2, x3)
def Xs_BnfOK_0 : List Ex := [{ out := .ret, st := { env := [(2, .bool)] } }, { out := .exit 0, st := { env := [(1, .ptr 1 [] none)], objs := [(1, true, .agg [.ro false 3, .ro false 1, .int .i64, .ro false 5])] } }]
def Ss_BnfOK_0 : SP := { env := [(1, .ptr 1 [] none), (3, .int .i64)], objs := [(1, true, .agg [.ro false 3, .ro false 1, .int .i64, .ro false 5])] }
noncomputable def Ls_BnfOK_0 (x0 : Int) (x1 : List AVal) (x2 : List AVal) (x3 : Int) (x4 : List AVal) : Option ((Bool) ⊕ (List AVal × List AVal × Int × List AVal)) := LpV ctx fn65 0 0 Xs_BnfOK_0 Ss_BnfOK_0 (x0, x1, x2, x3, x4)
def Xs_BnfOK_1 : List Ex := [{ out := .ret, st := { env := [(2, .bool)] } }, { out := .exit 2, st := { env := [(1, .ptr 1 [] none), (3, .int .i64)], objs := [(1, true, .agg [.ro false 3, .ro false 1, .int .i64, .ro false 5])] } }]
def Ss_BnfOK_1 : SP := { env := [(1, .ptr 1 [] none), (3, .int .i64), (4, .int .i64)], objs := [(1, true, .agg [.ro false 3, .ro false 1, .int .i64, .ro false 5])] }
noncomputable def Ls_BnfOK_1 (x0 : Int) (x1 : Int) (x2 : List AVal) (x3 : List AVal) (x4 : Int) (x5 : List AVal) : Option ((Bool) ⊕ (Int × List AVal × List AVal × Int × List AVal)) := LpV ctx fn65 0 1 Xs_BnfOK_1 Ss_BnfOK_1 (x0, x1, x2, x3, x4, x5)
def Xs_BnfOK_2 : List Ex := [{ out := .ret, st := { env := [(2, .bool)] } }, { out := .exit 4, st := { env := [(1, .ptr 1 [] none)], objs := [(1, true, .agg [.ro false 3, .ro false 1, .int .i64, .ro false 5])] } }]
def Ss_BnfOK_2 : SP := { env := [(1, .ptr 1 [] none), (5, .int .i64)], objs := [(1, true, .agg [.ro false 3, .ro false 1, .int .i64, .ro false 5])] }
noncomputable def Ls_BnfOK_2 (x0 : Int) (x1 : List AVal) (x2 : List AVal) (x3 : Int) (x4 : List AVal) : Option ((Bool) ⊕ (List AVal × List AVal × Int × List AVal)) := LpV ctx fn65 0 2 Xs_BnfOK_2 Ss_BnfOK_2 (x0, x1, x2, x3, x4)
def Xs_BnfOK_3 : List Ex := [{ out := .ret, st := { env := [(2, .bool)] } }, { out := .exit 6, st := { env := [] } }]
def Ss_BnfOK_3 : SP := { env := [(1, .ptr 1 [] none), (6, .int .i64), (7, .int .i64)], objs := [(1, true, .agg [.ro false 3, .ro false 1, .int .i64, .ro false 5])] }
noncomputable def Ls_BnfOK_3 (x0 : Int) (x1 : Int) (x2 : List AVal) (x3 : List AVal) (x4 : Int) (x5 : List AVal) : Option ((Bool) ⊕ (Unit)) := LpV ctx fn65 0 3 Xs_BnfOK_3 Ss_BnfOK_3 (x0, x1, x2, x3, x4, x5)
def Xs_BnfOK_4 : List Ex := [{ out := .ret, st := { env := [(2, .bool)] } }, { out := .exit 8, st := { env := [(1, .ptr 1 [] none), (6, .int .i64), (7, .int .i64)], objs := [(1, true, .agg [.ro false 3, .ro false 1, .int .i64, .ro false 5])] } }]
def Ss_BnfOK_4 : SP := { env := [(1, .ptr 1 [] none), (6, .int .i64), (7, .int .i64), (8, .ptr 8 [] none), (9, .int .i64)], objs := [(1, true, .agg [.ro false 3, .ro false 1, .int .i64, .ro false 5]), (8, true, .agg [.int .i64, .ro false 1, .str, .int .i64, .int .i64])] }
noncomputable def Ls_BnfOK_4 (x0 : Int) (x1 : Int) (x2 : Int) (x3 : List AVal) (x4 : List AVal) (x5 : Int) (x6 : List AVal) (x7 : Int) (x8 : List AVal) (x9 : ByteArray) (x10 : Int) (x11 : Int) : Option ((Bool) ⊕ (Int × Int × List AVal × List AVal × Int × List AVal)) := LpV ctx fn65 0 4 Xs_BnfOK_4 Ss_BnfOK_4 (x0, x1, x2, x3, x4, x5, x6, x7, x8, x9, x10, x11)
def lss_BnfOK : List LSig := [{ h := 0, X := Xs_BnfOK_0, Ss := [Ss_BnfOK_0] }, { h := 1, X := Xs_BnfOK_1, Ss := [Ss_BnfOK_1] }, { h := 2, X := Xs_BnfOK_2, Ss := [Ss_BnfOK_2] }, { h := 3, X := Xs_BnfOK_3, Ss := [Ss_BnfOK_3] }, { h := 4, X := Xs_BnfOK_4, Ss := [Ss_BnfOK_4] }]
noncomputable def Fs_l01Between (x0 : Int) (x1 : Int) (x2 : Int) : Option (Bool) := FnV ctx 66 sgs_l01Between (x0, x1, x2)
def lss_l01Between : List LSig := []
noncomputable def Fs_l01Name (x0 : ByteArray) : Option (Bool) := FnV ctx 67 sgs_l01Name x0
def Xs_l01Name_0 : List Ex := [{ out := .ret, st := { env := [(2, .bool)] } }, { out := .exit 0, st := { env := [] } }]
def Ss_l01Name_0 : SP := { env := [(0, .str), (3, .int .i64)] }
noncomputable def Ls_l01Name_0 (x0 : ByteArray) (x1 : Int) : Option ((Bool) ⊕ (Unit)) := LpV ctx fn67 0 0 Xs_l01Name_0 Ss_l01Name_0 (x0, x1)
def lss_l01Name : List LSig := [{ h := 0, X := Xs_l01Name_0, Ss := [Ss_l01Name_0] }]
noncomputable def Fs_l10Has (x0 : List AVal) (x1 : List AVal) (x2 : Int) (x3 : List AVal) (x4 : List AVal) (x5 : List AVal) (x6 : Int) (x7 : Int) (x8 : Int) : Option (Bool) := FnV ctx 68 sgs_l10Has (x0, x1, x2, x3, x4, x5, x6, x7, x8)
def lss_l10Has : List LSig := []
noncomputable def Fs_l10Args (x0 : Int) : Option (Int) := FnV ctx 69 sgs_l10Args x0
def lss_l10Args : List LSig := []
noncomputable def Fs_l10ArgOK (x0 : List AVal) (x1 : List AVal) (x2 : Int) (x3 : List AVal) (x4 : List AVal) (x5 : List AVal) (x6 : Int) (x7 : Int) (x8 : Int) (x9 : Int) : Option (Bool) := FnV ctx 70 sgs_l10ArgOK (x0, x1, x2, x3, x4, x5, x6, x7, x8, x9)
def lss_l10ArgOK : List LSig := []
noncomputable def Fs_l10Eq (x0 : List AVal) (x1 : List AVal) (x2 : Int) (x3 : Int) (x4 : Int) : Option (Int × Int) := FnV ctx 71 sgs_l10Eq (x0, x1, x2, x3, x4)
def Xs_l10Eq_0 : List Ex := [{ out := .exit 0, st := { env := [(10, .int .i64), (11, .int .i64)] } }]
def Ss_l10Eq_0 : SP := { env := [(1, .int .i64), (2, .int .i64), (3, .int .i64), (4, .ptr 4 [] none), (10, .int .i64), (11, .int .i64), (12, .int .i64)], objs := [(4, true, .agg [.ro false 3, .ro false 5])] }
noncomputable def Ls_l10Eq_0 (x0 : Int) (x1 : Int) (x2 : Int) (x3 : Int) (x4 : Int) (x5 : Int) (x6 : List AVal) (x7 : List AVal) : Option (Int × Int) := LpV ctx fn71 0 0 Xs_l10Eq_0 Ss_l10Eq_0 (x0, x1, x2, x3, x4, x5, x6, x7)
def lss_l10Eq : List LSig := [{ h := 0, X := Xs_l10Eq_0, Ss := [Ss_l10Eq_0] }]
noncomputable def Fi_BnfOK (x0 : List AVal) (x1 : List AVal) (x2 : Int) (x3 : List AVal) : Option (Bool) := FnV ctx 77 sgi_BnfOK (x0, x1, x2, x3)
def Xi_BnfOK_0 : List Ex := [{ out := .ret, st := { env := [(2, .bool)] } }, { out := .exit 0, st := { env := [(1, .ptr 1 [] none)], objs := [(1, true, .agg [.ro false 3, .ro false 1, .int .i64, .ro false 5])] } }]
def Si_BnfOK_0 : SP := { env := [(1, .ptr 1 [] none), (3, .ref 3 []), (51, .ro false 3), (52, .int .i64), (53, .int .i64)], objs := [(1, true, .agg [.ro false 3, .ro false 1, .int .i64, .ro false 5]), (3, false, .mp .str)] }
noncomputable def Li_BnfOK_0 (x0 : List AVal) (x1 : Int) (x2 : Int) (x3 : List AVal) (x4 : List AVal) (x5 : Int) (x6 : List AVal) (x7 : List AVal) : Option ((Bool) ⊕ (List AVal × List AVal × Int × List AVal)) := LpV ctx fn77 0 0 Xi_BnfOK_0 Si_BnfOK_0 (x0, x1, x2, x3, x4, x5, x6, x7)
def Xi_BnfOK_1 : List Ex := [{ out := .ret, st := { env := [(2, .bool)] } }, { out := .exit 2, st := { env := [(1, .ptr 1 [] none)], objs := [(1, true, .agg [.ro false 3, .ro false 1, .int .i64, .ro false 5])] } }]
def Si_BnfOK_1 : SP := { env := [(1, .ptr 1 [] none), (6, .ref 6 []), (76, .ro false 1), (77, .int .i64), (78, .int .i64)], objs := [(1, true, .agg [.ro false 3, .ro false 1, .int .i64, .ro false 5]), (6, false, .mp .str)] }
noncomputable def Li_BnfOK_1 (x0 : List AVal) (x1 : Int) (x2 : Int) (x3 : List AVal) (x4 : List AVal) (x5 : Int) (x6 : List AVal) (x7 : List AVal) : Option ((Bool) ⊕ (List AVal × List AVal × Int × List AVal)) := LpV ctx fn77 0 1 Xi_BnfOK_1 Si_BnfOK_1 (x0, x1, x2, x3, x4, x5, x6, x7)
def Xi_BnfOK_2 : List Ex := [{ out := .ret, st := { env := [(2, .bool)] } }, { out := .exit 4, st := { env := [] } }]
def Si_BnfOK_2 : SP := { env := [(1, .ptr 1 [] none), (9, .int .i64), (97, .ro false 5), (98, .int .i64), (99, .int .i64)], objs := [(1, true, .agg [.ro false 3, .ro false 1, .int .i64, .ro false 5])] }
noncomputable def Li_BnfOK_2 (x0 : Int) (x1 : List AVal) (x2 : Int) (x3 : Int) (x4 : List AVal) (x5 : List AVal) (x6 : Int) (x7 : List AVal) : Option ((Bool) ⊕ (Unit)) := LpV ctx fn77 0 2 Xi_BnfOK_2 Si_BnfOK_2 (x0, x1, x2, x3, x4, x5, x6, x7)
def Xi_BnfOK_3 : List Ex := [{ out := .ret, st := { env := [(2, .bool)] } }, { out := .exit 6, st := { env := [(1, .ptr 1 [] none), (9, .int .i64), (97, .ro false 5), (98, .int .i64), (99, .int .i64)], objs := [(1, true, .agg [.ro false 3, .ro false 1, .int .i64, .ro false 5])] } }]
def Si_BnfOK_3 : SP := { env := [(1, .ptr 1 [] none), (9, .int .i64), (97, .ro false 5), (98, .int .i64), (99, .int .i64), (141, .ro false 1), (142, .int .i64), (143, .int .i64)], objs := [(1, true, .agg [.ro false 3, .ro false 1, .int .i64, .ro false 5])] }
noncomputable def Li_BnfOK_3 (x0 : Int) (x1 : List AVal) (x2 : Int) (x3 : Int) (x4 : List AVal) (x5 : Int) (x6 : Int) (x7 : List AVal) (x8 : List AVal) (x9 : Int) (x10 : List AVal) : Option ((Bool) ⊕ (Int × List AVal × Int × Int × List AVal × List AVal × Int × List AVal)) := LpV ctx fn77 0 3 Xi_BnfOK_3 Si_BnfOK_3 (x0, x1, x2, x3, x4, x5, x6, x7, x8, x9, x10)
def lsi_BnfOK : List LSig := [{ h := 0, X := Xi_BnfOK_0, Ss := [Si_BnfOK_0] }, { h := 1, X := Xi_BnfOK_1, Ss := [Si_BnfOK_1] }, { h := 2, X := Xi_BnfOK_2, Ss := [Si_BnfOK_2] }, { h := 3, X := Xi_BnfOK_3, Ss := [Si_BnfOK_3] }]
noncomputable def Fi_nameOK (x0 : ByteArray) : Option (Bool) := FnV ctx 78 sgi_nameOK x0
def Xi_nameOK_0 : List Ex := [{ out := .ret, st := { env := [(2, .bool)] } }, { out := .exit 0, st := { env := [] } }]
def Si_nameOK_0 : SP := { env := [(0, .str), (3, .int .i64)] }
noncomputable def Li_nameOK_0 (x0 : ByteArray) (x1 : Int) : Option ((Bool) ⊕ (Unit)) := LpV ctx fn78 0 0 Xi_nameOK_0 Si_nameOK_0 (x0, x1)
def lsi_nameOK : List LSig := [{ h := 0, X := Xi_nameOK_0, Ss := [Si_nameOK_0] }]
noncomputable def Fi_argsOf (x0 : Int) : Option (Int) := FnV ctx 79 sgi_argsOf x0
def lsi_argsOf : List LSig := []
noncomputable def Fi_nonAt (x0 : List AVal) (x1 : List AVal) (x2 : Int) (x3 : List AVal) (x4 : Int) (x5 : Int) : Option (Int × Bool × Bool) := FnV ctx 80 sgi_nonAt (x0, x1, x2, x3, x4, x5)
def lsi_nonAt : List LSig := []
noncomputable def Fi_refOK (x0 : List AVal) (x1 : List AVal) (x2 : Int) (x3 : List AVal) (x4 : List AVal) (x5 : List AVal) (x6 : Int) (x7 : Int) (x8 : Int) (x9 : Int) : Option (Bool) := FnV ctx 81 sgi_refOK (x0, x1, x2, x3, x4, x5, x6, x7, x8, x9)
def lsi_refOK : List LSig := []
noncomputable def Fl_eqTermS (x0 : List AVal) (x1 : List AVal) : Option (Bool) := FnV ctx 82 sgl_eqTermS (x0, x1)
def Xl_eqTermS_0 : List Ex := [{ out := .ret, st := { env := [(4, .bool)] } }, { out := .exit 0, st := { env := [] } }]
def Sl_eqTermS_0 : SP := { env := [(0, .ro false 3), (1, .ro false 3), (5, .int .i64)] }
noncomputable def Ll_eqTermS_0 (x0 : List AVal) (x1 : List AVal) (x2 : Int) : Option ((Bool) ⊕ (Unit)) := LpV ctx fn82 0 0 Xl_eqTermS_0 Sl_eqTermS_0 (x0, x1, x2)
def lsl_eqTermS : List LSig := [{ h := 0, X := Xl_eqTermS_0, Ss := [Sl_eqTermS_0] }]
noncomputable def Fl_eqStringS (x0 : List AVal) (x1 : List AVal) : Option (Bool) := FnV ctx 83 sgl_eqStringS (x0, x1)
def Xl_eqStringS_0 : List Ex := [{ out := .ret, st := { env := [(4, .bool)] } }, { out := .exit 0, st := { env := [] } }]
def Sl_eqStringS_0 : SP := { env := [(0, .ro false 1), (1, .ro false 1), (5, .int .i64)] }
noncomputable def Ll_eqStringS_0 (x0 : List AVal) (x1 : List AVal) (x2 : Int) : Option ((Bool) ⊕ (Unit)) := LpV ctx fn83 0 0 Xl_eqStringS_0 Sl_eqStringS_0 (x0, x1, x2)
def lsl_eqStringS : List LSig := [{ h := 0, X := Xl_eqStringS_0, Ss := [Sl_eqStringS_0] }]
noncomputable def Fl_eqProdS (x0 : List AVal) (x1 : List AVal) : Option (Bool) := FnV ctx 84 sgl_eqProdS (x0, x1)
def Xl_eqProdS_0 : List Ex := [{ out := .ret, st := { env := [(4, .bool)] } }, { out := .exit 0, st := { env := [] } }]
def Sl_eqProdS_0 : SP := { env := [(0, .ro false 5), (1, .ro false 5), (5, .int .i64)] }
noncomputable def Ll_eqProdS_0 (x0 : List AVal) (x1 : List AVal) (x2 : Int) : Option ((Bool) ⊕ (Unit)) := LpV ctx fn84 0 0 Xl_eqProdS_0 Sl_eqProdS_0 (x0, x1, x2)
def lsl_eqProdS : List LSig := [{ h := 0, X := Xl_eqProdS_0, Ss := [Sl_eqProdS_0] }]
noncomputable def Fl_eqAttrS (x0 : List AVal) (x1 : List AVal) : Option (Bool) := FnV ctx 85 sgl_eqAttrS (x0, x1)
def Xl_eqAttrS_0 : List Ex := [{ out := .ret, st := { env := [(4, .bool)] } }, { out := .exit 0, st := { env := [] } }]
def Sl_eqAttrS_0 : SP := { env := [(0, .ro false 3), (1, .ro false 3), (5, .int .i64)] }
noncomputable def Ll_eqAttrS_0 (x0 : List AVal) (x1 : List AVal) (x2 : Int) : Option ((Bool) ⊕ (Unit)) := LpV ctx fn85 0 0 Xl_eqAttrS_0 Sl_eqAttrS_0 (x0, x1, x2)
def lsl_eqAttrS : List LSig := [{ h := 0, X := Xl_eqAttrS_0, Ss := [Sl_eqAttrS_0] }]
noncomputable def Fl_eqEqS (x0 : List AVal) (x1 : List AVal) : Option (Bool) := FnV ctx 86 sgl_eqEqS (x0, x1)
def Xl_eqEqS_0 : List Ex := [{ out := .ret, st := { env := [(4, .bool)] } }, { out := .exit 0, st := { env := [] } }]
def Sl_eqEqS_0 : SP := { env := [(0, .ro false 5), (1, .ro false 5), (5, .int .i64)] }
noncomputable def Ll_eqEqS_0 (x0 : List AVal) (x1 : List AVal) (x2 : Int) : Option ((Bool) ⊕ (Unit)) := LpV ctx fn86 0 0 Xl_eqEqS_0 Sl_eqEqS_0 (x0, x1, x2)
def lsl_eqEqS : List LSig := [{ h := 0, X := Xl_eqEqS_0, Ss := [Sl_eqEqS_0] }]
noncomputable def Fl_szTerm (x0 : ByteArray) (x1 : Int) (x2 : Int) (x3 : Int) : Option (Int) := FnV ctx 116 sgl_szTerm (x0, x1, x2, x3)
def lsl_szTerm : List LSig := []
noncomputable def Fl_szProd (x0 : Int) (x1 : List AVal) (x2 : ByteArray) (x3 : Int) (x4 : Int) (x5 : Int) : Option (Int) := FnV ctx 117 sgl_szProd (x0, x1, x2, x3, x4, x5)
def lsl_szProd : List LSig := []
noncomputable def Fl_szAttr (x0 : Int) (x1 : ByteArray) (x2 : Bool) (x3 : Int) : Option (Int) := FnV ctx 118 sgl_szAttr (x0, x1, x2, x3)
def lsl_szAttr : List LSig := []
noncomputable def Fl_szEq (x0 : Int) (x1 : Int) (x2 : Int) (x3 : Int) (x4 : List AVal) (x5 : Int) : Option (Int) := FnV ctx 119 sgl_szEq (x0, x1, x2, x3, x4, x5)
def lsl_szEq : List LSig := []
noncomputable def Fl_toTerm (x0 : ByteArray) (x1 : Int) (x2 : Int) : Option (ByteArray × Int × Int) := FnV ctx 125 sgl_toTerm (x0, x1, x2)
def lsl_toTerm : List LSig := []
noncomputable def Fl_toProd (x0 : Int) (x1 : List AVal) (x2 : ByteArray) (x3 : Int) (x4 : Int) : Option (Int × List AVal × ByteArray × Int × Int) := FnV ctx 126 sgl_toProd (x0, x1, x2, x3, x4)
def lsl_toProd : List LSig := []
noncomputable def Fl_toAttr (x0 : Int) (x1 : ByteArray) (x2 : Bool) : Option (Int × ByteArray × Bool) := FnV ctx 127 sgl_toAttr (x0, x1, x2)
def lsl_toAttr : List LSig := []
noncomputable def Fl_toEq (x0 : Int) (x1 : Int) (x2 : Int) (x3 : Int) (x4 : List AVal) : Option (Int × Int × Int × Int × List AVal) := FnV ctx 128 sgl_toEq (x0, x1, x2, x3, x4)
def lsl_toEq : List LSig := []
noncomputable def Fs_l04Strength (x0 : Int) (x1 : Int) : Option (Bool) := FnV ctx 120 sgs_l04Strength (x0, x1)
def lss_l04Strength : List LSig := []
noncomputable def Fs_l03At (x0 : List AVal) (x1 : ByteArray) : Option (Int) := FnV ctx 121 sgs_l03At (x0, x1)
def Xs_l03At_0 : List Ex := [{ out := .ret, st := { env := [(4, .int .i64)] } }, { out := .exit 0, st := { env := [] } }]
def Ss_l03At_0 : SP := { env := [(0, .ro false 1), (1, .str), (5, .int .i64)] }
noncomputable def Ls_l03At_0 (x0 : List AVal) (x1 : ByteArray) (x2 : Int) : Option ((Int) ⊕ (Unit)) := LpV ctx fn121 0 0 Xs_l03At_0 Ss_l03At_0 (x0, x1, x2)
def lss_l03At : List LSig := [{ h := 0, X := Xs_l03At_0, Ss := [Ss_l03At_0] }]
noncomputable def Fs_l01Letter (x0 : Int) : Option (Bool) := FnV ctx 122 sgs_l01Letter x0
def lss_l01Letter : List LSig := []
noncomputable def Fs_l01NameByte (x0 : Int) : Option (Bool) := FnV ctx 123 sgs_l01NameByte x0
def lss_l01NameByte : List LSig := []
noncomputable def Fs_l10Sym (x0 : List AVal) (x1 : List AVal) (x2 : Int) (x3 : List AVal) (x4 : Int) (x5 : Int) : Option (Int) := FnV ctx 124 sgs_l10Sym (x0, x1, x2, x3, x4, x5)
def lss_l10Sym : List LSig := []
noncomputable def Fi_levelOK (x0 : Int) (x1 : Int) : Option (Bool) := FnV ctx 129 sgi_levelOK (x0, x1)
def lsi_levelOK : List LSig := []
noncomputable def Fi_isLetter (x0 : Int) : Option (Bool) := FnV ctx 130 sgi_isLetter x0
def lsi_isLetter : List LSig := []
noncomputable def Fi_inName (x0 : Int) : Option (Bool) := FnV ctx 131 sgi_inName x0
def lsi_inName : List LSig := []
noncomputable def Fi_within (x0 : Int) (x1 : Int) : Option (Bool) := FnV ctx 132 sgi_within (x0, x1)
def lsi_within : List LSig := []
noncomputable def Fl_eqTerm (x0 : ByteArray) (x1 : Int) (x2 : Int) (x3 : ByteArray) (x4 : Int) (x5 : Int) : Option (Bool) := FnV ctx 133 sgl_eqTerm (x0, x1, x2, x3, x4, x5)
def lsl_eqTerm : List LSig := []
noncomputable def Fl_eqProd (x0 : Int) (x1 : List AVal) (x2 : ByteArray) (x3 : Int) (x4 : Int) (x5 : Int) (x6 : List AVal) (x7 : ByteArray) (x8 : Int) (x9 : Int) : Option (Bool) := FnV ctx 134 sgl_eqProd (x0, x1, x2, x3, x4, x5, x6, x7, x8, x9)
def lsl_eqProd : List LSig := []
noncomputable def Fl_eqAttr (x0 : Int) (x1 : ByteArray) (x2 : Bool) (x3 : Int) (x4 : ByteArray) (x5 : Bool) : Option (Bool) := FnV ctx 135 sgl_eqAttr (x0, x1, x2, x3, x4, x5)
def lsl_eqAttr : List LSig := []
noncomputable def Fl_eqEq (x0 : Int) (x1 : Int) (x2 : Int) (x3 : Int) (x4 : List AVal) (x5 : Int) (x6 : Int) (x7 : Int) (x8 : Int) (x9 : List AVal) : Option (Bool) := FnV ctx 136 sgl_eqEq (x0, x1, x2, x3, x4, x5, x6, x7, x8, x9)
def lsl_eqEq : List LSig := []
noncomputable def Fl_szIntS (x0 : List AVal) (x1 : Int) : Option (Int) := FnV ctx 162 sgl_szIntS (x0, x1)
def lsl_szIntS : List LSig := []
noncomputable def Fl_szRefS (x0 : List AVal) (x1 : Int) : Option (Int) := FnV ctx 163 sgl_szRefS (x0, x1)
def lsl_szRefS : List LSig := []
noncomputable def Fl_toIntS (x0 : List AVal) : Option (List AVal) := FnV ctx 165 sgl_toIntS x0
def Xl_toIntS_0 : List Ex := [{ out := .exit 0, st := { env := [(3, .ref 3 [])], objs := [(3, false, .own 1)] } }]
def Sl_toIntS_0 : SP := { env := [(0, .ro false 1), (3, .ref 3 []), (4, .int .i64)], objs := [(3, false, .own 1)] }
noncomputable def Ll_toIntS_0 (x0 : List AVal) (x1 : Int) (x2 : List AVal) : Option (List AVal) := LpV ctx fn165 0 0 Xl_toIntS_0 Sl_toIntS_0 (x0, x1, x2)
def lsl_toIntS : List LSig := [{ h := 0, X := Xl_toIntS_0, Ss := [Sl_toIntS_0] }]
noncomputable def Fl_toRefS (x0 : List AVal) : Option (List AVal) := FnV ctx 166 sgl_toRefS x0
def Xl_toRefS_0 : List Ex := [{ out := .exit 0, st := { env := [(3, .ref 3 [])], objs := [(3, false, .own 3)] } }]
def Sl_toRefS_0 : SP := { env := [(0, .ro false 3), (3, .ref 3 []), (4, .int .i64)], objs := [(3, false, .own 3)] }
noncomputable def Ll_toRefS_0 (x0 : List AVal) (x1 : Int) (x2 : List AVal) : Option (List AVal) := LpV ctx fn166 0 0 Xl_toRefS_0 Sl_toRefS_0 (x0, x1, x2)
def lsl_toRefS : List LSig := [{ h := 0, X := Xl_toRefS_0, Ss := [Sl_toRefS_0] }]
noncomputable def Fs_l01Digit (x0 : Int) : Option (Bool) := FnV ctx 164 sgs_l01Digit x0
def lss_l01Digit : List LSig := []
noncomputable def Fi_isDigit (x0 : Int) : Option (Bool) := FnV ctx 167 sgi_isDigit x0
def lsi_isDigit : List LSig := []
noncomputable def Fl_eqIntS (x0 : List AVal) (x1 : List AVal) : Option (Bool) := FnV ctx 47 sgl_eqIntS (x0, x1)
def Xl_eqIntS_0 : List Ex := [{ out := .ret, st := { env := [(4, .bool)] } }, { out := .exit 0, st := { env := [] } }]
def Sl_eqIntS_0 : SP := { env := [(0, .ro false 1), (1, .ro false 1), (5, .int .i64)] }
noncomputable def Ll_eqIntS_0 (x0 : List AVal) (x1 : List AVal) (x2 : Int) : Option ((Bool) ⊕ (Unit)) := LpV ctx fn47 0 0 Xl_eqIntS_0 Sl_eqIntS_0 (x0, x1, x2)
def lsl_eqIntS : List LSig := [{ h := 0, X := Xl_eqIntS_0, Ss := [Sl_eqIntS_0] }]
noncomputable def Fl_eqRefS (x0 : List AVal) (x1 : List AVal) : Option (Bool) := FnV ctx 168 sgl_eqRefS (x0, x1)
def Xl_eqRefS_0 : List Ex := [{ out := .ret, st := { env := [(4, .bool)] } }, { out := .exit 0, st := { env := [] } }]
def Sl_eqRefS_0 : SP := { env := [(0, .ro false 3), (1, .ro false 3), (5, .int .i64)] }
noncomputable def Ll_eqRefS_0 (x0 : List AVal) (x1 : List AVal) (x2 : Int) : Option ((Bool) ⊕ (Unit)) := LpV ctx fn168 0 0 Xl_eqRefS_0 Sl_eqRefS_0 (x0, x1, x2)
def lsl_eqRefS : List LSig := [{ h := 0, X := Xl_eqRefS_0, Ss := [Sl_eqRefS_0] }]
noncomputable def Fl_toRef (x0 : Int) (x1 : Int) (x2 : Int) : Option (Int × Int × Int) := FnV ctx 180 sgl_toRef (x0, x1, x2)
def lsl_toRef : List LSig := []
noncomputable def Fl_eqRef (x0 : Int) (x1 : Int) (x2 : Int) (x3 : Int) (x4 : Int) (x5 : Int) : Option (Bool) := FnV ctx 181 sgl_eqRef (x0, x1, x2, x3, x4, x5)
def lsl_eqRef : List LSig := []
end Go.Proofs.Ytlgdkbacfgjcnaa
