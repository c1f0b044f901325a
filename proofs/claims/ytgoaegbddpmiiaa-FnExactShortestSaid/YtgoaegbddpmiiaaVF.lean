import Derived.Test.YtgoaegbddpmiiaaVmd
import Derived.Test.YtgoaegbddpmiiaaVC
import Derived.Tactics
namespace Go.Proofs.Ytgoaegbddpmiiaa
open Go.VK
theorem tok:TOK Try.prog ctx:=tok_of (by kernel_rfl) (fun f h=>by cases (show (none:Option Nat)=some f from h)) (by kernel_rfl) (by kernel_rfl)
theorem mixed:Try.prog.follows .mixedOrders=true:=by kernel_rfl
theorem ok3:FnF Try.prog 3 fn3:=⟨⟨Try.f3,Try.func3,by kernel_rfl,by kernel_rfl,by kernel_rfl,by kernel_rfl,by kernel_rfl,of_decide_eq_true (by kernel_rfl)⟩⟩
theorem ok5:FnF Try.prog 5 fn5:=⟨⟨Try.f5,Try.func5,by kernel_rfl,by kernel_rfl,by kernel_rfl,by kernel_rfl,by kernel_rfl,of_decide_eq_true (by kernel_rfl)⟩⟩
theorem ok6:FnF Try.prog 6 fn6:=⟨⟨Try.f6,Try.func6,by kernel_rfl,by kernel_rfl,by kernel_rfl,by kernel_rfl,by kernel_rfl,of_decide_eq_true (by kernel_rfl)⟩⟩
theorem ok7:FnF Try.prog 7 fn7:=⟨⟨Try.f7,Try.func7,by kernel_rfl,by kernel_rfl,by kernel_rfl,by kernel_rfl,by kernel_rfl,of_decide_eq_true (by kernel_rfl)⟩⟩
theorem ok8:FnF Try.prog 8 fn8:=⟨⟨Try.f8,Try.func8,by kernel_rfl,by kernel_rfl,by kernel_rfl,by kernel_rfl,by kernel_rfl,of_decide_eq_true (by kernel_rfl)⟩⟩
theorem ok9:FnF Try.prog 9 fn9:=⟨⟨Try.f9,Try.func9,by kernel_rfl,by kernel_rfl,by kernel_rfl,by kernel_rfl,by kernel_rfl,of_decide_eq_true (by kernel_rfl)⟩⟩
theorem ok10:FnF Try.prog 10 fn10:=⟨⟨Try.f10,Try.func10,by kernel_rfl,by kernel_rfl,by kernel_rfl,by kernel_rfl,by kernel_rfl,of_decide_eq_true (by kernel_rfl)⟩⟩
theorem ok11:FnF Try.prog 11 fn11:=⟨⟨Try.f11,Try.func11,by kernel_rfl,by kernel_rfl,by kernel_rfl,by kernel_rfl,by kernel_rfl,of_decide_eq_true (by kernel_rfl)⟩⟩
theorem ok12:FnF Try.prog 12 fn12:=⟨⟨Try.f12,Try.func12,by kernel_rfl,by kernel_rfl,by kernel_rfl,by kernel_rfl,by kernel_rfl,of_decide_eq_true (by kernel_rfl)⟩⟩
theorem ok13:FnF Try.prog 13 fn13:=⟨⟨Try.f13,Try.func13,by kernel_rfl,by kernel_rfl,by kernel_rfl,by kernel_rfl,by kernel_rfl,of_decide_eq_true (by kernel_rfl)⟩⟩
theorem ok19:FnF Try.prog 19 fn19:=⟨⟨Try.f19,Try.func19,by kernel_rfl,by kernel_rfl,by kernel_rfl,by kernel_rfl,by kernel_rfl,of_decide_eq_true (by kernel_rfl)⟩⟩
theorem ok20:FnF Try.prog 20 fn20:=⟨⟨Try.f20,Try.func20,by kernel_rfl,by kernel_rfl,by kernel_rfl,by kernel_rfl,by kernel_rfl,of_decide_eq_true (by kernel_rfl)⟩⟩
theorem ok21:FnF Try.prog 21 fn21:=⟨⟨Try.f21,Try.func21,by kernel_rfl,by kernel_rfl,by kernel_rfl,by kernel_rfl,by kernel_rfl,of_decide_eq_true (by kernel_rfl)⟩⟩
theorem ok22:FnF Try.prog 22 fn22:=⟨⟨Try.f22,Try.func22,by kernel_rfl,by kernel_rfl,by kernel_rfl,by kernel_rfl,by kernel_rfl,of_decide_eq_true (by kernel_rfl)⟩⟩
theorem ok23:FnF Try.prog 23 fn23:=⟨⟨Try.f23,Try.func23,by kernel_rfl,by kernel_rfl,by kernel_rfl,by kernel_rfl,by kernel_rfl,of_decide_eq_true (by kernel_rfl)⟩⟩
theorem ok24:FnF Try.prog 24 fn24:=⟨⟨Try.f24,Try.func24,by kernel_rfl,by kernel_rfl,by kernel_rfl,by kernel_rfl,by kernel_rfl,of_decide_eq_true (by kernel_rfl)⟩⟩
theorem ok25:FnF Try.prog 25 fn25:=⟨⟨Try.f25,Try.func25,by kernel_rfl,by kernel_rfl,by kernel_rfl,by kernel_rfl,by kernel_rfl,of_decide_eq_true (by kernel_rfl)⟩⟩
theorem ok26:FnF Try.prog 26 fn26:=⟨⟨Try.f26,Try.func26,by kernel_rfl,by kernel_rfl,by kernel_rfl,by kernel_rfl,by kernel_rfl,of_decide_eq_true (by kernel_rfl)⟩⟩
theorem ok27:FnF Try.prog 27 fn27:=⟨⟨Try.f27,Try.func27,by kernel_rfl,by kernel_rfl,by kernel_rfl,by kernel_rfl,by kernel_rfl,of_decide_eq_true (by kernel_rfl)⟩⟩
theorem ok28:FnF Try.prog 28 fn28:=⟨⟨Try.f28,Try.func28,by kernel_rfl,by kernel_rfl,by kernel_rfl,by kernel_rfl,by kernel_rfl,of_decide_eq_true (by kernel_rfl)⟩⟩
theorem ok29:FnF Try.prog 29 fn29:=⟨⟨Try.f29,Try.func29,by kernel_rfl,by kernel_rfl,by kernel_rfl,by kernel_rfl,by kernel_rfl,of_decide_eq_true (by kernel_rfl)⟩⟩
theorem ok30:FnF Try.prog 30 fn30:=⟨⟨Try.f30,Try.func30,by kernel_rfl,by kernel_rfl,by kernel_rfl,by kernel_rfl,by kernel_rfl,of_decide_eq_true (by kernel_rfl)⟩⟩
theorem ok31:FnF Try.prog 31 fn31:=⟨⟨Try.f31,Try.func31,by kernel_rfl,by kernel_rfl,by kernel_rfl,by kernel_rfl,by kernel_rfl,of_decide_eq_true (by kernel_rfl)⟩⟩
theorem ok32:FnF Try.prog 32 fn32:=⟨⟨Try.f32,Try.func32,by kernel_rfl,by kernel_rfl,by kernel_rfl,by kernel_rfl,by kernel_rfl,of_decide_eq_true (by kernel_rfl)⟩⟩
theorem ok33:FnF Try.prog 33 fn33:=⟨⟨Try.f33,Try.func33,by kernel_rfl,by kernel_rfl,by kernel_rfl,by kernel_rfl,by kernel_rfl,of_decide_eq_true (by kernel_rfl)⟩⟩
theorem ok34:FnF Try.prog 34 fn34:=⟨⟨Try.f34,Try.func34,by kernel_rfl,by kernel_rfl,by kernel_rfl,by kernel_rfl,by kernel_rfl,of_decide_eq_true (by kernel_rfl)⟩⟩
theorem ok35:FnF Try.prog 35 fn35:=⟨⟨Try.f35,Try.func35,by kernel_rfl,by kernel_rfl,by kernel_rfl,by kernel_rfl,by kernel_rfl,of_decide_eq_true (by kernel_rfl)⟩⟩
theorem ok36:FnF Try.prog 36 fn36:=⟨⟨Try.f36,Try.func36,by kernel_rfl,by kernel_rfl,by kernel_rfl,by kernel_rfl,by kernel_rfl,of_decide_eq_true (by kernel_rfl)⟩⟩
theorem ok37:FnF Try.prog 37 fn37:=⟨⟨Try.f37,Try.func37,by kernel_rfl,by kernel_rfl,by kernel_rfl,by kernel_rfl,by kernel_rfl,of_decide_eq_true (by kernel_rfl)⟩⟩
theorem ok38:FnF Try.prog 38 fn38:=⟨⟨Try.f38,Try.func38,by kernel_rfl,by kernel_rfl,by kernel_rfl,by kernel_rfl,by kernel_rfl,of_decide_eq_true (by kernel_rfl)⟩⟩
theorem ok39:FnF Try.prog 39 fn39:=⟨⟨Try.f39,Try.func39,by kernel_rfl,by kernel_rfl,by kernel_rfl,by kernel_rfl,by kernel_rfl,of_decide_eq_true (by kernel_rfl)⟩⟩
theorem ok40:FnF Try.prog 40 fn40:=⟨⟨Try.f40,Try.func40,by kernel_rfl,by kernel_rfl,by kernel_rfl,by kernel_rfl,by kernel_rfl,of_decide_eq_true (by kernel_rfl)⟩⟩
theorem ok41:FnF Try.prog 41 fn41:=⟨⟨Try.f41,Try.func41,by kernel_rfl,by kernel_rfl,by kernel_rfl,by kernel_rfl,by kernel_rfl,of_decide_eq_true (by kernel_rfl)⟩⟩
theorem ok42:FnF Try.prog 42 fn42:=⟨⟨Try.f42,Try.func42,by kernel_rfl,by kernel_rfl,by kernel_rfl,by kernel_rfl,by kernel_rfl,of_decide_eq_true (by kernel_rfl)⟩⟩
theorem ok58:FnF Try.prog 58 fn58:=⟨⟨Try.f58,Try.func58,by kernel_rfl,by kernel_rfl,by kernel_rfl,by kernel_rfl,by kernel_rfl,of_decide_eq_true (by kernel_rfl)⟩⟩
theorem ok59:FnF Try.prog 59 fn59:=⟨⟨Try.f59,Try.func59,by kernel_rfl,by kernel_rfl,by kernel_rfl,by kernel_rfl,by kernel_rfl,of_decide_eq_true (by kernel_rfl)⟩⟩
theorem ok60:FnF Try.prog 60 fn60:=⟨⟨Try.f60,Try.func60,by kernel_rfl,by kernel_rfl,by kernel_rfl,by kernel_rfl,by kernel_rfl,of_decide_eq_true (by kernel_rfl)⟩⟩
theorem ok61:FnF Try.prog 61 fn61:=⟨⟨Try.f61,Try.func61,by kernel_rfl,by kernel_rfl,by kernel_rfl,by kernel_rfl,by kernel_rfl,of_decide_eq_true (by kernel_rfl)⟩⟩
theorem ok62:FnF Try.prog 62 fn62:=⟨⟨Try.f62,Try.func62,by kernel_rfl,by kernel_rfl,by kernel_rfl,by kernel_rfl,by kernel_rfl,of_decide_eq_true (by kernel_rfl)⟩⟩
theorem ok63:FnF Try.prog 63 fn63:=⟨⟨Try.f63,Try.func63,by kernel_rfl,by kernel_rfl,by kernel_rfl,by kernel_rfl,by kernel_rfl,of_decide_eq_true (by kernel_rfl)⟩⟩
theorem ok64:FnF Try.prog 64 fn64:=⟨⟨Try.f64,Try.func64,by kernel_rfl,by kernel_rfl,by kernel_rfl,by kernel_rfl,by kernel_rfl,of_decide_eq_true (by kernel_rfl)⟩⟩
theorem ok65:FnF Try.prog 65 fn65:=⟨⟨Try.f65,Try.func65,by kernel_rfl,by kernel_rfl,by kernel_rfl,by kernel_rfl,by kernel_rfl,of_decide_eq_true (by kernel_rfl)⟩⟩
theorem ok66:FnF Try.prog 66 fn66:=⟨⟨Try.f66,Try.func66,by kernel_rfl,by kernel_rfl,by kernel_rfl,by kernel_rfl,by kernel_rfl,of_decide_eq_true (by kernel_rfl)⟩⟩
theorem ok67:FnF Try.prog 67 fn67:=⟨⟨Try.f67,Try.func67,by kernel_rfl,by kernel_rfl,by kernel_rfl,by kernel_rfl,by kernel_rfl,of_decide_eq_true (by kernel_rfl)⟩⟩
theorem ok68:FnF Try.prog 68 fn68:=⟨⟨Try.f68,Try.func68,by kernel_rfl,by kernel_rfl,by kernel_rfl,by kernel_rfl,by kernel_rfl,of_decide_eq_true (by kernel_rfl)⟩⟩
theorem ok69:FnF Try.prog 69 fn69:=⟨⟨Try.f69,Try.func69,by kernel_rfl,by kernel_rfl,by kernel_rfl,by kernel_rfl,by kernel_rfl,of_decide_eq_true (by kernel_rfl)⟩⟩
theorem ok70:FnF Try.prog 70 fn70:=⟨⟨Try.f70,Try.func70,by kernel_rfl,by kernel_rfl,by kernel_rfl,by kernel_rfl,by kernel_rfl,of_decide_eq_true (by kernel_rfl)⟩⟩
theorem ok71:FnF Try.prog 71 fn71:=⟨⟨Try.f71,Try.func71,by kernel_rfl,by kernel_rfl,by kernel_rfl,by kernel_rfl,by kernel_rfl,of_decide_eq_true (by kernel_rfl)⟩⟩
theorem ok72:FnF Try.prog 72 fn72:=⟨⟨Try.f72,Try.func72,by kernel_rfl,by kernel_rfl,by kernel_rfl,by kernel_rfl,by kernel_rfl,of_decide_eq_true (by kernel_rfl)⟩⟩
theorem ok73:FnF Try.prog 73 fn73:=⟨⟨Try.f73,Try.func73,by kernel_rfl,by kernel_rfl,by kernel_rfl,by kernel_rfl,by kernel_rfl,of_decide_eq_true (by kernel_rfl)⟩⟩
theorem ok74:FnF Try.prog 74 fn74:=⟨⟨Try.f74,Try.func74,by kernel_rfl,by kernel_rfl,by kernel_rfl,by kernel_rfl,by kernel_rfl,of_decide_eq_true (by kernel_rfl)⟩⟩
theorem ok75:FnF Try.prog 75 fn75:=⟨⟨Try.f75,Try.func75,by kernel_rfl,by kernel_rfl,by kernel_rfl,by kernel_rfl,by kernel_rfl,of_decide_eq_true (by kernel_rfl)⟩⟩
theorem ok81:FnF Try.prog 81 fn81:=⟨⟨Try.f81,Try.func81,by kernel_rfl,by kernel_rfl,by kernel_rfl,by kernel_rfl,by kernel_rfl,of_decide_eq_true (by kernel_rfl)⟩⟩
theorem ok82:FnF Try.prog 82 fn82:=⟨⟨Try.f82,Try.func82,by kernel_rfl,by kernel_rfl,by kernel_rfl,by kernel_rfl,by kernel_rfl,of_decide_eq_true (by kernel_rfl)⟩⟩
theorem ok83:FnF Try.prog 83 fn83:=⟨⟨Try.f83,Try.func83,by kernel_rfl,by kernel_rfl,by kernel_rfl,by kernel_rfl,by kernel_rfl,of_decide_eq_true (by kernel_rfl)⟩⟩
theorem ok84:FnF Try.prog 84 fn84:=⟨⟨Try.f84,Try.func84,by kernel_rfl,by kernel_rfl,by kernel_rfl,by kernel_rfl,by kernel_rfl,of_decide_eq_true (by kernel_rfl)⟩⟩
theorem ok85:FnF Try.prog 85 fn85:=⟨⟨Try.f85,Try.func85,by kernel_rfl,by kernel_rfl,by kernel_rfl,by kernel_rfl,by kernel_rfl,of_decide_eq_true (by kernel_rfl)⟩⟩
theorem ok86:FnF Try.prog 86 fn86:=⟨⟨Try.f86,Try.func86,by kernel_rfl,by kernel_rfl,by kernel_rfl,by kernel_rfl,by kernel_rfl,of_decide_eq_true (by kernel_rfl)⟩⟩
theorem ok87:FnF Try.prog 87 fn87:=⟨⟨Try.f87,Try.func87,by kernel_rfl,by kernel_rfl,by kernel_rfl,by kernel_rfl,by kernel_rfl,of_decide_eq_true (by kernel_rfl)⟩⟩
theorem ok90:FnF Try.prog 90 fn90:=⟨⟨Try.f90,Try.func90,by kernel_rfl,by kernel_rfl,by kernel_rfl,by kernel_rfl,by kernel_rfl,of_decide_eq_true (by kernel_rfl)⟩⟩
theorem ok91:FnF Try.prog 91 fn91:=⟨⟨Try.f91,Try.func91,by kernel_rfl,by kernel_rfl,by kernel_rfl,by kernel_rfl,by kernel_rfl,of_decide_eq_true (by kernel_rfl)⟩⟩
theorem natok (W0:World):NatOK W0 Try.prog ctx:=natOK_nil rfl
theorem fnsok:FnsOK Try.prog ctx:=fnsL_ok ⟨ok3,ok5,ok6,ok7,ok8,ok9,ok10,ok11,ok12,ok13,ok19,ok20,ok21,ok22,ok23,ok24,ok25,ok26,ok27,ok28,ok29,ok30,ok31,ok32,ok33,ok34,ok35,ok36,ok37,ok38,ok39,ok40,ok41,ok42,ok58,ok59,ok60,ok61,ok62,ok63,ok64,ok65,ok66,ok67,ok68,ok69,ok70,ok71,ok72,ok73,ok74,ok75,ok81,ok82,ok83,ok84,ok85,ok86,ok87,ok90,ok91,trivial⟩
end Go.Proofs.Ytgoaegbddpmiiaa
