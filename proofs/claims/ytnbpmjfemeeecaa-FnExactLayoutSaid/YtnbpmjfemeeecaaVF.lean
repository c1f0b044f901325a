import Derived.Test.YtnbpmjfemeeecaaVmd
import Derived.Test.YtnbpmjfemeeecaaVC
import Derived.Test.YtnbpmjfemeeecaaNw
import Derived.Tactics
namespace Go.Proofs.Ytnbpmjfemeeecaa
open Go.VK
theorem tok:TOK Try.prog ctx:=tok_of (by kernel_rfl) (fun f h=>by obtain rfl:234=f:=Option.some.inj h;exact ⟨⟨Try.f234,Try.func234,by kernel_rfl,by kernel_rfl,by kernel_rfl,by kernel_rfl⟩⟩) (by kernel_rfl) (by kernel_rfl)
theorem mixed:Try.prog.follows .mixedOrders=true:=by kernel_rfl
theorem ok5:FnF Try.prog 5 fn5:=⟨⟨Try.f5,Try.func5,by kernel_rfl,by kernel_rfl,by kernel_rfl,by kernel_rfl,by kernel_rfl,of_decide_eq_true (by kernel_rfl)⟩⟩
theorem ok21:FnF Try.prog 21 fn21:=⟨⟨Try.f21,Try.func21,by kernel_rfl,by kernel_rfl,by kernel_rfl,by kernel_rfl,by kernel_rfl,of_decide_eq_true (by kernel_rfl)⟩⟩
theorem ok23:FnF Try.prog 23 fn23:=⟨⟨Try.f23,Try.func23,by kernel_rfl,by kernel_rfl,by kernel_rfl,by kernel_rfl,by kernel_rfl,of_decide_eq_true (by kernel_rfl)⟩⟩
theorem ok26:FnF Try.prog 26 fn26:=⟨⟨Try.f26,Try.func26,by kernel_rfl,by kernel_rfl,by kernel_rfl,by kernel_rfl,by kernel_rfl,of_decide_eq_true (by kernel_rfl)⟩⟩
theorem ok28:FnF Try.prog 28 fn28:=⟨⟨Try.f28,Try.func28,by kernel_rfl,by kernel_rfl,by kernel_rfl,by kernel_rfl,by kernel_rfl,of_decide_eq_true (by kernel_rfl)⟩⟩
theorem ok29:FnF Try.prog 29 fn29:=⟨⟨Try.f29,Try.func29,by kernel_rfl,by kernel_rfl,by kernel_rfl,by kernel_rfl,by kernel_rfl,of_decide_eq_true (by kernel_rfl)⟩⟩
theorem ok38:FnF Try.prog 38 fn38:=⟨⟨Try.f38,Try.func38,by kernel_rfl,by kernel_rfl,by kernel_rfl,by kernel_rfl,by kernel_rfl,of_decide_eq_true (by kernel_rfl)⟩⟩
theorem ok40:FnF Try.prog 40 fn40:=⟨⟨Try.f40,Try.func40,by kernel_rfl,by kernel_rfl,by kernel_rfl,by kernel_rfl,by kernel_rfl,of_decide_eq_true (by kernel_rfl)⟩⟩
theorem ok66:FnF Try.prog 66 fn66:=⟨⟨Try.f66,Try.func66,by kernel_rfl,by kernel_rfl,by kernel_rfl,by kernel_rfl,by kernel_rfl,of_decide_eq_true (by kernel_rfl)⟩⟩
theorem ok67:FnF Try.prog 67 fn67:=⟨⟨Try.f67,Try.func67,by kernel_rfl,by kernel_rfl,by kernel_rfl,by kernel_rfl,by kernel_rfl,of_decide_eq_true (by kernel_rfl)⟩⟩
theorem ok68:FnF Try.prog 68 fn68:=⟨⟨Try.f68,Try.func68,by kernel_rfl,by kernel_rfl,by kernel_rfl,by kernel_rfl,by kernel_rfl,of_decide_eq_true (by kernel_rfl)⟩⟩
theorem ok69:FnF Try.prog 69 fn69:=⟨⟨Try.f69,Try.func69,by kernel_rfl,by kernel_rfl,by kernel_rfl,by kernel_rfl,by kernel_rfl,of_decide_eq_true (by kernel_rfl)⟩⟩
theorem ok70:FnF Try.prog 70 fn70:=⟨⟨Try.f70,Try.func70,by kernel_rfl,by kernel_rfl,by kernel_rfl,by kernel_rfl,by kernel_rfl,of_decide_eq_true (by kernel_rfl)⟩⟩
theorem ok71:FnF Try.prog 71 fn71:=⟨⟨Try.f71,Try.func71,by kernel_rfl,by kernel_rfl,by kernel_rfl,by kernel_rfl,by kernel_rfl,of_decide_eq_true (by kernel_rfl)⟩⟩
theorem ok72:FnF Try.prog 72 fn72:=⟨⟨Try.f72,Try.func72,by kernel_rfl,by kernel_rfl,by kernel_rfl,by kernel_rfl,by kernel_rfl,of_decide_eq_true (by kernel_rfl)⟩⟩
theorem ok73:FnF Try.prog 73 fn73:=⟨⟨Try.f73,Try.func73,by kernel_rfl,by kernel_rfl,by kernel_rfl,by kernel_rfl,by kernel_rfl,of_decide_eq_true (by kernel_rfl)⟩⟩
theorem ok74:FnF Try.prog 74 fn74:=⟨⟨Try.f74,Try.func74,by kernel_rfl,by kernel_rfl,by kernel_rfl,by kernel_rfl,by kernel_rfl,of_decide_eq_true (by kernel_rfl)⟩⟩
theorem ok75:FnF Try.prog 75 fn75:=⟨⟨Try.f75,Try.func75,by kernel_rfl,by kernel_rfl,by kernel_rfl,by kernel_rfl,by kernel_rfl,of_decide_eq_true (by kernel_rfl)⟩⟩
theorem ok76:FnF Try.prog 76 fn76:=⟨⟨Try.f76,Try.func76,by kernel_rfl,by kernel_rfl,by kernel_rfl,by kernel_rfl,by kernel_rfl,of_decide_eq_true (by kernel_rfl)⟩⟩
theorem ok77:FnF Try.prog 77 fn77:=⟨⟨Try.f77,Try.func77,by kernel_rfl,by kernel_rfl,by kernel_rfl,by kernel_rfl,by kernel_rfl,of_decide_eq_true (by kernel_rfl)⟩⟩
theorem ok78:FnF Try.prog 78 fn78:=⟨⟨Try.f78,Try.func78,by kernel_rfl,by kernel_rfl,by kernel_rfl,by kernel_rfl,by kernel_rfl,of_decide_eq_true (by kernel_rfl)⟩⟩
theorem ok79:FnF Try.prog 79 fn79:=⟨⟨Try.f79,Try.func79,by kernel_rfl,by kernel_rfl,by kernel_rfl,by kernel_rfl,by kernel_rfl,of_decide_eq_true (by kernel_rfl)⟩⟩
theorem ok80:FnF Try.prog 80 fn80:=⟨⟨Try.f80,Try.func80,by kernel_rfl,by kernel_rfl,by kernel_rfl,by kernel_rfl,by kernel_rfl,of_decide_eq_true (by kernel_rfl)⟩⟩
theorem ok135:FnF Try.prog 135 fn135:=⟨⟨Try.f135,Try.func135,by kernel_rfl,by kernel_rfl,by kernel_rfl,by kernel_rfl,by kernel_rfl,of_decide_eq_true (by kernel_rfl)⟩⟩
theorem ok136:FnF Try.prog 136 fn136:=⟨⟨Try.f136,Try.func136,by kernel_rfl,by kernel_rfl,by kernel_rfl,by kernel_rfl,by kernel_rfl,of_decide_eq_true (by kernel_rfl)⟩⟩
theorem ok137:FnF Try.prog 137 fn137:=⟨⟨Try.f137,Try.func137,by kernel_rfl,by kernel_rfl,by kernel_rfl,by kernel_rfl,by kernel_rfl,of_decide_eq_true (by kernel_rfl)⟩⟩
theorem ok138:FnF Try.prog 138 fn138:=⟨⟨Try.f138,Try.func138,by kernel_rfl,by kernel_rfl,by kernel_rfl,by kernel_rfl,by kernel_rfl,of_decide_eq_true (by kernel_rfl)⟩⟩
theorem ok139:FnF Try.prog 139 fn139:=⟨⟨Try.f139,Try.func139,by kernel_rfl,by kernel_rfl,by kernel_rfl,by kernel_rfl,by kernel_rfl,of_decide_eq_true (by kernel_rfl)⟩⟩
theorem ok140:FnF Try.prog 140 fn140:=⟨⟨Try.f140,Try.func140,by kernel_rfl,by kernel_rfl,by kernel_rfl,by kernel_rfl,by kernel_rfl,of_decide_eq_true (by kernel_rfl)⟩⟩
theorem ok141:FnF Try.prog 141 fn141:=⟨⟨Try.f141,Try.func141,by kernel_rfl,by kernel_rfl,by kernel_rfl,by kernel_rfl,by kernel_rfl,of_decide_eq_true (by kernel_rfl)⟩⟩
theorem ok142:FnF Try.prog 142 fn142:=⟨⟨Try.f142,Try.func142,by kernel_rfl,by kernel_rfl,by kernel_rfl,by kernel_rfl,by kernel_rfl,of_decide_eq_true (by kernel_rfl)⟩⟩
theorem ok143:FnF Try.prog 143 fn143:=⟨⟨Try.f143,Try.func143,by kernel_rfl,by kernel_rfl,by kernel_rfl,by kernel_rfl,by kernel_rfl,of_decide_eq_true (by kernel_rfl)⟩⟩
theorem ok185:FnF Try.prog 185 fn185:=⟨⟨Try.f185,Try.func185,by kernel_rfl,by kernel_rfl,by kernel_rfl,by kernel_rfl,by kernel_rfl,of_decide_eq_true (by kernel_rfl)⟩⟩
theorem ok186:FnF Try.prog 186 fn186:=⟨⟨Try.f186,Try.func186,by kernel_rfl,by kernel_rfl,by kernel_rfl,by kernel_rfl,by kernel_rfl,of_decide_eq_true (by kernel_rfl)⟩⟩
theorem ok187:FnF Try.prog 187 fn187:=⟨⟨Try.f187,Try.func187,by kernel_rfl,by kernel_rfl,by kernel_rfl,by kernel_rfl,by kernel_rfl,of_decide_eq_true (by kernel_rfl)⟩⟩
theorem ok210:FnF Try.prog 210 fn210:=⟨⟨Try.f210,Try.func210,by kernel_rfl,by kernel_rfl,by kernel_rfl,by kernel_rfl,by kernel_rfl,of_decide_eq_true (by kernel_rfl)⟩⟩
theorem ok221:FnF Try.prog 221 fn221:=⟨⟨Try.f221,Try.func221,by kernel_rfl,by kernel_rfl,by kernel_rfl,by kernel_rfl,by kernel_rfl,of_decide_eq_true (by kernel_rfl)⟩⟩
theorem ok225:FnF Try.prog 225 fn225:=⟨⟨Try.f225,Try.func225,by kernel_rfl,by kernel_rfl,by kernel_rfl,by kernel_rfl,by kernel_rfl,of_decide_eq_true (by kernel_rfl)⟩⟩
theorem ok227:FnF Try.prog 227 fn227:=⟨⟨Try.f227,Try.func227,by kernel_rfl,by kernel_rfl,by kernel_rfl,by kernel_rfl,by kernel_rfl,of_decide_eq_true (by kernel_rfl)⟩⟩
theorem ok228:FnF Try.prog 228 fn228:=⟨⟨Try.f228,Try.func228,by kernel_rfl,by kernel_rfl,by kernel_rfl,by kernel_rfl,by kernel_rfl,of_decide_eq_true (by kernel_rfl)⟩⟩
theorem ok235:FnF Try.prog 235 fn235:=⟨⟨Try.f235,Try.func235,by kernel_rfl,by kernel_rfl,by kernel_rfl,by kernel_rfl,by kernel_rfl,of_decide_eq_true (by kernel_rfl)⟩⟩
theorem natok (W0:World):NatOK W0 Try.prog ctx:=natOK_of rfl (natsL_cons (nat_writeString writeString_ok rfl) (natsL_cons (nat_repeat repeat_ok) (natsL_cons (nat_string string_ok rfl) natsL_nil)))
theorem fnsok:FnsOK Try.prog ctx:=fnsL_ok ⟨ok5,ok21,ok23,ok26,ok28,ok29,ok38,ok40,ok66,ok67,ok68,ok69,ok70,ok71,ok72,ok73,ok74,ok75,ok76,ok77,ok78,ok79,ok80,ok135,ok136,ok137,ok138,ok139,ok140,ok141,ok142,ok143,ok185,ok186,ok187,ok210,ok221,ok225,ok227,ok228,ok235,trivial⟩
end Go.Proofs.Ytnbpmjfemeeecaa
