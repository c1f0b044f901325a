import Derived.Test.YtnbpmjfemeeecaaVmd
import Derived.Test.YtnbpmjfemeeecaaVC
import Derived.Tactics
namespace Go.Proofs.Ytnbpmjfemeeecaa
open Go.VK
theorem tok:TOK Try.prog ctx:=tok_of (by kernel_rfl) (fun f h=>by obtain rfl:234=f:=Option.some.inj h;exact ⟨⟨Try.f234,Try.func234,by kernel_rfl,by kernel_rfl,by kernel_rfl,by kernel_rfl⟩⟩) (by kernel_rfl) (by kernel_rfl)
theorem mixed:Try.prog.follows .mixedOrders=true:=by kernel_rfl
theorem ok6:FnF Try.prog 6 fn6:=⟨⟨Try.f6,Try.func6,by kernel_rfl,by kernel_rfl,by kernel_rfl,by kernel_rfl,by kernel_rfl,of_decide_eq_true (by kernel_rfl)⟩⟩
theorem ok30:FnF Try.prog 30 fn30:=⟨⟨Try.f30,Try.func30,by kernel_rfl,by kernel_rfl,by kernel_rfl,by kernel_rfl,by kernel_rfl,of_decide_eq_true (by kernel_rfl)⟩⟩
theorem ok31:FnF Try.prog 31 fn31:=⟨⟨Try.f31,Try.func31,by kernel_rfl,by kernel_rfl,by kernel_rfl,by kernel_rfl,by kernel_rfl,of_decide_eq_true (by kernel_rfl)⟩⟩
theorem ok32:FnF Try.prog 32 fn32:=⟨⟨Try.f32,Try.func32,by kernel_rfl,by kernel_rfl,by kernel_rfl,by kernel_rfl,by kernel_rfl,of_decide_eq_true (by kernel_rfl)⟩⟩
theorem ok33:FnF Try.prog 33 fn33:=⟨⟨Try.f33,Try.func33,by kernel_rfl,by kernel_rfl,by kernel_rfl,by kernel_rfl,by kernel_rfl,of_decide_eq_true (by kernel_rfl)⟩⟩
theorem ok34:FnF Try.prog 34 fn34:=⟨⟨Try.f34,Try.func34,by kernel_rfl,by kernel_rfl,by kernel_rfl,by kernel_rfl,by kernel_rfl,of_decide_eq_true (by kernel_rfl)⟩⟩
theorem ok38:FnF Try.prog 38 fn38:=⟨⟨Try.f38,Try.func38,by kernel_rfl,by kernel_rfl,by kernel_rfl,by kernel_rfl,by kernel_rfl,of_decide_eq_true (by kernel_rfl)⟩⟩
theorem ok40:FnF Try.prog 40 fn40:=⟨⟨Try.f40,Try.func40,by kernel_rfl,by kernel_rfl,by kernel_rfl,by kernel_rfl,by kernel_rfl,of_decide_eq_true (by kernel_rfl)⟩⟩
theorem ok75:FnF Try.prog 75 fn75:=⟨⟨Try.f75,Try.func75,by kernel_rfl,by kernel_rfl,by kernel_rfl,by kernel_rfl,by kernel_rfl,of_decide_eq_true (by kernel_rfl)⟩⟩
theorem ok81:FnF Try.prog 81 fn81:=⟨⟨Try.f81,Try.func81,by kernel_rfl,by kernel_rfl,by kernel_rfl,by kernel_rfl,by kernel_rfl,of_decide_eq_true (by kernel_rfl)⟩⟩
theorem ok82:FnF Try.prog 82 fn82:=⟨⟨Try.f82,Try.func82,by kernel_rfl,by kernel_rfl,by kernel_rfl,by kernel_rfl,by kernel_rfl,of_decide_eq_true (by kernel_rfl)⟩⟩
theorem ok83:FnF Try.prog 83 fn83:=⟨⟨Try.f83,Try.func83,by kernel_rfl,by kernel_rfl,by kernel_rfl,by kernel_rfl,by kernel_rfl,of_decide_eq_true (by kernel_rfl)⟩⟩
theorem ok84:FnF Try.prog 84 fn84:=⟨⟨Try.f84,Try.func84,by kernel_rfl,by kernel_rfl,by kernel_rfl,by kernel_rfl,by kernel_rfl,of_decide_eq_true (by kernel_rfl)⟩⟩
theorem ok85:FnF Try.prog 85 fn85:=⟨⟨Try.f85,Try.func85,by kernel_rfl,by kernel_rfl,by kernel_rfl,by kernel_rfl,by kernel_rfl,of_decide_eq_true (by kernel_rfl)⟩⟩
theorem ok86:FnF Try.prog 86 fn86:=⟨⟨Try.f86,Try.func86,by kernel_rfl,by kernel_rfl,by kernel_rfl,by kernel_rfl,by kernel_rfl,of_decide_eq_true (by kernel_rfl)⟩⟩
theorem ok87:FnF Try.prog 87 fn87:=⟨⟨Try.f87,Try.func87,by kernel_rfl,by kernel_rfl,by kernel_rfl,by kernel_rfl,by kernel_rfl,of_decide_eq_true (by kernel_rfl)⟩⟩
theorem ok88:FnF Try.prog 88 fn88:=⟨⟨Try.f88,Try.func88,by kernel_rfl,by kernel_rfl,by kernel_rfl,by kernel_rfl,by kernel_rfl,of_decide_eq_true (by kernel_rfl)⟩⟩
theorem ok89:FnF Try.prog 89 fn89:=⟨⟨Try.f89,Try.func89,by kernel_rfl,by kernel_rfl,by kernel_rfl,by kernel_rfl,by kernel_rfl,of_decide_eq_true (by kernel_rfl)⟩⟩
theorem ok90:FnF Try.prog 90 fn90:=⟨⟨Try.f90,Try.func90,by kernel_rfl,by kernel_rfl,by kernel_rfl,by kernel_rfl,by kernel_rfl,of_decide_eq_true (by kernel_rfl)⟩⟩
theorem ok91:FnF Try.prog 91 fn91:=⟨⟨Try.f91,Try.func91,by kernel_rfl,by kernel_rfl,by kernel_rfl,by kernel_rfl,by kernel_rfl,of_decide_eq_true (by kernel_rfl)⟩⟩
theorem ok92:FnF Try.prog 92 fn92:=⟨⟨Try.f92,Try.func92,by kernel_rfl,by kernel_rfl,by kernel_rfl,by kernel_rfl,by kernel_rfl,of_decide_eq_true (by kernel_rfl)⟩⟩
theorem ok93:FnF Try.prog 93 fn93:=⟨⟨Try.f93,Try.func93,by kernel_rfl,by kernel_rfl,by kernel_rfl,by kernel_rfl,by kernel_rfl,of_decide_eq_true (by kernel_rfl)⟩⟩
theorem ok94:FnF Try.prog 94 fn94:=⟨⟨Try.f94,Try.func94,by kernel_rfl,by kernel_rfl,by kernel_rfl,by kernel_rfl,by kernel_rfl,of_decide_eq_true (by kernel_rfl)⟩⟩
theorem ok135:FnF Try.prog 135 fn135:=⟨⟨Try.f135,Try.func135,by kernel_rfl,by kernel_rfl,by kernel_rfl,by kernel_rfl,by kernel_rfl,of_decide_eq_true (by kernel_rfl)⟩⟩
theorem ok144:FnF Try.prog 144 fn144:=⟨⟨Try.f144,Try.func144,by kernel_rfl,by kernel_rfl,by kernel_rfl,by kernel_rfl,by kernel_rfl,of_decide_eq_true (by kernel_rfl)⟩⟩
theorem ok145:FnF Try.prog 145 fn145:=⟨⟨Try.f145,Try.func145,by kernel_rfl,by kernel_rfl,by kernel_rfl,by kernel_rfl,by kernel_rfl,of_decide_eq_true (by kernel_rfl)⟩⟩
theorem ok146:FnF Try.prog 146 fn146:=⟨⟨Try.f146,Try.func146,by kernel_rfl,by kernel_rfl,by kernel_rfl,by kernel_rfl,by kernel_rfl,of_decide_eq_true (by kernel_rfl)⟩⟩
theorem ok147:FnF Try.prog 147 fn147:=⟨⟨Try.f147,Try.func147,by kernel_rfl,by kernel_rfl,by kernel_rfl,by kernel_rfl,by kernel_rfl,of_decide_eq_true (by kernel_rfl)⟩⟩
theorem ok148:FnF Try.prog 148 fn148:=⟨⟨Try.f148,Try.func148,by kernel_rfl,by kernel_rfl,by kernel_rfl,by kernel_rfl,by kernel_rfl,of_decide_eq_true (by kernel_rfl)⟩⟩
theorem ok149:FnF Try.prog 149 fn149:=⟨⟨Try.f149,Try.func149,by kernel_rfl,by kernel_rfl,by kernel_rfl,by kernel_rfl,by kernel_rfl,of_decide_eq_true (by kernel_rfl)⟩⟩
theorem ok150:FnF Try.prog 150 fn150:=⟨⟨Try.f150,Try.func150,by kernel_rfl,by kernel_rfl,by kernel_rfl,by kernel_rfl,by kernel_rfl,of_decide_eq_true (by kernel_rfl)⟩⟩
theorem ok151:FnF Try.prog 151 fn151:=⟨⟨Try.f151,Try.func151,by kernel_rfl,by kernel_rfl,by kernel_rfl,by kernel_rfl,by kernel_rfl,of_decide_eq_true (by kernel_rfl)⟩⟩
theorem ok152:FnF Try.prog 152 fn152:=⟨⟨Try.f152,Try.func152,by kernel_rfl,by kernel_rfl,by kernel_rfl,by kernel_rfl,by kernel_rfl,of_decide_eq_true (by kernel_rfl)⟩⟩
theorem ok153:FnF Try.prog 153 fn153:=⟨⟨Try.f153,Try.func153,by kernel_rfl,by kernel_rfl,by kernel_rfl,by kernel_rfl,by kernel_rfl,of_decide_eq_true (by kernel_rfl)⟩⟩
theorem ok154:FnF Try.prog 154 fn154:=⟨⟨Try.f154,Try.func154,by kernel_rfl,by kernel_rfl,by kernel_rfl,by kernel_rfl,by kernel_rfl,of_decide_eq_true (by kernel_rfl)⟩⟩
theorem ok155:FnF Try.prog 155 fn155:=⟨⟨Try.f155,Try.func155,by kernel_rfl,by kernel_rfl,by kernel_rfl,by kernel_rfl,by kernel_rfl,of_decide_eq_true (by kernel_rfl)⟩⟩
theorem ok156:FnF Try.prog 156 fn156:=⟨⟨Try.f156,Try.func156,by kernel_rfl,by kernel_rfl,by kernel_rfl,by kernel_rfl,by kernel_rfl,of_decide_eq_true (by kernel_rfl)⟩⟩
theorem ok157:FnF Try.prog 157 fn157:=⟨⟨Try.f157,Try.func157,by kernel_rfl,by kernel_rfl,by kernel_rfl,by kernel_rfl,by kernel_rfl,of_decide_eq_true (by kernel_rfl)⟩⟩
theorem ok158:FnF Try.prog 158 fn158:=⟨⟨Try.f158,Try.func158,by kernel_rfl,by kernel_rfl,by kernel_rfl,by kernel_rfl,by kernel_rfl,of_decide_eq_true (by kernel_rfl)⟩⟩
theorem ok159:FnF Try.prog 159 fn159:=⟨⟨Try.f159,Try.func159,by kernel_rfl,by kernel_rfl,by kernel_rfl,by kernel_rfl,by kernel_rfl,of_decide_eq_true (by kernel_rfl)⟩⟩
theorem ok160:FnF Try.prog 160 fn160:=⟨⟨Try.f160,Try.func160,by kernel_rfl,by kernel_rfl,by kernel_rfl,by kernel_rfl,by kernel_rfl,of_decide_eq_true (by kernel_rfl)⟩⟩
theorem ok161:FnF Try.prog 161 fn161:=⟨⟨Try.f161,Try.func161,by kernel_rfl,by kernel_rfl,by kernel_rfl,by kernel_rfl,by kernel_rfl,of_decide_eq_true (by kernel_rfl)⟩⟩
theorem ok162:FnF Try.prog 162 fn162:=⟨⟨Try.f162,Try.func162,by kernel_rfl,by kernel_rfl,by kernel_rfl,by kernel_rfl,by kernel_rfl,of_decide_eq_true (by kernel_rfl)⟩⟩
theorem ok163:FnF Try.prog 163 fn163:=⟨⟨Try.f163,Try.func163,by kernel_rfl,by kernel_rfl,by kernel_rfl,by kernel_rfl,by kernel_rfl,of_decide_eq_true (by kernel_rfl)⟩⟩
theorem ok193:FnF Try.prog 193 fn193:=⟨⟨Try.f193,Try.func193,by kernel_rfl,by kernel_rfl,by kernel_rfl,by kernel_rfl,by kernel_rfl,of_decide_eq_true (by kernel_rfl)⟩⟩
theorem ok194:FnF Try.prog 194 fn194:=⟨⟨Try.f194,Try.func194,by kernel_rfl,by kernel_rfl,by kernel_rfl,by kernel_rfl,by kernel_rfl,of_decide_eq_true (by kernel_rfl)⟩⟩
theorem ok195:FnF Try.prog 195 fn195:=⟨⟨Try.f195,Try.func195,by kernel_rfl,by kernel_rfl,by kernel_rfl,by kernel_rfl,by kernel_rfl,of_decide_eq_true (by kernel_rfl)⟩⟩
theorem ok196:FnF Try.prog 196 fn196:=⟨⟨Try.f196,Try.func196,by kernel_rfl,by kernel_rfl,by kernel_rfl,by kernel_rfl,by kernel_rfl,of_decide_eq_true (by kernel_rfl)⟩⟩
theorem ok197:FnF Try.prog 197 fn197:=⟨⟨Try.f197,Try.func197,by kernel_rfl,by kernel_rfl,by kernel_rfl,by kernel_rfl,by kernel_rfl,of_decide_eq_true (by kernel_rfl)⟩⟩
theorem ok198:FnF Try.prog 198 fn198:=⟨⟨Try.f198,Try.func198,by kernel_rfl,by kernel_rfl,by kernel_rfl,by kernel_rfl,by kernel_rfl,of_decide_eq_true (by kernel_rfl)⟩⟩
theorem ok199:FnF Try.prog 199 fn199:=⟨⟨Try.f199,Try.func199,by kernel_rfl,by kernel_rfl,by kernel_rfl,by kernel_rfl,by kernel_rfl,of_decide_eq_true (by kernel_rfl)⟩⟩
theorem ok200:FnF Try.prog 200 fn200:=⟨⟨Try.f200,Try.func200,by kernel_rfl,by kernel_rfl,by kernel_rfl,by kernel_rfl,by kernel_rfl,of_decide_eq_true (by kernel_rfl)⟩⟩
theorem ok216:FnF Try.prog 216 fn216:=⟨⟨Try.f216,Try.func216,by kernel_rfl,by kernel_rfl,by kernel_rfl,by kernel_rfl,by kernel_rfl,of_decide_eq_true (by kernel_rfl)⟩⟩
theorem ok217:FnF Try.prog 217 fn217:=⟨⟨Try.f217,Try.func217,by kernel_rfl,by kernel_rfl,by kernel_rfl,by kernel_rfl,by kernel_rfl,of_decide_eq_true (by kernel_rfl)⟩⟩
theorem ok218:FnF Try.prog 218 fn218:=⟨⟨Try.f218,Try.func218,by kernel_rfl,by kernel_rfl,by kernel_rfl,by kernel_rfl,by kernel_rfl,of_decide_eq_true (by kernel_rfl)⟩⟩
theorem natok (W0:World):NatOK W0 Try.prog ctx:=natOK_nil rfl
theorem fnsok:FnsOK Try.prog ctx:=fnsL_ok ⟨ok6,ok30,ok31,ok32,ok33,ok34,ok38,ok40,ok75,ok81,ok82,ok83,ok84,ok85,ok86,ok87,ok88,ok89,ok90,ok91,ok92,ok93,ok94,ok135,ok144,ok145,ok146,ok147,ok148,ok149,ok150,ok151,ok152,ok153,ok154,ok155,ok156,ok157,ok158,ok159,ok160,ok161,ok162,ok163,ok193,ok194,ok195,ok196,ok197,ok198,ok199,ok200,ok216,ok217,ok218,trivial⟩
end Go.Proofs.Ytnbpmjfemeeecaa
