import Derived.Test.YtnbpmjfemeeecaaVmd
import Derived.Test.YtnbpmjfemeeecaaVC
import Derived.Tactics
namespace Go.Proofs.Ytnbpmjfemeeecaa
open Go.VK

theorem tok : TOK Try.prog ctx := tok_of (by kernel_rfl) (fun f h => by obtain rfl : 234 = f := Option.some.inj h; exact ⟨⟨Try.f234, Try.func234, by kernel_rfl, by kernel_rfl, by kernel_rfl, by kernel_rfl⟩⟩) (by kernel_rfl) (by kernel_rfl)
theorem mixed : Try.prog.follows .mixedOrders = true := by kernel_rfl
theorem ok3 : FnF Try.prog 3 fn3 := ⟨⟨Try.f3, Try.func3, by kernel_rfl, by kernel_rfl, by kernel_rfl, by kernel_rfl, by kernel_rfl, of_decide_eq_true (by kernel_rfl)⟩⟩
theorem ok11 : FnF Try.prog 11 fn11 := ⟨⟨Try.f11, Try.func11, by kernel_rfl, by kernel_rfl, by kernel_rfl, by kernel_rfl, by kernel_rfl, of_decide_eq_true (by kernel_rfl)⟩⟩
theorem ok12 : FnF Try.prog 12 fn12 := ⟨⟨Try.f12, Try.func12, by kernel_rfl, by kernel_rfl, by kernel_rfl, by kernel_rfl, by kernel_rfl, of_decide_eq_true (by kernel_rfl)⟩⟩
theorem ok13 : FnF Try.prog 13 fn13 := ⟨⟨Try.f13, Try.func13, by kernel_rfl, by kernel_rfl, by kernel_rfl, by kernel_rfl, by kernel_rfl, of_decide_eq_true (by kernel_rfl)⟩⟩
theorem ok14 : FnF Try.prog 14 fn14 := ⟨⟨Try.f14, Try.func14, by kernel_rfl, by kernel_rfl, by kernel_rfl, by kernel_rfl, by kernel_rfl, of_decide_eq_true (by kernel_rfl)⟩⟩
theorem ok15 : FnF Try.prog 15 fn15 := ⟨⟨Try.f15, Try.func15, by kernel_rfl, by kernel_rfl, by kernel_rfl, by kernel_rfl, by kernel_rfl, of_decide_eq_true (by kernel_rfl)⟩⟩
theorem ok16 : FnF Try.prog 16 fn16 := ⟨⟨Try.f16, Try.func16, by kernel_rfl, by kernel_rfl, by kernel_rfl, by kernel_rfl, by kernel_rfl, of_decide_eq_true (by kernel_rfl)⟩⟩
theorem ok17 : FnF Try.prog 17 fn17 := ⟨⟨Try.f17, Try.func17, by kernel_rfl, by kernel_rfl, by kernel_rfl, by kernel_rfl, by kernel_rfl, of_decide_eq_true (by kernel_rfl)⟩⟩
theorem ok18 : FnF Try.prog 18 fn18 := ⟨⟨Try.f18, Try.func18, by kernel_rfl, by kernel_rfl, by kernel_rfl, by kernel_rfl, by kernel_rfl, of_decide_eq_true (by kernel_rfl)⟩⟩
theorem ok19 : FnF Try.prog 19 fn19 := ⟨⟨Try.f19, Try.func19, by kernel_rfl, by kernel_rfl, by kernel_rfl, by kernel_rfl, by kernel_rfl, of_decide_eq_true (by kernel_rfl)⟩⟩
theorem ok20 : FnF Try.prog 20 fn20 := ⟨⟨Try.f20, Try.func20, by kernel_rfl, by kernel_rfl, by kernel_rfl, by kernel_rfl, by kernel_rfl, of_decide_eq_true (by kernel_rfl)⟩⟩
theorem ok40 : FnF Try.prog 40 fn40 := ⟨⟨Try.f40, Try.func40, by kernel_rfl, by kernel_rfl, by kernel_rfl, by kernel_rfl, by kernel_rfl, of_decide_eq_true (by kernel_rfl)⟩⟩
theorem ok44 : FnF Try.prog 44 fn44 := ⟨⟨Try.f44, Try.func44, by kernel_rfl, by kernel_rfl, by kernel_rfl, by kernel_rfl, by kernel_rfl, of_decide_eq_true (by kernel_rfl)⟩⟩
theorem ok45 : FnF Try.prog 45 fn45 := ⟨⟨Try.f45, Try.func45, by kernel_rfl, by kernel_rfl, by kernel_rfl, by kernel_rfl, by kernel_rfl, of_decide_eq_true (by kernel_rfl)⟩⟩
theorem ok55 : FnF Try.prog 55 fn55 := ⟨⟨Try.f55, Try.func55, by kernel_rfl, by kernel_rfl, by kernel_rfl, by kernel_rfl, by kernel_rfl, of_decide_eq_true (by kernel_rfl)⟩⟩
theorem ok56 : FnF Try.prog 56 fn56 := ⟨⟨Try.f56, Try.func56, by kernel_rfl, by kernel_rfl, by kernel_rfl, by kernel_rfl, by kernel_rfl, of_decide_eq_true (by kernel_rfl)⟩⟩
theorem ok57 : FnF Try.prog 57 fn57 := ⟨⟨Try.f57, Try.func57, by kernel_rfl, by kernel_rfl, by kernel_rfl, by kernel_rfl, by kernel_rfl, of_decide_eq_true (by kernel_rfl)⟩⟩
theorem ok58 : FnF Try.prog 58 fn58 := ⟨⟨Try.f58, Try.func58, by kernel_rfl, by kernel_rfl, by kernel_rfl, by kernel_rfl, by kernel_rfl, of_decide_eq_true (by kernel_rfl)⟩⟩
theorem ok59 : FnF Try.prog 59 fn59 := ⟨⟨Try.f59, Try.func59, by kernel_rfl, by kernel_rfl, by kernel_rfl, by kernel_rfl, by kernel_rfl, of_decide_eq_true (by kernel_rfl)⟩⟩
theorem ok60 : FnF Try.prog 60 fn60 := ⟨⟨Try.f60, Try.func60, by kernel_rfl, by kernel_rfl, by kernel_rfl, by kernel_rfl, by kernel_rfl, of_decide_eq_true (by kernel_rfl)⟩⟩
theorem ok61 : FnF Try.prog 61 fn61 := ⟨⟨Try.f61, Try.func61, by kernel_rfl, by kernel_rfl, by kernel_rfl, by kernel_rfl, by kernel_rfl, of_decide_eq_true (by kernel_rfl)⟩⟩
theorem ok62 : FnF Try.prog 62 fn62 := ⟨⟨Try.f62, Try.func62, by kernel_rfl, by kernel_rfl, by kernel_rfl, by kernel_rfl, by kernel_rfl, of_decide_eq_true (by kernel_rfl)⟩⟩
theorem ok63 : FnF Try.prog 63 fn63 := ⟨⟨Try.f63, Try.func63, by kernel_rfl, by kernel_rfl, by kernel_rfl, by kernel_rfl, by kernel_rfl, of_decide_eq_true (by kernel_rfl)⟩⟩
theorem ok64 : FnF Try.prog 64 fn64 := ⟨⟨Try.f64, Try.func64, by kernel_rfl, by kernel_rfl, by kernel_rfl, by kernel_rfl, by kernel_rfl, of_decide_eq_true (by kernel_rfl)⟩⟩
theorem ok65 : FnF Try.prog 65 fn65 := ⟨⟨Try.f65, Try.func65, by kernel_rfl, by kernel_rfl, by kernel_rfl, by kernel_rfl, by kernel_rfl, of_decide_eq_true (by kernel_rfl)⟩⟩
theorem ok123 : FnF Try.prog 123 fn123 := ⟨⟨Try.f123, Try.func123, by kernel_rfl, by kernel_rfl, by kernel_rfl, by kernel_rfl, by kernel_rfl, of_decide_eq_true (by kernel_rfl)⟩⟩
theorem ok124 : FnF Try.prog 124 fn124 := ⟨⟨Try.f124, Try.func124, by kernel_rfl, by kernel_rfl, by kernel_rfl, by kernel_rfl, by kernel_rfl, of_decide_eq_true (by kernel_rfl)⟩⟩
theorem ok125 : FnF Try.prog 125 fn125 := ⟨⟨Try.f125, Try.func125, by kernel_rfl, by kernel_rfl, by kernel_rfl, by kernel_rfl, by kernel_rfl, of_decide_eq_true (by kernel_rfl)⟩⟩
theorem ok126 : FnF Try.prog 126 fn126 := ⟨⟨Try.f126, Try.func126, by kernel_rfl, by kernel_rfl, by kernel_rfl, by kernel_rfl, by kernel_rfl, of_decide_eq_true (by kernel_rfl)⟩⟩
theorem ok127 : FnF Try.prog 127 fn127 := ⟨⟨Try.f127, Try.func127, by kernel_rfl, by kernel_rfl, by kernel_rfl, by kernel_rfl, by kernel_rfl, of_decide_eq_true (by kernel_rfl)⟩⟩
theorem ok128 : FnF Try.prog 128 fn128 := ⟨⟨Try.f128, Try.func128, by kernel_rfl, by kernel_rfl, by kernel_rfl, by kernel_rfl, by kernel_rfl, of_decide_eq_true (by kernel_rfl)⟩⟩
theorem ok129 : FnF Try.prog 129 fn129 := ⟨⟨Try.f129, Try.func129, by kernel_rfl, by kernel_rfl, by kernel_rfl, by kernel_rfl, by kernel_rfl, of_decide_eq_true (by kernel_rfl)⟩⟩
theorem ok130 : FnF Try.prog 130 fn130 := ⟨⟨Try.f130, Try.func130, by kernel_rfl, by kernel_rfl, by kernel_rfl, by kernel_rfl, by kernel_rfl, of_decide_eq_true (by kernel_rfl)⟩⟩
theorem ok131 : FnF Try.prog 131 fn131 := ⟨⟨Try.f131, Try.func131, by kernel_rfl, by kernel_rfl, by kernel_rfl, by kernel_rfl, by kernel_rfl, of_decide_eq_true (by kernel_rfl)⟩⟩
theorem ok132 : FnF Try.prog 132 fn132 := ⟨⟨Try.f132, Try.func132, by kernel_rfl, by kernel_rfl, by kernel_rfl, by kernel_rfl, by kernel_rfl, of_decide_eq_true (by kernel_rfl)⟩⟩
theorem ok133 : FnF Try.prog 133 fn133 := ⟨⟨Try.f133, Try.func133, by kernel_rfl, by kernel_rfl, by kernel_rfl, by kernel_rfl, by kernel_rfl, of_decide_eq_true (by kernel_rfl)⟩⟩
theorem ok134 : FnF Try.prog 134 fn134 := ⟨⟨Try.f134, Try.func134, by kernel_rfl, by kernel_rfl, by kernel_rfl, by kernel_rfl, by kernel_rfl, of_decide_eq_true (by kernel_rfl)⟩⟩
theorem ok148 : FnF Try.prog 148 fn148 := ⟨⟨Try.f148, Try.func148, by kernel_rfl, by kernel_rfl, by kernel_rfl, by kernel_rfl, by kernel_rfl, of_decide_eq_true (by kernel_rfl)⟩⟩
theorem ok153 : FnF Try.prog 153 fn153 := ⟨⟨Try.f153, Try.func153, by kernel_rfl, by kernel_rfl, by kernel_rfl, by kernel_rfl, by kernel_rfl, of_decide_eq_true (by kernel_rfl)⟩⟩
theorem ok181 : FnF Try.prog 181 fn181 := ⟨⟨Try.f181, Try.func181, by kernel_rfl, by kernel_rfl, by kernel_rfl, by kernel_rfl, by kernel_rfl, of_decide_eq_true (by kernel_rfl)⟩⟩
theorem ok182 : FnF Try.prog 182 fn182 := ⟨⟨Try.f182, Try.func182, by kernel_rfl, by kernel_rfl, by kernel_rfl, by kernel_rfl, by kernel_rfl, of_decide_eq_true (by kernel_rfl)⟩⟩
theorem ok183 : FnF Try.prog 183 fn183 := ⟨⟨Try.f183, Try.func183, by kernel_rfl, by kernel_rfl, by kernel_rfl, by kernel_rfl, by kernel_rfl, of_decide_eq_true (by kernel_rfl)⟩⟩
theorem ok184 : FnF Try.prog 184 fn184 := ⟨⟨Try.f184, Try.func184, by kernel_rfl, by kernel_rfl, by kernel_rfl, by kernel_rfl, by kernel_rfl, of_decide_eq_true (by kernel_rfl)⟩⟩
theorem ok193 : FnF Try.prog 193 fn193 := ⟨⟨Try.f193, Try.func193, by kernel_rfl, by kernel_rfl, by kernel_rfl, by kernel_rfl, by kernel_rfl, of_decide_eq_true (by kernel_rfl)⟩⟩
theorem ok194 : FnF Try.prog 194 fn194 := ⟨⟨Try.f194, Try.func194, by kernel_rfl, by kernel_rfl, by kernel_rfl, by kernel_rfl, by kernel_rfl, of_decide_eq_true (by kernel_rfl)⟩⟩
theorem ok198 : FnF Try.prog 198 fn198 := ⟨⟨Try.f198, Try.func198, by kernel_rfl, by kernel_rfl, by kernel_rfl, by kernel_rfl, by kernel_rfl, of_decide_eq_true (by kernel_rfl)⟩⟩
theorem ok199 : FnF Try.prog 199 fn199 := ⟨⟨Try.f199, Try.func199, by kernel_rfl, by kernel_rfl, by kernel_rfl, by kernel_rfl, by kernel_rfl, of_decide_eq_true (by kernel_rfl)⟩⟩
theorem ok208 : FnF Try.prog 208 fn208 := ⟨⟨Try.f208, Try.func208, by kernel_rfl, by kernel_rfl, by kernel_rfl, by kernel_rfl, by kernel_rfl, of_decide_eq_true (by kernel_rfl)⟩⟩
theorem ok209 : FnF Try.prog 209 fn209 := ⟨⟨Try.f209, Try.func209, by kernel_rfl, by kernel_rfl, by kernel_rfl, by kernel_rfl, by kernel_rfl, of_decide_eq_true (by kernel_rfl)⟩⟩
theorem ok216 : FnF Try.prog 216 fn216 := ⟨⟨Try.f216, Try.func216, by kernel_rfl, by kernel_rfl, by kernel_rfl, by kernel_rfl, by kernel_rfl, of_decide_eq_true (by kernel_rfl)⟩⟩
theorem ok217 : FnF Try.prog 217 fn217 := ⟨⟨Try.f217, Try.func217, by kernel_rfl, by kernel_rfl, by kernel_rfl, by kernel_rfl, by kernel_rfl, of_decide_eq_true (by kernel_rfl)⟩⟩
theorem natok (W0 : World) : NatOK W0 Try.prog ctx := natOK_nil rfl
theorem fnsok : FnsOK Try.prog ctx := fnsL_ok ⟨ok3, ok11, ok12, ok13, ok14, ok15, ok16, ok17, ok18, ok19, ok20, ok40, ok44, ok45, ok55, ok56, ok57, ok58, ok59, ok60, ok61, ok62, ok63, ok64, ok65, ok123, ok124, ok125, ok126, ok127, ok128, ok129, ok130, ok131, ok132, ok133, ok134, ok148, ok153, ok181, ok182, ok183, ok184, ok193, ok194, ok198, ok199, ok208, ok209, ok216, ok217, trivial⟩

end Go.Proofs.Ytnbpmjfemeeecaa
