/- The law BnfOK answers true at all plain arguments; no condition. -/
import Derived.Test.YtfniojpjlachoaaBo
namespace Go.Proofs.Ytfniojpjlachoaa
open Go.VK AVal
theorem lawBo (ts : List TermD) (ns : List ByteArray) (own : Int) (ps : List ProdD) (h : wfBnf (ts, ns, own, ps)) :
    Fl_FnExactBnfOK (ts.map avTerm) (ns.map sv) own (ps.map avProd) = some true := by
  refine ul_FnExactBnfOK _ _ _ _ ?_
  have t1 := tzBnf (ts, ns, own, ps) 1048576 h (by omega) (by omega)
  simp only at t1
  simp only [t1, Option.bind_some]
  by_cases g : szR 1048576 (szBnf (ts, ns, own, ps)) < 0
  · simp only [g, decide_true, cond_true]
  have z := szR_nn g
  have z : szBnf (ts, ns, own, ps) ≤ 1048576 := by omega
  have e1 := toBnf (ts, ns, own, ps) z
  have e2 := eqBnf (ts, ns, own, ps) z
  simp only at e1 e2
  simp only [g, decide_false, cond_false, e1, e2, Option.bind_some, asRoL_map2 asRo_Term, asRoL_map2 asRo_sv, asRoL_map2 asRo_Prod, bo_spec, bo_impl, beq_self_eq_true, Bool.not_true]
theorem lawBnfOK : ∀ xs, FitsL ctx [ty_laws_Bnf] xs → ∃ k, vcall ctx k n_l_FnExactBnfOK xs [] = some ([.bool true], []) := by
  intro xs h
  obtain ⟨x, r, rfl, h1, h⟩ := h.cons'
  obtain rfl := h.nil'
  obtain ⟨⟨ts, ns, own, ps⟩, rfl, w1⟩ := fitBnf h1
  exact law_of (S := sgl_FnExactBnfOK) (a := (ts.map avTerm, ns.map sv, own, ps.map avProd)) (lawBo ts ns own ps w1) rfl rfl
end Go.Proofs.Ytfniojpjlachoaa
