/- The law TableOK answers true at all plain arguments; no condition. -/
import Derived.Test.YtfniojpjlachoaaTb
namespace Go.Proofs.Ytfniojpjlachoaa
open Go.VK AVal
theorem lawTb (ts : List TermD) (ns : List ByteArray) (own : Int) (ps : List ProdD) (aa : List (List ActD)) (gs : List (List Int)) (h1 : wfBnf (ts, ns, own, ps)) (h2 : wfTable (aa, gs)) :
    Fl_FnExactTableOK (ts.map avTerm) (ns.map sv) own (ps.map avProd) (aa.map avActS) (gs.map avIntS) = some true := by
  refine ul_FnExactTableOK _ _ _ _ _ _ ?_
  have t1 := tzBnf (ts, ns, own, ps) 1048576 h1 (by omega) (by omega)
  simp only at t1
  simp only [t1, Option.bind_some]
  by_cases g : szR 1048576 (szBnf (ts, ns, own, ps)) < 0
  · simp only [g, decide_true, cond_true]
  obtain ⟨b1, b2⟩ := szR_le _ _ g
  have z1 := szR_nn g
  have t2 := tzTable (aa, gs) (szR 1048576 (szBnf (ts, ns, own, ps))) h2 b1 b2
  rw [szR_step g] at t2
  simp only at t2
  simp only [g, decide_false, cond_false, t2, Option.bind_some]
  by_cases g' : szR 1048576 (szBnf (ts, ns, own, ps) + szTable (aa, gs)) < 0
  · simp only [g', decide_true, cond_true]
  have z2 := szR_nn g'
  have y1 : szBnf (ts, ns, own, ps) ≤ 1048576 := by omega
  have y2 : szTable (aa, gs) ≤ 1048576 := by omega
  have e1 := toBnf (ts, ns, own, ps) y1
  have e2 := eqBnf (ts, ns, own, ps) y1
  have e3 := toTable (aa, gs) y2
  have e4 := eqTable (aa, gs) y2
  simp only at e1 e2 e3 e4
  simp only [g', decide_false, cond_false, e1, e2, e3, e4, Option.bind_some, asRoL_map2 asRo_Term, asRoL_map2 asRo_sv, asRoL_map2 asRo_Prod, asRoL_map2 asRo_ActS, asRoL_map2 asRo_IntS, tb_spec, tb_impl, beq_self_eq_true, Bool.not_true]
theorem lawTableOK : ∀ xs, FitsL ctx [ty_laws_Bnf, ty_laws_Table] xs → ∃ k, vcall ctx k n_l_FnExactTableOK xs [] = some ([.bool true], []) := by
  intro xs h
  obtain ⟨x, r, rfl, h1, h⟩ := h.cons'
  obtain ⟨y, r, rfl, h2, h⟩ := h.cons'
  obtain rfl := h.nil'
  obtain ⟨⟨ts, ns, own, ps⟩, rfl, w1⟩ := fitBnf h1
  obtain ⟨⟨aa, gs⟩, rfl, w2⟩ := fitTable h2
  exact law_of (S := sgl_FnExactTableOK) (a := (ts.map avTerm, ns.map sv, own, ps.map avProd, aa.map avActS, gs.map avIntS)) (lawTb ts ns own ps aa gs w1 w2) rfl rfl
end Go.Proofs.Ytfniojpjlachoaa
