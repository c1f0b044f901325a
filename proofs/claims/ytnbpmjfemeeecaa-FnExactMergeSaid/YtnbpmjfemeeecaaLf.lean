/- What is a tree among plain values, and what TreeOK gives; where the tree is not too large. -/
import Derived.Test.YtnbpmjfemeeecaaTo
namespace Go.Proofs.Ytnbpmjfemeeecaa
open Go.VK AVal
open Tr
theorem trees_of : ∀ {xs : List AVal}, (∀ y ∈ xs, ∃ r : Tr, y = av r ∧ wf r) → ∃ ks : List Tr, xs = avs ks ∧ wfs ks
  | [], _ => ⟨[], by simp [avs], by simp [wfs]⟩
  | y :: ys, h => by
    obtain ⟨r, rfl, hr⟩ := h y (by simp)
    obtain ⟨ks, rfl, hk⟩ := trees_of (xs := ys) fun z hz => h z (by simp [hz])
    exact ⟨r :: ks, by simp [avs], by simp [wfs, hr, hk]⟩
theorem fit_tree : ∀ (n : Nat) (x : AVal), SizeOf.sizeOf x < n → Fits ctx ty_laws_Tree x → ∃ r : Tr, x = av r ∧ wf r
  | 0, x, hn, _ => by omega
  | n + 1, x, hn, h => by
    obtain ⟨fs, rfl, g⟩ := h.struct' (us := [ty_string, ty_string, ty_bool, ty_S_laws_Tree]) (by kernel_rfl)
    obtain ⟨a, r, rfl, g1, g⟩ := g.cons'
    obtain ⟨b, r, rfl, g2, g⟩ := g.cons'
    obtain ⟨c, r, rfl, g3, g⟩ := g.cons'
    obtain ⟨d, r, rfl, g4, g⟩ := g.cons'
    obtain rfl := g.nil'
    obtain ⟨nm, rfl, w1⟩ := g1.str' (by kernel_rfl)
    obtain ⟨tx, rfl, w2⟩ := g2.str' (by kernel_rfl)
    obtain ⟨lf, rfl⟩ := g3.bool' (by kernel_rfl)
    obtain ⟨xs, rfl, w3, w4⟩ := g4.slice' (sz := 4) (e := ty_laws_Tree) (by kernel_rfl)
    obtain ⟨ks, rfl, hk⟩ := trees_of (xs := xs) fun y hy => fit_tree n y (by
      have := List.sizeOf_lt_of_mem hy
      rw [show List.flatMap AVal.cells [.str nm, .str tx, .bool lf, .ro false 4 xs] = [.str nm, .str tx, .bool lf, .ro false 4 xs] from rfl] at hn
      simp at hn
      omega) (w4 y hy)
    refine ⟨.mk nm tx lf ks, by simp [av, AVal.cells], ?_⟩
    rw [avs_len] at w3
    simp only [wf]
    exact ⟨w1, w2, w3, hk⟩
/-- what TreeOK gives -/
def tokB2 (t : Tr) : Bool := decide (cnt t ≤ 1000) && (decide (dep t ≤ 60) && rgt t)
theorem s30g (t : Tr) (h : sz t ≤ 9000000000000) : Fs_TreeOK t.name t.text t.leaf (avs t.kids) = some (tokB2 t) := by
  refine us_TreeOK _ _ _ _ ?_
  obtain ⟨v, e, a1, a2, a3⟩ := s65 t 1000 60 h (by omega) (by omega) (by omega) (by omega)
  rw [e]
  simp only [Option.bind_some, s66 t h, tokB2]
  by_cases g : 0 ≤ v
  · have h1 : cnt t ≤ 1000 := by have := a1.1 g; omega
    have h2 : dep t ≤ 60 := by have := a1.1 g; omega
    simp [g, h1, h2]
  · have : (decide (cnt t ≤ 1000) && (decide (dep t ≤ 60) && rgt t)) = false := by
      rw [Bool.eq_false_iff]
      intro h
      simp only [Bool.and_eq_true, decide_eq_true_eq] at h
      exact g (a1.2 (by omega))
    simp [g, this]
theorem s30 (t : Tr) (h : sz t ≤ 1048576) : Fs_TreeOK t.name t.text t.leaf (avs t.kids) = some (tokB2 t) := s30g t (by omega)
theorem s68t (t : Tr) (h : sz t ≤ 9000000000000) : ∃ a b, Fi_measure t.name t.text t.leaf (avs t.kids) 1 0 0 = some (tokB2 t, a, b) ∧ (tokB2 t = true → a = cnt t ∧ b = dep t) := by
  obtain ⟨a, b, e, f⟩ := s68 t 1 0 0 h (by omega) (by omega) (by omega) (by omega) (by omega) (by omega)
  have e1 : (0 + (cnt t : Int) ≤ 1000) ↔ cnt t ≤ 1000 := by omega
  have e2 : (1 + (dep t : Int) ≤ 61) ↔ dep t ≤ 60 := by omega
  refine ⟨a, b, by rw [e]; simp only [tokB2, e1, e2], fun h => ?_⟩
  simp only [tokB2, Bool.and_eq_true, decide_eq_true_eq] at h
  have := dep_pos t
  obtain ⟨x, y⟩ := f (by omega) (by omega) h.2.2
  omega
theorem s32g (t : Tr) (h : sz t ≤ 9000000000000) : Fi_TreeOK t.name t.text t.leaf (avs t.kids) = some (tokB2 t) := by
  refine ui_TreeOK _ _ _ _ ?_
  obtain ⟨a, b, e, _⟩ := s68t t h
  simp [e]
theorem s32 (t : Tr) (h : sz t ≤ 1048576) : Fi_TreeOK t.name t.text t.leaf (avs t.kids) = some (tokB2 t) := s32g t (by omega)
theorem arg_tree {xs : List AVal} (h : FitsL ctx [ty_laws_Tree] xs) : ∃ t : Tr, xs = [av t] ∧ wf t := by
  obtain ⟨x, r, rfl, h1, h⟩ := h.cons'
  obtain rfl := h.nil'
  obtain ⟨t, rfl, hw⟩ := fit_tree _ x (Nat.lt_succ_self _) h1
  exact ⟨t, rfl, hw⟩
end Go.Proofs.Ytnbpmjfemeeecaa
