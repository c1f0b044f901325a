/- Sums over ranges, and equations counted: plain. -/
import Derived.Test.YtlgdkbacfgjcnaaAu
namespace Go.Proofs.Ytlgdkbacfgjcnaa
open Go.VK AVal
def sumN (c : Nat → Nat) : Nat → Nat
  | 0 => 0
  | n + 1 => sumN c n + c n
theorem sumN_congr {c d : Nat → Nat} : ∀ {n : Nat}, (∀ j, j < n → c j = d j) → sumN c n = sumN d n
  | 0, _ => rfl
  | n + 1, h => by
    have ih := sumN_congr (n := n) fun j hj => h j (Nat.lt_succ_of_lt hj)
    have hn := h n (Nat.lt_succ_self n)
    simp only [sumN]; omega
theorem sumN_zero {c : Nat → Nat} : ∀ {n : Nat}, (∀ j, j < n → c j = 0) → sumN c n = 0
  | 0, _ => rfl
  | n + 1, h => by
    have ih := sumN_zero (n := n) fun j hj => h j (Nat.lt_succ_of_lt hj)
    have hn := h n (Nat.lt_succ_self n)
    simp only [sumN]; omega
theorem sumN_add (c d : Nat → Nat) : ∀ n : Nat, sumN (fun j => c j + d j) n = sumN c n + sumN d n
  | 0 => rfl
  | n + 1 => by simp only [sumN, sumN_add c d n]; omega
theorem sumN_one {c : Nat → Nat} {k : Nat} : ∀ {n : Nat}, k < n → (∀ j, j < n → j ≠ k → c j = 0) → sumN c n = c k
  | 0, h, _ => by omega
  | n + 1, h, hc => by
    simp only [sumN]
    by_cases g : k = n
    · have := sumN_zero (c := c) (n := n) fun j hj => hc j (Nat.lt_succ_of_lt hj) (by omega)
      rw [g]; omega
    · have ih := sumN_one (c := c) (n := n) (show k < n by omega) fun j hj hne => hc j (Nat.lt_succ_of_lt hj) hne
      have := hc n (Nat.lt_succ_self n) (Ne.symm g)
      omega
theorem sumN_le {c d : Nat → Nat} : ∀ {n : Nat}, (∀ j, j < n → c j ≤ d j) → sumN c n ≤ sumN d n
  | 0, _ => Nat.le_refl _
  | n + 1, h => by
    have h1 := sumN_le (n := n) fun j hj => h j (Nat.lt_succ_of_lt hj)
    have h2 := h n (Nat.lt_succ_self n)
    simp only [sumN]; omega
theorem sumN_eq {c d : Nat → Nat} : ∀ {n : Nat}, (∀ j, j < n → c j ≤ d j) → sumN c n = sumN d n → ∀ j, j < n → c j = d j
  | 0, _, _, j, hj => by omega
  | n + 1, h, he, j, hj => by
    have h1 := sumN_le (n := n) fun j hj => h j (Nat.lt_succ_of_lt hj)
    have h2 := h n (Nat.lt_succ_self n)
    simp only [sumN] at he
    by_cases g : j = n
    · rw [g]; omega
    · exact sumN_eq (n := n) (fun j hj => h j (Nat.lt_succ_of_lt hj)) (by omega) j (by omega)
def b2n (b : Bool) : Nat := bif b then 1 else 0
def keyIs (e : EqD) (p pos a : Int) : Bool := decide (e.1 = p) && (decide (e.2.1 = pos) && decide (e.2.2.1 = a))
def cntE : List EqD → Int → Int → Int → Nat
  | [], _, _, _ => 0
  | e :: es, p, pos, a => b2n (keyIs e p pos a) + cntE es p pos a
/-- the sum over places: p below n, pos below m p, a below l -/
def sum3 (c : Nat → Nat → Nat → Nat) (n : Nat) (m : Nat → Nat) (l : Nat) : Nat := sumN (fun p => sumN (fun pos => sumN (fun a => c p pos a) l) (m p)) n
theorem sum3_congr {c d : Nat → Nat → Nat → Nat} {n l : Nat} {m : Nat → Nat} (h : ∀ p, p < n → ∀ pos, pos < m p → ∀ a, a < l → c p pos a = d p pos a) : sum3 c n m l = sum3 d n m l :=
  sumN_congr fun p hp => sumN_congr fun pos hq => sumN_congr fun a ha => h p hp pos hq a ha
theorem sum3_zero {c : Nat → Nat → Nat → Nat} {n l : Nat} {m : Nat → Nat} (h : ∀ p, p < n → ∀ pos, pos < m p → ∀ a, a < l → c p pos a = 0) : sum3 c n m l = 0 :=
  sumN_zero fun p hp => sumN_zero fun pos hq => sumN_zero fun a ha => h p hp pos hq a ha
theorem sum3_add (c d : Nat → Nat → Nat → Nat) (n : Nat) (m : Nat → Nat) (l : Nat) : sum3 (fun p q a => c p q a + d p q a) n m l = sum3 c n m l + sum3 d n m l := by
  unfold sum3
  rw [← sumN_add]
  refine sumN_congr fun p _ => ?_
  rw [← sumN_add]
  refine sumN_congr fun q _ => ?_
  rw [← sumN_add]
theorem sum3_one {c : Nat → Nat → Nat → Nat} {n l : Nat} {m : Nat → Nat} {p0 q0 a0 : Nat} (h1 : p0 < n) (h2 : q0 < m p0) (h3 : a0 < l) (h : ∀ p q a, ¬ (p = p0 ∧ q = q0 ∧ a = a0) → c p q a = 0) : sum3 c n m l = c p0 q0 a0 := by
  unfold sum3
  rw [sumN_one h1 fun p hp hne => sumN_zero fun q hq => sumN_zero fun a ha => h p q a fun e => hne e.1]
  rw [sumN_one h2 fun q hq hne => sumN_zero fun a ha => h p0 q a fun e => hne e.2.1]
  rw [sumN_one h3 fun a ha hne => h p0 q0 a fun e => hne e.2.2]
theorem sum3_eq {c d : Nat → Nat → Nat → Nat} {n l : Nat} {m : Nat → Nat} (h : ∀ p, p < n → ∀ q, q < m p → ∀ a, a < l → c p q a ≤ d p q a) (he : sum3 c n m l = sum3 d n m l) : ∀ p, p < n → ∀ q, q < m p → ∀ a, a < l → c p q a = d p q a := by
  intro p hp q hq a ha
  have e1 := sumN_eq (fun p hp => sumN_le fun q hq => sumN_le fun a ha => h p hp q hq a ha) he p hp
  have e2 := sumN_eq (fun q hq => sumN_le fun a ha => h p hp q hq a ha) e1 q hq
  exact sumN_eq (fun a ha => h p hp q hq a ha) e2 a ha
section
variable {want : Nat → Nat → Nat → Bool} {n l : Nat} {m : Nat → Nat}
/-- an equation stands at a place that is wanted -/
def Sits (want : Nat → Nat → Nat → Bool) (n : Nat) (m : Nat → Nat) (l : Nat) (e : EqD) : Prop := ∃ p q a : Nat, p < n ∧ q < m p ∧ a < l ∧ e.1 = p ∧ e.2.1 = q ∧ e.2.2.1 = a ∧ want p q a = true
theorem total : ∀ {es : List EqD}, (∀ e ∈ es, Sits want n m l e) → sum3 (fun p q a => b2n (want p q a) * cntE es p q a) n m l = es.length
  | [], _ => by
    simp only [cntE, Nat.mul_zero, List.length_nil]
    exact sum3_zero fun _ _ _ _ _ _ => rfl
  | e :: es, h => by
    have ih := total (es := es) fun x hx => h x (by simp [hx])
    obtain ⟨p0, q0, a0, h1, h2, h3, e1, e2, e3, hw⟩ := h e (by simp)
    simp only [cntE, Nat.mul_add, List.length_cons]
    rw [sum3_add, ih, sum3_one h1 h2 h3 (fun p q a hne => ?_)]
    · simp only [hw, keyIs, e1, e2, e3, decide_true, Bool.and_self, b2n, cond_true]; omega
    · have : keyIs e p q a = false := by
        simp only [keyIs, e1, e2, e3, Bool.and_eq_false_iff, decide_eq_false_iff_not]
        by_cases g1 : p = p0
        · by_cases g2 : q = q0
          · by_cases g3 : a = a0
            · exact absurd ⟨g1, g2, g3⟩ hne
            · exact .inr (.inr (by omega))
          · exact .inr (.inl (by omega))
        · exact .inl (by omega)
      simp only [this, b2n, cond_false, Nat.mul_zero]
theorem cntE_append : ∀ (xs ys : List EqD) (p q a : Int), cntE (xs ++ ys) p q a = cntE xs p q a + cntE ys p q a
  | [], ys, p, q, a => by simp [cntE]
  | x :: xs, ys, p, q, a => by simp only [List.cons_append, cntE, cntE_append xs ys]; omega
theorem cntE_pos : ∀ {es : List EqD} {p q a : Int}, 0 < cntE es p q a ↔ ∃ e ∈ es, keyIs e p q a = true
  | [], p, q, a => by simp [cntE]
  | e :: es, p, q, a => by
    simp only [cntE, List.mem_cons, exists_eq_or_imp]
    rw [← cntE_pos (es := es)]
    cases keyIs e p q a <;> simp [b2n] <;> omega
theorem newE_iff {es : List EqD} {i : Nat} (hi : i < es.length) : newE es i = true ↔ cntE (es.take i) (es.getD i eD).1 (es.getD i eD).2.1 (es.getD i eD).2.2.1 = 0 := by
  have : ¬ (0 < cntE (es.take i) (es.getD i eD).1 (es.getD i eD).2.1 (es.getD i eD).2.2.1) ↔ cntE (es.take i) (es.getD i eD).1 (es.getD i eD).2.1 (es.getD i eD).2.2.1 = 0 := by omega
  rw [← this, cntE_pos]
  simp only [newE, Bool.not_eq_true', List.any_eq_false, decide_eq_true_eq, keyIs, Bool.and_eq_true, not_exists, not_and]
  constructor
  · intro h x hx q1 q2 q3
    exact h x hx q1.symm q2.symm q3.symm
  · intro h x hx q1 q2 q3
    exact h x hx q1.symm q2.symm q3.symm
/-- no twins: no key is counted twice -/
theorem once_of_new : ∀ {es : List EqD}, (∀ i, i < es.length → newE es i = true) → ∀ p q a, cntE es p q a ≤ 1 := by
  intro es h
  have key : ∀ k, k ≤ es.length → ∀ p q a, cntE (es.take k) p q a ≤ 1 := by
    intro k
    induction k with
    | zero => intro _ p q a; simp [cntE]
    | succ k ih =>
      intro hk p q a
      have hk' : k < es.length := by omega
      have h1 := ih (by omega) p q a
      rw [← take_snoc eD hk', cntE_append]
      simp only [cntE]
      cases g : keyIs (es.getD k eD) p q a with
      | false => simp only [b2n, cond_false]; omega
      | true =>
        have h2 := (newE_iff hk').1 (h k hk')
        simp only [keyIs, Bool.and_eq_true, decide_eq_true_eq] at g
        rw [g.1, g.2.1, g.2.2] at h2
        simp only [b2n, cond_true]; omega
  intro p q a
  have := key es.length (Nat.le_refl _) p q a
  rwa [List.take_length] at this
theorem new_of_once {es : List EqD} (h : ∀ e ∈ es, cntE es e.1 e.2.1 e.2.2.1 = 1) : ∀ i, i < es.length → newE es i = true := by
  intro i hi
  rw [newE_iff hi]
  have hm : es.getD i eD ∈ es := getD_mem eD hi
  have h1 := h _ hm
  have e : es = es.take i ++ es.getD i eD :: es.drop (i + 1) := by
    have : es.getD i eD = es[i] := by simp [List.getD, hi]
    rw [this, List.getElem_cons_drop, List.take_append_drop]
  have h2 : cntE es (es.getD i eD).1 (es.getD i eD).2.1 (es.getD i eD).2.2.1 = cntE (es.take i) (es.getD i eD).1 (es.getD i eD).2.1 (es.getD i eD).2.2.1 + (1 + cntE (es.drop (i + 1)) (es.getD i eD).1 (es.getD i eD).2.1 (es.getD i eD).2.2.1) := by
    conv => lhs; rw [e]
    rw [cntE_append]
    have : (es.take i ++ es.getD i eD :: es.drop (i + 1)).getD i eD = es.getD i eD := by rw [← e]
    rw [this]
    simp only [cntE, keyIs, decide_true, Bool.and_self, b2n, cond_true]
  omega
/-- every wanted place has one equation, or: no twins and as many as are wanted -/
theorem count_law {es : List EqD} (hs : ∀ e ∈ es, Sits want n m l e) :
    (∀ p, p < n → ∀ q, q < m p → ∀ a, a < l → want p q a = true → cntE es p q a = 1) ↔ ((∀ i, i < es.length → newE es i = true) ∧ sum3 (fun p q a => b2n (want p q a)) n m l = es.length) := by
  have ht := total hs
  constructor
  · intro h
    refine ⟨new_of_once fun e he => ?_, ?_⟩
    · obtain ⟨p, q, a, h1, h2, h3, e1, e2, e3, hw⟩ := hs e he
      rw [e1, e2, e3]
      exact h p h1 q h2 a h3 hw
    · rw [← ht]
      refine sum3_congr fun p hp q hq a ha => ?_
      cases hw : want p q a with
      | false => simp [b2n]
      | true => rw [h p hp q hq a ha hw]; simp
  · rintro ⟨h1, h2⟩ p hp q hq a ha hw
    have ho := once_of_new h1
    have := sum3_eq (c := fun p q a => b2n (want p q a) * cntE es p q a) (d := fun p q a => b2n (want p q a)) (fun p _ q _ a _ => by
      have := ho p q a
      cases want p q a with
      | false => simp [b2n]
      | true => simp only [b2n, cond_true]; omega) (by rw [ht, h2]) p hp q hq a ha
    simp only [hw, b2n, cond_true] at this
    omega
end
end Go.Proofs.Ytlgdkbacfgjcnaa
