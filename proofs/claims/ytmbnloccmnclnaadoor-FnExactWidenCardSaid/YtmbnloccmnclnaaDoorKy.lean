/- Keys out of numerals: what the program's 'key' gives tells the numbers; plain, no condition. -/
import Derived.Test.YtmbnloccmnclnaaDoorMp
import Derived.Lib.ItoaNum
namespace Go.Proofs.YtmbnloccmnclnaaDoor
open Go.VK AVal
/-! Numerals -/
def digVal (l : List UInt8) : Nat := l.foldl (fun a b => a * 10 + (b.toNat - 48)) 0
theorem digVal_snoc (l : List UInt8) (b : UInt8) : digVal (l ++ [b]) = digVal l * 10 + (b.toNat - 48) := by simp [digVal]
theorem dig_nat {d : Nat} (h : d < 10) : (UInt8.ofNat (48 + d)).toNat = 48 + d := by
  simp only [UInt8.toNat_ofNat']
  exact Nat.mod_eq_of_lt (by omega)
theorem digVal_dec : ∀ u : Nat, digVal (Lib.decDigits u) = u := by
  intro u
  induction u using Nat.strongRecOn with
  | ind u ih =>
    rw [Lib.decDigits]
    split
    · rename_i h
      show 0 * 10 + ((UInt8.ofNat (48 + u)).toNat - 48) = u
      rw [dig_nat h]; omega
    · rename_i h
      rw [digVal_snoc, ih (u / 10) (by omega), dig_nat (Nat.mod_lt _ (by omega))]
      omega
theorem dec_range : ∀ u : Nat, ∀ b ∈ Lib.decDigits u, 48 ≤ b.toNat ∧ b.toNat ≤ 57 := by
  intro u
  induction u using Nat.strongRecOn with
  | ind u ih =>
    rw [Lib.decDigits]
    split
    · rename_i h; intro b hb; simp only [List.mem_singleton] at hb; subst hb; rw [dig_nat h]; omega
    · rename_i h
      intro b hb
      rcases List.mem_append.1 hb with hb | hb
      · exact ih (u / 10) (by omega) b hb
      · simp only [List.mem_singleton] at hb; subst hb; rw [dig_nat (Nat.mod_lt _ (by omega))]; have := Nat.mod_lt u (show 0 < 10 by omega); omega
theorem itoa_range (n : Int) : ∀ b ∈ Lib.itoa n, b.toNat = 45 ∨ (48 ≤ b.toNat ∧ b.toNat ≤ 57) := by
  intro b hb
  unfold Lib.itoa at hb
  split at hb
  · rcases List.mem_cons.1 hb with rfl | hb
    · exact .inl rfl
    · exact .inr (dec_range _ b hb)
  · exact .inr (dec_range _ b hb)
theorem itoa_inj {a b : Int} (h : Lib.itoa a = Lib.itoa b) : a = b := by
  have ne : ∀ (u : Nat) (r : List UInt8), Lib.decDigits u ≠ 45 :: r := fun u r e => by
    have := dec_range u 45 (by rw [e]; simp)
    simp at this
  unfold Lib.itoa at h
  split at h <;> split at h
  · have := congrArg digVal (List.cons.inj h).2
    rw [digVal_dec, digVal_dec] at this; omega
  · exact absurd h.symm (ne _ _)
  · exact absurd h (ne _ _)
  · have := congrArg digVal h
    rw [digVal_dec, digVal_dec] at this; omega
theorem dec_len {u k : Nat} (h : u < 10 ^ k) (hk : 0 < k) : (Lib.decDigits u).length ≤ k := by
  rw [Lib.decDigits_length]
  induction k generalizing u with
  | zero => omega
  | succ k ih =>
    by_cases h1 : u < 10
    · rw [Lib.nDigits_small h1]; omega
    · rw [Lib.nDigits_big h1]
      have hk1 : 0 < k := by
        rcases Nat.eq_zero_or_pos k with rfl | h0
        · simp at h; omega
        · exact h0
      have := ih (u := u / 10) (by rw [Nat.div_lt_iff_lt_mul (by omega)]; rw [Nat.pow_succ] at h; omega) hk1
      omega
theorem itoa_len {n : Int} (h1 : -9223372036854775808 ≤ n) (h2 : n ≤ 9223372036854775807) : (Lib.itoa n).length ≤ 20 := by
  unfold Lib.itoa
  split
  · have := dec_len (u := n.natAbs) (k := 19) (by have : (10 : Nat) ^ 19 = 10000000000000000000 := by decide
                                                  omega) (by omega)
    simp only [List.length_cons]; omega
  · have := dec_len (u := n.toNat) (k := 19) (by have : (10 : Nat) ^ 19 = 10000000000000000000 := by decide
                                                 omega) (by omega)
    omega
/-- the first comma parts a text in one way -/
theorem cut_inj {c : UInt8} : ∀ {a b r s : List UInt8}, c ∉ a → c ∉ b → a ++ c :: r = b ++ c :: s → a = b ∧ r = s
  | [], [], r, s, _, _, h => ⟨rfl, (List.cons.inj h).2⟩
  | [], y :: b, r, s, _, hb, h => absurd (List.cons.inj h).1 (fun e => hb (by simp [e]))
  | x :: a, [], r, s, ha, _, h => absurd (List.cons.inj h).1 (fun e => ha (by simp [e]))
  | x :: a, y :: b, r, s, ha, hb, h => by
    obtain ⟨e1, e2⟩ := List.cons.inj h
    obtain ⟨e3, e4⟩ := cut_inj (fun k => ha (by simp [k])) (fun k => hb (by simp [k])) e2
    exact ⟨by rw [e1, e3], e4⟩
def keyL (l : List Int) : List UInt8 := l.flatMap fun x => Lib.itoa x ++ [44]
theorem keyL_cons (x : Int) (l : List Int) : keyL (x :: l) = Lib.itoa x ++ 44 :: keyL l := by simp [keyL]
theorem itoa_no (n : Int) : (44 : UInt8) ∉ Lib.itoa n := fun h => by
  have := itoa_range n 44 h
  simp at this
theorem keyL_inj : ∀ {a b : List Int}, keyL a = keyL b → a = b
  | [], [], _ => rfl
  | [], y :: b, h => by rw [keyL_cons] at h; simp [keyL] at h
  | x :: a, [], h => by rw [keyL_cons] at h; simp [keyL] at h
  | x :: a, y :: b, h => by
    rw [keyL_cons, keyL_cons] at h
    obtain ⟨e1, e2⟩ := cut_inj (itoa_no x) (itoa_no y) h
    rw [itoa_inj e1, keyL_inj e2]
def keyB (l : List Int) : ByteArray := ⟨(keyL l).toArray⟩
theorem keyB_inj {a b : List Int} (h : keyB a = keyB b) : a = b := by
  have h1 := congrArg (fun z => z.data.toList) h
  simp only [keyB] at h1
  exact keyL_inj (by simpa using h1)
theorem keyL_len {l : List Int} (h : ∀ x ∈ l, -9223372036854775808 ≤ x ∧ x ≤ 9223372036854775807) : (keyL l).length ≤ 21 * l.length := by
  induction l with
  | nil => simp [keyL]
  | cons x l ih =>
    rw [keyL_cons]
    have h1 := itoa_len (h x (by simp)).1 (h x (by simp)).2
    have h2 := ih fun y hy => h y (by simp [hy])
    simp only [List.length_append, List.length_cons]; omega
theorem snocInd {α : Type} {P : List α → Prop} (h0 : P []) (h1 : ∀ l x, P l → P (l ++ [x])) (l : List α) : P l := by
  have key : ∀ r : List α, P r.reverse := by
    intro r
    induction r with
    | nil => exact h0
    | cons x r ih => rw [List.reverse_cons]; exact h1 _ _ ih
  simpa using key l.reverse
/-! Lists without doubles, as they are met -/
def dkF {α : Type} (f : α → ByteArray) : Nat → List α → List (ByteArray × Int)
  | _, [] => []
  | i, x :: r => (f x, (i : Int)) :: dkF f (i + 1) r
theorem dkF_snoc {α : Type} (f : α → ByteArray) (x : α) : ∀ (l : List α) (i : Nat), dkF f i (l ++ [x]) = dkF f i l ++ [(f x, ((i + l.length : Nat) : Int))]
  | [], i => by simp [dkF]
  | y :: l, i => by
    simp only [List.cons_append, dkF, dkF_snoc f x l (i + 1), List.length_cons]
    rw [show i + 1 + l.length = i + (l.length + 1) by omega]
section
variable {α : Type} [DecidableEq α]
def ix (x : α) : List α → Nat
  | [] => 0
  | y :: l => if y = x then 0 else ix x l + 1
theorem ix_cons (x y : α) (l : List α) : ix x (y :: l) = if y = x then 0 else ix x l + 1 := rfl
theorem ix_nil (x : α) : ix x [] = 0 := rfl
theorem ix_lt {x : α} : ∀ {l : List α}, x ∈ l → ix x l < l.length
  | y :: l, h => by
    rw [ix_cons]
    split
    · simp
    · rename_i hn
      rcases List.mem_cons.1 h with rfl | h
      · exact absurd rfl hn
      · have := ix_lt h; simp; omega
theorem ix_no {x : α} : ∀ {l : List α}, x ∉ l → ix x l = l.length
  | [], _ => rfl
  | y :: l, h => by
    rw [ix_cons, if_neg (fun e => h (by simp [e])), ix_no (fun k => h (by simp [k]))]; rfl
theorem ix_snoc (x y : α) : ∀ (l : List α), ix x (l ++ [y]) = if x ∈ l then ix x l else if y = x then l.length else l.length + 1
  | [] => by simp [ix]
  | z :: l => by
    rw [List.cons_append, ix_cons, ix_cons, ix_snoc x y l]
    by_cases h1 : z = x
    · subst h1; simp
    · have h2 : ¬ x = z := fun e => h1 e.symm
      simp only [h1, if_false, List.mem_cons, h2, false_or, List.length_cons]
      split
      · rfl
      · split <;> rfl
def pkStep (s : List α × List Nat) (x : α) : List α × List Nat := (if ix x s.1 = s.1.length then s.1 ++ [x] else s.1, s.2 ++ [ix x s.1])
def pk (xs : List α) : List α × List Nat := xs.foldl pkStep ([], [])
theorem pk_snoc (xs : List α) (x : α) : pk (xs ++ [x]) = pkStep (pk xs) x := by simp [pk]
theorem idx_len {x : α} {l : List α} : ix x l = l.length ↔ x ∉ l := by
  constructor
  · intro h hx; have := ix_lt hx; omega
  · exact ix_no
theorem pk_nodup (xs : List α) : (pk xs).1.Nodup := by
  induction xs using snocInd with
  | h0 => simp [pk]
  | h1 xs x ih =>
    rw [pk_snoc]
    unfold pkStep
    split
    · rename_i h
      exact List.nodup_append.2 ⟨ih, by simp, fun a ha b hb => by
        simp only [List.mem_singleton] at hb
        subst hb; rintro rfl; exact idx_len.1 h ha⟩
    · exact ih
theorem pk_len (xs : List α) : (pk xs).2.length = xs.length ∧ (pk xs).1.length ≤ xs.length := by
  induction xs using snocInd with
  | h0 => simp [pk]
  | h1 xs x ih =>
    rw [pk_snoc]
    unfold pkStep
    refine ⟨by simp [ih.1], ?_⟩
    split <;> simp <;> omega
theorem pk_sub (xs : List α) : ∀ y ∈ (pk xs).1, y ∈ xs := by
  induction xs using snocInd with
  | h0 => simp [pk]
  | h1 xs x ih =>
    rw [pk_snoc]
    unfold pkStep
    intro y hy
    split at hy
    · rcases List.mem_append.1 hy with h | h
      · exact List.mem_append_left _ (ih y h)
      · exact List.mem_append_right _ h
    · exact List.mem_append_left _ (ih y hy)
/-- sums over what is kept are no greater -/
theorem pk_sum (f : α → Nat) (xs : List α) : ((pk xs).1.map f).sum ≤ (xs.map f).sum := by
  induction xs using snocInd with
  | h0 => simp [pk]
  | h1 xs x ih =>
    rw [pk_snoc]
    unfold pkStep
    split
    · simp; omega
    · simp; omega
theorem dk_get (f : α → ByteArray) (hf : ∀ a b, f a = f b → a = b) (x : α) (l : List α) (hn : l.Nodup) : dlast (dkF f 0 l) (f x) = if ix x l = l.length then none else some (ix x l : Int) := by
  induction l using snocInd with
  | h0 => simp [dkF, dlast, ix_nil]
  | h1 l y ih =>
    have hn' := List.nodup_append.1 hn
    rw [dkF_snoc, dlast_snoc, ih hn'.1]
    have hy : y ∉ l := fun h => hn'.2.2 y h y (by simp) rfl
    by_cases hxy : x = y
    · subst hxy
      have e : ix x (l ++ [x]) = l.length := by rw [ix_snoc]; simp [hy]
      rw [if_pos rfl, e]
      simp
    · rw [if_neg (fun h => hxy (hf _ _ h))]
      by_cases hx : x ∈ l
      · have h1 : ix x l < l.length := ix_lt hx
        have e : ix x (l ++ [y]) = ix x l := by rw [ix_snoc]; simp [hx]
        rw [e, if_neg (by omega), if_neg (by simp; omega)]
      · have e : ix x (l ++ [y]) = (l ++ [y]).length := idx_len.2 (by simp [hx, hxy])
        rw [if_pos (idx_len.2 hx), if_pos e]
end
end Go.Proofs.YtmbnloccmnclnaaDoor
