/- The program's 'key' tells numbers by their numerals, each with a comma behind it; numbers that fit into 64 bits, not too many. -/
import Derived.Test.YtmbnloccmnclnaaDoorTShrink
import Derived.Test.YtmbnloccmnclnaaDoorTWiden
import Derived.Test.YtmbnloccmnclnaaDoorKy
import Derived.Test.YtmbnloccmnclnaaDoorFr
namespace Go.Proofs.YtmbnloccmnclnaaDoor
open Go.VK AVal
theorem keyB_snoc (pre : List Int) (x : Int) : ((keyB pre) ++ itoaB x).push (44 : Int).toNat.toUInt8 = keyB (pre ++ [x]) := by
  have e : (44 : Int).toNat.toUInt8 = 44 := rfl
  have h : ∀ a b : ByteArray, a.data = b.data → a = b := fun a b h => by cases a; cases b; simpa using h
  apply h
  rw [e]
  apply Array.toList_inj.1
  simp [keyB, keyL, itoaB, ByteArray.push, ByteArray.data_append]
theorem keyB_size (l : List Int) : (keyB l).size = (keyL l).length := by simp [keyB, ByteArray.size]
theorem itF {n : Int} (h : i64Q n) : Fi_itoa n = some (itoaB n) := by
  refine ui_itoa _ ?_
  rw [ustrconv_Itoa n (by simp only [Bool.and_eq_true, decide_eq_true_eq]; exact h)]
  rfl
theorem keyF_0 : ∀ (xs pre : List Int), (pre ++ xs).length ≤ 4000000 → (∀ x ∈ pre ++ xs, i64Q x) → Li_key_0 ((pre ++ xs).map iv) ((pre ++ xs).length : Int) (pre.length : Int) (bldMk bT bE (keyB pre)) = some (bldMk bT bE (keyB (pre ++ xs)))
  | [], pre, hl, hr => by
    refine li_key_0 _ _ _ _ ?_
    simp
  | x :: xs, pre, hl, hr => by
    have hm := mid_len pre xs x
    have ih := keyF_0 xs (pre ++ [x]) (by simpa using hl) (by simpa using hr)
    simp only [List.append_assoc, List.cons_append, List.nil_append] at ih
    rw [show (pre ++ [x]).length = pre.length + 1 by simp] at ih
    have hk := keyL_len (l := pre) fun y hy => hr y (by simp [hy])
    have hx := hr x (by simp)
    have hi := itoa_len hx.1 hx.2
    have hsz : (itoaB x).size = (Lib.itoa x).length := by simp [itoaB, ByteArray.size]
    have hlp : pre.length ≤ 4000000 := by simp at hl; omega
    have w1 := ustrings_Builder_WriteString (itoaB x) (bldMk bT bE (keyB pre)) (by
      rw [bldQ_mk, bldS_mk, Bool.true_and]; exact Nat.ble_eq_true_of_le (by rw [keyB_size, hsz]; omega))
    have w2 := ustrings_Builder_WriteByte 44 (bldMk bT bE (keyB pre ++ itoaB x)) (by
      rw [bldQ_mk, bldS_mk, Bool.true_and, Bool.and_eq_true]; exact ⟨Nat.ble_eq_true_of_le (by rw [ByteArray.size_append, keyB_size, hsz]; omega), rfl⟩)
    rw [bldS_mk] at w1 w2
    rw [keyB_snoc] at w2
    refine li_key_0 _ _ _ _ ?_
    simp only [Int.toNat_natCast, map_mid, List.length_map, e_int, e_toInt, dlt_true hm, d0_true, Bool.and_self, wrap_succ hm (by omega), cond_true, itF hx, Option.bind_some, w1, w2, ih]
theorem keyF (xs : List Int) (hl : xs.length ≤ 4000000) (hr : ∀ x ∈ xs, i64Q x) : Fi_key (xs.map iv) = some (keyB xs) := by
  refine ui_key _ ?_
  have e := keyF_0 xs [] hl hr
  simp only [List.nil_append, List.length_nil, Int.natCast_zero] at e
  have e' : Li_key_0 (xs.map iv) (xs.length : Int) 0 (bldMk bT bE ByteArray.empty) = _ := e
  simp only [List.length_map, e', Option.bind_some, ustrings_Builder_String _ (bldQ_mk _ _ _), bldS_mk]
end Go.Proofs.YtmbnloccmnclnaaDoor
