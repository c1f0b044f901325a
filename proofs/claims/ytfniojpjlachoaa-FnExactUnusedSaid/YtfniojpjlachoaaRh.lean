/- Is a number in a row? no condition. -/
import Derived.Test.YtfniojpjlachoaaTBnfOK
import Derived.Test.YtfniojpjlachoaaTTableOK
import Derived.Test.YtfniojpjlachoaaTUnused
import Derived.Test.YtfniojpjlachoaaUx
namespace Go.Proofs.Ytfniojpjlachoaa
open Go.VK AVal
def hasI (l : List Int) (d : Int) : Bool := l.any fun x => decide (x = d)
theorem has_0 (d : Int) : ∀ (xs pre : List Int), (pre ++ xs).length ≤ 1048576 → Ls_l12Has_0 ((pre ++ xs).map iv) d (pre.length : Int) = some (if hasI xs d then .inl true else .inr ())
  | [], pre, hl => by
    refine ls_l12Has_0 _ _ _ ?_
    simp [hasI]
  | x :: xs, pre, hl => by
    have hm := mid_len pre xs x
    have ih := has_0 d xs (pre ++ [x]) (by simpa using hl)
    simp only [List.append_assoc, List.cons_append, List.nil_append, show ∀ x : Int, (pre ++ [x]).length = pre.length + 1 from fun x => by simp] at ih
    refine ls_l12Has_0 _ _ _ ?_
    by_cases g : x = d
    · have gd : decide (x = d) = true := decide_eq_true g
      simp only [Int.toNat_natCast, List.length_map, dlt_true hm, d0_true, Bool.and_self, cond_true, map_mid, e_int, e_toInt, gd, hasI, List.any_cons, Bool.true_or, if_true]
    · have e : hasI (x :: xs) d = hasI xs d := by simp [hasI, g]
      simp only [Int.toNat_natCast, List.length_map, dlt_true hm, d0_true, Bool.and_self, cond_true, cond_false, map_mid, e_int, e_toInt, g, decide_false, wrap_succ hm (by omega), ih, e]
theorem has_s (l : List Int) (d : Int) (hl : l.length ≤ 1048576) : Fs_l12Has (l.map iv) d = some (hasI l d) := by
  refine us_l12Has _ _ ?_
  have e := has_0 d l [] (by simpa using hl)
  simp only [List.nil_append, List.length_nil, Int.natCast_zero] at e
  cases g : hasI l d <;> simp [e, g]
end Go.Proofs.Ytfniojpjlachoaa
