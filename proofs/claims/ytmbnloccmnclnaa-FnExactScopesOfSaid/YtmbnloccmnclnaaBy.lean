/- Bytes in a range, and the first place of something; no condition. -/
import Derived.Test.YtmbnloccmnclnaaTScopesOf
import Derived.Test.YtmbnloccmnclnaaLo
namespace Go.Proofs.Ytmbnloccmnclnaa
open Go.VK AVal
theorem firstF_any {E : Type} (P : Nat → Bool) (b : E) : ∀ m i, firstF (fun j => bif P j then some b else none) i m = bif (List.range' i m).any P then some b else none
  | 0, i => rfl
  | m + 1, i => by
    simp only [firstF, List.range'_succ, List.any_cons]
    cases P i with
    | true => rfl
    | false => simp [firstF_any P b m (i + 1)]
/-! Bytes in a range -/
def byQ (lo hi : Int) (s : ByteArray) : Bool := allN (fun i => inQ lo hi (byteAt s i)) s.size
theorem inQ_nn (lo hi x : Int) : inQ lo hi x = (!decide (x < lo) && !decide (hi < x)) := by
  rw [Bool.eq_iff_iff]
  simp only [inQ, Bool.and_eq_true, decide_eq_true_eq, Bool.not_eq_true', decide_eq_false_iff_not]
  omega
theorem by_spec (lo hi : Int) (s : ByteArray) (hs : s.size ≤ 1048576) : Fs_l03Bytes s lo hi = some (byQ lo hi s) := by
  refine us_l03Bytes _ _ _ ?_
  have e := loop_all (fun i => Ls_l03Bytes_0 s lo hi (i : Int)) s.size (fun i => inQ lo hi (byteAt s i)) () (by
      refine ls_l03Bytes_0 _ _ _ _ ?_
      simp only [lt_self, cond_false]) (fun i hi' y hy => by
      refine ls_l03Bytes_0 _ _ _ _ ?_
      rw [← hy]
      simp only [lt_true hi', d0_true, Bool.and_self, cond_true, Int.toNat_natCast, wrap_i (show i < 9000000000000000000 by omega), inQ_nn]
      cases decide (byteAt s i < lo) with
      | true => rfl
      | false => cases decide (hi < byteAt s i) <;> rfl)
  simp only [Int.natCast_zero] at e
  rw [e]
  unfold byQ
  cases allN (fun i => inQ lo hi (byteAt s i)) s.size <;> rfl
end Go.Proofs.Ytmbnloccmnclnaa
