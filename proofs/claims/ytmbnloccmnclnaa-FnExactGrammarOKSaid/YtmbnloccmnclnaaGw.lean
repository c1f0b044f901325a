/- Words of a language's text: keywords, plain names, literals and patterns, in the reference and in the program; no condition. -/
import Derived.Test.YtmbnloccmnclnaaNm
import Derived.Test.YtmbnloccmnclnaaLo
import Derived.Test.YtmbnloccmnclnaaXb
import Derived.Test.YtmbnloccmnclnaaBb
namespace Go.Proofs.Ytmbnloccmnclnaa
open Go.VK AVal
theorem firstF_any {E : Type} (P : Nat → Bool) (b : E) : ∀ m i, firstF (fun j => bif P j then some b else none) i m = bif (List.range' i m).any P then some b else none
  | 0, i => rfl
  | m + 1, i => by
    simp only [firstF, List.range'_succ, List.any_cons]
    cases P i with
    | true => rfl
    | false => simp [firstF_any P b m (i + 1)]
def kws : List ByteArray := [ByteArray.mk #[108, 97, 110, 103, 117, 97, 103, 101], ByteArray.mk #[116, 111, 107, 101, 110], ByteArray.mk #[115, 107, 105, 112], ByteArray.mk #[108, 101, 102, 116], ByteArray.mk #[114, 105, 103, 104, 116], ByteArray.mk #[110, 111, 110, 101]]
def kwQ (s : ByteArray) : Bool := (List.range' 0 6).any fun i => decide (kws.getD i ByteArray.empty = s)
theorem kw_spec (s : ByteArray) : Fs_l03Keyword s = some (kwQ s) := by
  refine us_l03Keyword _ ?_
  have e := loop_first (fun i => Ls_l03Keyword_0 s (i : Int) (kws.map sv)) 6 (fun i => bif decide (kws.getD i ByteArray.empty = s) then some true else none) () (by
      refine ls_l03Keyword_0 _ _ _ ?_
      rfl) (fun i hi y hy => by
      refine ls_l03Keyword_0 _ _ _ ?_
      rw [← hy]
      have hl : i < kws.length := hi
      have h1 : CT.shape .str (sv (kws.getD i ByteArray.empty)) = true := rfl
      have h2 : (sv (kws.getD i ByteArray.empty)).toStr = kws.getD i ByteArray.empty := rfl
      simp only [List.length_map, lt_true hl, d0_true, Bool.and_self, cond_true, Int.toNat_natCast, getD_map' sv ByteArray.empty hl, h1, h2, blt_true hl, wrap_i (show i < 9000000000000000000 by omega)]
      cases decide (kws.getD i ByteArray.empty = s) <;> rfl) 6 0 (by omega)
  rw [firstF_any] at e
  simp only [Int.natCast_zero] at e
  rw [show ([.str (ByteArray.mk #[108, 97, 110, 103, 117, 97, 103, 101]), .str (ByteArray.mk #[116, 111, 107, 101, 110]), .str (ByteArray.mk #[115, 107, 105, 112]), .str (ByteArray.mk #[108, 101, 102, 116]), .str (ByteArray.mk #[114, 105, 103, 104, 116]), .str (ByteArray.mk #[110, 111, 110, 101])] : List AVal) = kws.map sv from rfl, e]
  unfold kwQ
  cases (List.range' 0 6).any (fun i => decide (kws.getD i ByteArray.empty = s)) <;> rfl
theorem kwQ_or (s : ByteArray) : kwQ s = (decide (s = kws.getD 0 ByteArray.empty) || (decide (s = kws.getD 1 ByteArray.empty) || (decide (s = kws.getD 2 ByteArray.empty) || (decide (s = kws.getD 3 ByteArray.empty) || (decide (s = kws.getD 4 ByteArray.empty) || decide (s = kws.getD 5 ByteArray.empty)))))) := by
  have c : ∀ a b : ByteArray, decide (a = b) = decide (b = a) := fun a b => by by_cases h : a = b <;> simp [h, eq_comm]
  unfold kwQ
  rw [show List.range' 0 6 = [0, 1, 2, 3, 4, 5] from rfl]
  simp only [List.any_cons, List.any_nil, Bool.or_false]
  rw [c s, c s, c s, c s, c s, c s]
theorem kw_impl (s : ByteArray) : Fi_keyword s = some (kwQ s) := by
  refine ui_keyword _ ?_
  rw [kwQ_or]
  show _ = some (decide (s = ByteArray.mk #[108, 97, 110, 103, 117, 97, 103, 101]) || (decide (s = ByteArray.mk #[116, 111, 107, 101, 110]) || (decide (s = ByteArray.mk #[115, 107, 105, 112]) || (decide (s = ByteArray.mk #[108, 101, 102, 116]) || (decide (s = ByteArray.mk #[114, 105, 103, 104, 116]) || decide (s = ByteArray.mk #[110, 111, 110, 101]))))))
  cases decide (s = ByteArray.mk #[108, 97, 110, 103, 117, 97, 103, 101]) with
  | true => rfl
  | false => cases decide (s = ByteArray.mk #[116, 111, 107, 101, 110]) with
    | true => rfl
    | false => cases decide (s = ByteArray.mk #[115, 107, 105, 112]) with
      | true => rfl
      | false => cases decide (s = ByteArray.mk #[108, 101, 102, 116]) with
        | true => rfl
        | false => cases decide (s = ByteArray.mk #[114, 105, 103, 104, 116]) with
          | true => rfl
          | false => cases decide (s = ByteArray.mk #[110, 111, 110, 101]) <;> rfl
def plQ (s : ByteArray) : Bool := nmOK s && !kwQ s
theorem pl_spec (s : ByteArray) : Fs_l03Plain s = some (plQ s) := by
  refine us_l03Plain _ ?_
  simp only [s108, kw_spec, Option.bind_some, plQ]
  cases nmOK s <;> rfl
theorem pl_impl (s : ByteArray) : Fi_plainName s = some (plQ s) := by
  refine ui_plainName _ ?_
  simp only [s87, kw_impl, Option.bind_some, plQ]
  cases nmOK s <;> rfl
/-! Bytes in a range -/
def byQ (lo hi : Int) (s : ByteArray) : Bool := allN (fun i => inQ lo hi (byteAt s i)) s.size
theorem inQ_nn (lo hi x : Int) : inQ lo hi x = (!decide (x < lo) && !decide (hi < x)) := by
  rw [Bool.eq_iff_iff]
  simp only [inQ, Bool.and_eq_true, decide_eq_true_eq, Bool.not_eq_true', decide_eq_false_iff_not]
  omega
theorem by_spec (lo hi : Int) (s : ByteArray) (hs : s.size ≤ 1048576) : Fs_l03Bytes s lo hi = some (byQ lo hi s) := by
  refine us_l03Bytes _ _ _ ?_
  have e := loop_all (fun i => Ls_l03Bytes_0 s lo hi (i : Int)) s.size (fun i => inQ lo hi (byteAt s i)) () (by
      refine ls_l03Bytes_0 _ _ _ _ ?_
      simp only [lt_self, cond_false]) (fun i hi' y hy => by
      refine ls_l03Bytes_0 _ _ _ _ ?_
      rw [← hy]
      simp only [lt_true hi', d0_true, Bool.and_self, cond_true, Int.toNat_natCast, wrap_i (show i < 9000000000000000000 by omega), inQ_nn]
      cases decide (byteAt s i < lo) with
      | true => rfl
      | false => cases decide (hi < byteAt s i) <;> rfl)
  simp only [Int.natCast_zero] at e
  rw [e]
  unfold byQ
  cases allN (fun i => inQ lo hi (byteAt s i)) s.size <;> rfl
def hasB (s : ByteArray) (c : Int) : Bool := (List.range' 0 s.size).any fun i => decide (byteAt s i = c)
theorem in_spec (s : ByteArray) (c : Int) (hs : s.size ≤ 1048576) : Fs_l02In s c = some (hasB s c) := by
  refine us_l02In _ _ ?_
  have e := loop_first (fun i => Ls_l02In_0 s c (i : Int)) s.size (fun i => bif decide (byteAt s i = c) then some true else none) () (by
      refine ls_l02In_0 _ _ _ ?_
      simp only [lt_self, cond_false]) (fun i hi' y hy => by
      refine ls_l02In_0 _ _ _ ?_
      rw [← hy]
      simp only [lt_true hi', d0_true, Bool.and_self, cond_true, Int.toNat_natCast, wrap_i (show i < 9000000000000000000 by omega)]
      cases decide (byteAt s i = c) <;> rfl) s.size 0 (by omega)
  rw [firstF_any] at e
  simp only [Int.natCast_zero] at e
  rw [e]
  unfold hasB
  cases (List.range' 0 s.size).any (fun i => decide (byteAt s i = c)) <;> rfl
def rxsQ (s : ByteArray) : Bool := decide (s.size ≤ 100) && byQ 32 125 s
theorem rxs_spec (s : ByteArray) : Fs_l03RxOK s = some (rxsQ s) := by
  refine us_l03RxOK _ ?_
  unfold rxsQ
  by_cases g : s.size ≤ 100
  · have g' : (s.size : Int) ≤ 100 := by omega
    simp only [g, g', decide_true, cond_true, by_spec 32 125 s (by omega), Option.bind_some, Bool.true_and]
  · have g' : ¬ (s.size : Int) ≤ 100 := by omega
    simp only [g, g', decide_false, cond_false, Bool.false_and]
theorem rxs_impl (s : ByteArray) : Fi_patternOK s = some (rxsQ s) := by
  refine ui_patternOK _ ?_
  unfold rxsQ
  by_cases g : s.size ≤ 100
  · have g' : ¬ (100 : Int) < (s.size : Int) := by omega
    have e := loop_all (fun i => Li_patternOK_0 s (i : Int)) s.size (fun i => inQ 32 125 (byteAt s i)) () (by
        refine li_patternOK_0 _ _ ?_
        simp only [lt_self, cond_false]) (fun i hi' y hy => by
        refine li_patternOK_0 _ _ ?_
        rw [← hy]
        simp only [lt_true hi', d0_true, Bool.and_self, cond_true, Int.toNat_natCast, wrap_i (show i < 9000000000000000000 by omega), inQ_nn]
        cases decide (byteAt s i < 32) with
        | true => rfl
        | false => cases decide (125 < byteAt s i) <;> rfl)
    simp only [Int.natCast_zero] at e
    simp only [g, g', decide_true, decide_false, cond_false, Bool.true_and, e]
    unfold byQ
    cases allN (fun i => inQ 32 125 (byteAt s i)) s.size <;> rfl
  · have g' : (100 : Int) < (s.size : Int) := by omega
    simp only [g, g', decide_true, decide_false, cond_true, Bool.false_and]
def litQ (s : ByteArray) : Bool := inQ 1 16 s.size && allN (fun i => inQ 33 126 (byteAt s i) && !decide (byteAt s i = 39)) s.size
theorem lit_spec (s : ByteArray) : Fs_l03LitOK s = some (litQ s) := by
  refine us_l03LitOK _ ?_
  unfold litQ
  cases g : inQ 1 16 (s.size : Int) with
  | false => simp only [s61', g, Option.bind_some, cond_false, Bool.false_and]
  | true =>
    have hs : s.size ≤ 16 := by simp only [inQ, Bool.and_eq_true, decide_eq_true_eq] at g; omega
    simp only [s61', g, Option.bind_some, cond_true, Bool.true_and, by_spec 33 126 s (by omega), in_spec s 39 (by omega)]
    have q : allN (fun i => inQ 33 126 (byteAt s i) && !decide (byteAt s i = 39)) s.size = (byQ 33 126 s && !hasB s 39) := by
      rw [Bool.eq_iff_iff, allN_iff, Bool.and_eq_true, byQ, allN_iff, Bool.not_eq_true', hasB, List.any_eq_false]
      simp only [Bool.and_eq_true, Bool.not_eq_true', decide_eq_false_iff_not, decide_eq_true_eq, List.mem_range'_1]
      constructor
      · intro h; exact ⟨fun i hi => (h i hi).1, fun i hi => (h i (by omega)).2⟩
      · intro h i hi; exact ⟨h.1 i hi, h.2 i (by omega)⟩
    rw [q]
    cases byQ 33 126 s <;> rfl
theorem lit_impl (s : ByteArray) : Fi_litOK s = some (litQ s) := by
  refine ui_litOK _ ?_
  unfold litQ
  rw [inQ_nn]
  by_cases g1 : (s.size : Int) < 1
  · simp only [g1, decide_true, cond_true, Bool.not_true, Bool.false_and]
  · by_cases g2 : (16 : Int) < (s.size : Int)
    · simp only [g1, g2, decide_true, decide_false, cond_true, cond_false, Bool.not_true, Bool.and_false, Bool.false_and]
    · have e := loop_all (fun i => Li_litOK_0 s (i : Int)) s.size (fun i => inQ 33 126 (byteAt s i) && !decide (byteAt s i = 39)) () (by
          refine li_litOK_0 _ _ ?_
          simp only [lt_self, cond_false]) (fun i hi' y hy => by
          refine li_litOK_0 _ _ ?_
          rw [← hy]
          simp only [lt_true hi', d0_true, Bool.and_self, cond_true, Int.toNat_natCast, wrap_i (show i < 9000000000000000000 by omega), inQ_nn]
          cases decide (byteAt s i < 33) with
          | true => rfl
          | false => cases decide (126 < byteAt s i) with
            | true => rfl
            | false => cases decide (byteAt s i = 39) <;> rfl)
      simp only [Int.natCast_zero] at e
      simp only [g1, g2, decide_false, cond_false, Bool.not_false, Bool.and_self, Bool.true_and, e]
      cases allN (fun i => inQ 33 126 (byteAt s i) && !decide (byteAt s i = 39)) s.size <;> rfl
end Go.Proofs.Ytmbnloccmnclnaa
