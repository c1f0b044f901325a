/- The numbers of an argument lie in their kind's range; no condition. -/
import Derived.Test.YtmbnloccmnclnaaDoorUt
namespace Go.Proofs.YtmbnloccmnclnaaDoor
open Go.VK AVal
mutual
def rngQ : AVal → Bool
  | .int k n => (Lit.int k n).wf
  | .ro _ _ xs => rngL xs
  | .agg cs => rngL cs
  | _ => true
def rngL : List AVal → Bool
  | [] => true
  | x :: xs => rngQ x && rngL xs
end
theorem rngL_iff : ∀ {xs : List AVal}, rngL xs = true ↔ ∀ x ∈ xs, rngQ x = true
  | [] => by simp [rngL]
  | x :: xs => by simp [rngL, rngL_iff (xs := xs)]
theorem rng_cells {x : AVal} (h : rngQ x = true) : ∀ c ∈ x.cells, rngQ c = true := by
  cases x with
  | agg cs => simp only [rngQ] at h; exact rngL_iff.1 h
  | _ => intro c hc; simp only [AVal.cells, List.mem_singleton] at hc; rw [hc]; exact h
theorem fits_rng {Φ : Ctx} {t : Nat} {x : AVal} (h : Fits Φ t x) : rngQ x = true := by
  induction h with
  | bool => rfl
  | int h1 h2 h3 h4 => exact h4
  | str => rfl
  | slice h1 h2 h3 h4 h5 h6 ih => simp only [rngQ]; exact rngL_iff.2 ih
  | struct h1 h2 h3 h4 ih =>
    simp only [rngQ]
    refine rngL_iff.2 fun c hc => ?_
    obtain ⟨f, hf, hc⟩ := List.mem_flatMap.1 hc
    obtain ⟨i, hi⟩ := List.getElem?_of_mem hf
    have hlt : i < _ := (List.getElem?_eq_some_iff.1 hi).1
    rw [h3] at hlt
    exact rng_cells (ih i _ _ f (List.getElem?_eq_getElem hlt) hi) c hc
/-- a number that fits into 64 bits -/
def i64Q (n : Int) : Prop := -9223372036854775808 ≤ n ∧ n ≤ 9223372036854775807
theorem rng_int {n : Int} (h : rngQ (.int .i64 n) = true) : i64Q n := wf64 (by simpa only [rngQ] using h)
theorem rng_map {α : Type} {f : α → AVal} {xs : List α} (h : rngL (xs.map f) = true) : ∀ x ∈ xs, rngQ (f x) = true := fun x hx => rngL_iff.1 h (f x) (List.mem_map_of_mem hx)
end Go.Proofs.YtmbnloccmnclnaaDoor
