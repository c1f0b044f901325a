/- Trees as plain data, how values tell them, and what the helpers of the laws do to them; no condition. -/
import Derived.Test.YtnbpmjfemeeecaaTMerge
import Derived.Test.YtnbpmjfemeeecaaUx
namespace Go.Proofs.Ytnbpmjfemeeecaa
open Go.VK AVal
inductive Tr where
  | mk (name text : ByteArray) (leaf : Bool) (kids : List Tr)
namespace Tr
def name : Tr → ByteArray | mk n _ _ _ => n
def text : Tr → ByteArray | mk _ t _ _ => t
def leaf : Tr → Bool | mk _ _ l _ => l
def kids : Tr → List Tr | mk _ _ _ k => k
mutual
def av : Tr → AVal | mk n t l ks => .agg [.str n, .str t, .bool l, .ro false 4 (avs ks)]
def avs : List Tr → List AVal | [] => [] | k :: ks => av k :: avs ks
end
mutual
def ow : Tr → AVal | mk n t l ks => .agg [.str n, .str t, .bool l, .own 4 (ows ks)]
def ows : List Tr → List AVal | [] => [] | k :: ks => ow k :: ows ks
end
mutual
def sz : Tr → Nat | mk n t _ ks => n.size + t.size + (ks.length + szs ks)
def szs : List Tr → Nat | [] => 0 | k :: ks => sz k + szs ks
end
mutual
def wf : Tr → Prop | mk n t _ ks => n.size ≤ maxLen ∧ t.size ≤ maxLen ∧ ks.length ≤ maxLen ∧ wfs ks
def wfs : List Tr → Prop | [] => True | k :: ks => wf k ∧ wfs ks
end
theorem avs_map : ∀ ks : List Tr, avs ks = ks.map av
  | [] => by simp only [avs, List.map_nil]
  | k :: ks => by simp only [avs, List.map_cons, avs_map ks]
theorem ows_map : ∀ ks : List Tr, ows ks = ks.map ow
  | [] => by simp only [ows, List.map_nil]
  | k :: ks => by simp only [ows, List.map_cons, ows_map ks]
mutual
theorem asRo_ow : ∀ t : Tr, asRo (ow t) = av t
  | mk n t l ks => by simp only [ow, av, asRo, asRoL, asRoL_ows ks]
theorem asRoL_ows : ∀ ks : List Tr, asRoL (ows ks) = avs ks
  | [] => by simp only [ows, avs, asRoL]
  | k :: ks => by simp only [ows, avs, asRoL, asRo_ow k, asRoL_ows ks]
end
mutual
theorem asRo_av : ∀ t : Tr, asRo (av t) = av t
  | mk n t l ks => by simp only [av, asRo, asRoL]
theorem asRoL_avs : ∀ ks : List Tr, asRoL (avs ks) = avs ks
  | [] => by simp only [avs, asRoL]
  | k :: ks => by simp only [avs, asRoL, asRo_av k, asRoL_avs ks]
end
theorem av_shape (k : Tr) : shapes [.str, .str, .bool, .slice 4] (((av k).cells.drop 0).take 4) = true := by cases k; rfl
theorem av_0 (k : Tr) : ((av k).cell 0).toStr = k.name := by cases k; rfl
theorem av_1 (k : Tr) : ((av k).cell 1).toStr = k.text := by cases k; rfl
theorem av_2 (k : Tr) : ((av k).cell 2).toBool = k.leaf := by cases k; rfl
theorem av_3 (k : Tr) : ((av k).cell 3).elems = avs k.kids := by cases k; rfl
theorem avs_len (ks : List Tr) : (avs ks).length = ks.length := by rw [avs_map, List.length_map]
theorem ows_len (ks : List Tr) : (ows ks).length = ks.length := by rw [ows_map, List.length_map]
theorem avs_get (pre suf : List Tr) (k : Tr) : (avs (pre ++ k :: suf)).getD pre.length .und = av k := by rw [avs_map]; simp
theorem szs_append : ∀ (a b : List Tr), szs (a ++ b) = szs a + szs b
  | [], b => by simp [szs]
  | k :: a, b => by simp only [List.cons_append, szs, szs_append a b]; omega
end Tr
open Tr
theorem mid_lt (pre suf : List Tr) (k : Tr) : pre.length < (pre ++ k :: suf).length := by simp
mutual
theorem s29 : ∀ (t : Tr) (l : Int), wf t → 0 ≤ l → l ≤ 1048576 → Fl_szTree t.name t.text t.leaf (avs t.kids) l = some (szR l (sz t))
  | mk n t b ks, l, hw, h0, h1 => by
    simp only [wf, maxLen] at hw
    obtain ⟨w1, w2, w3, w4⟩ := hw
    refine ul_szTree _ _ _ _ _ ?_
    simp only [Tr.name, Tr.text, Tr.kids]
    have e1 : IntKind.wrap .i64 (l - (n.size : Int)) = l - (n.size : Int) := wrap64 (by omega) (by omega)
    simp only [e1]
    by_cases g1 : l - (n.size : Int) < 0
    · have : l < ((n.size + t.size + (ks.length + szs ks) : Nat) : Int) := by omega
      simp only [szR, sz, g1, this, decide_true, cond_true, if_true]
    have e2 : IntKind.wrap .i64 (l - (n.size : Int) - (t.size : Int)) = l - (n.size : Int) - (t.size : Int) := wrap64 (by omega) (by omega)
    simp only [e2]
    by_cases g2 : l - (n.size : Int) - (t.size : Int) < 0
    · have : l < ((n.size + t.size + (ks.length + szs ks) : Nat) : Int) := by omega
      simp only [szR, sz, g1, g2, this, decide_true, decide_false, cond_true, cond_false, if_true]
    rw [s64 ks _ w3 w4 (by omega) (by omega)]
    simp only [g1, g2, decide_false, cond_false, Option.bind_some, szR, sz]
    by_cases g3 : l - (n.size : Int) - (t.size : Int) < ((ks.length + szs ks : Nat) : Int)
    · have : l < ((n.size + t.size + (ks.length + szs ks) : Nat) : Int) := by omega
      simp only [g3, this, if_true]; rfl
    · have h2 : ¬ l < ((n.size + t.size + (ks.length + szs ks) : Nat) : Int) := by omega
      have h3 : ¬ (l - (n.size : Int) - (t.size : Int) - ((ks.length + szs ks : Nat) : Int) < 0) := by omega
      simp only [g3, h2, h3, if_false, decide_false, cond_false, Option.some.injEq]
      omega
theorem s64 : ∀ (ks : List Tr) (l : Int), ks.length ≤ 9223372036854775807 → wfs ks → 0 ≤ l → l ≤ 1048576 → Fl_szTreeS (avs ks) l = some (szR l (ks.length + szs ks))
  | ks, l, hl, hw, h0, h1 => by
    refine ul_szTreeS _ _ ?_
    have e1 : IntKind.wrap .i64 (l - (ks.length : Int)) = l - (ks.length : Int) := wrap64 (by omega) (by omega)
    simp only [avs_len, e1]
    by_cases g1 : l - (ks.length : Int) < 0
    · have : l < ((ks.length + szs ks : Nat) : Int) := by omega
      simp only [szR, g1, this, decide_true, cond_true, if_true]
    have := s64_0 [] ks (l - (ks.length : Int)) (by simpa using (by omega : ks.length ≤ 1048576)) hw (by omega) (by omega)
    simp only [List.nil_append, List.length_nil, Int.natCast_zero] at this
    rw [this]
    simp only [g1, decide_false, cond_false, szR]
    by_cases g2 : l - (ks.length : Int) < (szs ks : Int)
    · have : l < ((ks.length + szs ks : Nat) : Int) := by omega
      simp only [g2, this, if_true]; rfl
    · have : ¬ l < ((ks.length + szs ks : Nat) : Int) := by omega
      simp only [g2, this, if_false, Option.bind_some, Sum.elim_inr, Option.some.injEq]
      omega
theorem s64_0 : ∀ (pre ks : List Tr) (l : Int), (pre ++ ks).length ≤ 1048576 → wfs ks → 0 ≤ l → l ≤ 1048576 → Ll_szTreeS_0 (avs (pre ++ ks)) l (pre.length : Int) = some (if l < (szs ks : Int) then .inl (-1) else .inr (l - (szs ks : Int)))
  | pre, [], l, hl, hw, h0, h1 => by
    refine ll_szTreeS_0 _ _ _ ?_
    have : ¬ l < 0 := by omega
    simp [avs_len, szs, this]
  | pre, k :: ks, l, hl, hw, h0, h1 => by
    simp only [wfs] at hw
    have hm := mid_lt pre ks k
    refine ll_szTreeS_0 _ _ _ ?_
    simp only [Int.toNat_natCast, avs_get, av_shape, av_0, av_1, av_2, av_3, avs_len, dlt_true hm, d0_true, Bool.and_self, s29 k l hw.1 h0 h1, wrap_succ hm (by omega), cond_true, Option.bind_some, szR, szs]
    by_cases g : l < (sz k : Int)
    · have : l < ((sz k + szs ks : Nat) : Int) := by omega
      simp only [g, this, if_true]; rfl
    · have ih := s64_0 (pre ++ [k]) ks (l - (sz k : Int)) (by simpa using hl) hw.2 (by omega) (by omega)
      have h3 : ¬ (l - (sz k : Int) < 0) := by omega
      simp only [List.append_assoc, List.cons_append, List.nil_append, List.length_append, List.length_cons, List.length_nil, Nat.zero_add] at ih
      simp only [g, if_false, h3, decide_false, cond_false, ih]
      by_cases g2 : l - (sz k : Int) < (szs ks : Int)
      · have : l < ((sz k + szs ks : Nat) : Int) := by omega
        simp only [g2, this, if_true]
      · have : ¬ l < ((sz k + szs ks : Nat) : Int) := by omega
        simp only [g2, this, if_false, Option.some.injEq, Sum.inr.injEq]
        omega
end
end Go.Proofs.Ytnbpmjfemeeecaa
