/- A language's description: what GrammarOK asks, in the reference and in the program; where it is not too large. -/
import Derived.Test.YtmbnloccmnclnaaGw
import Derived.Test.YtmbnloccmnclnaaBg
namespace Go.Proofs.Ytmbnloccmnclnaa
open Go.VK AVal
def gP : PartD := (0, ByteArray.empty, [])
def itemsQ (it : Int → Int → Option Int) : List Int → Int → Option Int
  | [], n => some n
  | p :: r, n => match it n p with | some n' => itemsQ it r n' | none => none
def altsQ (it : Int → Int → Option Int) : List (List Int) → Int → Option Int
  | [], n => some n
  | a :: r, n => match itemsQ it a n with | some n' => altsQ it r n' | none => none
def chkQ (p n : Int) : Option Int := bif decide (p = n) then some (n + 1) else none
def itQ (ps : List PartD) : Nat → Int → Int → Int → Option Int
  | 0, _, _, _ => none
  | f + 1, b, n, p =>
    if 0 ≤ p ∧ p < b then
      if (ps.getD p.toNat gP).1 = 1 then (bif plQ (ps.getD p.toNat gP).2.1 && decide ((ps.getD p.toNat gP).2.2.length = 0) then chkQ p n else none)
      else if (ps.getD p.toNat gP).1 = 2 then (bif litQ (ps.getD p.toNat gP).2.1 && decide ((ps.getD p.toNat gP).2.2.length = 0) then chkQ p n else none)
      else if (ps.getD p.toNat gP).1 = 3 ∨ (ps.getD p.toNat gP).1 = 4 ∨ (ps.getD p.toNat gP).1 = 5 then
        (bif decide ((ps.getD p.toNat gP).2.1 = ByteArray.empty) && !decide ((ps.getD p.toNat gP).2.2.length = 0) then
          (match altsQ (itQ ps f p) (ps.getD p.toNat gP).2.2 n with | some n' => chkQ p n' | none => none) else none)
      else none
    else none
theorem itQ_k {ps : List PartD} {f k : Nat} {b n : Int} (h : 0 ≤ (k : Int) ∧ (k : Int) < b) : itQ ps (f + 1) b n k =
      if (ps.getD k gP).1 = 1 then (bif plQ (ps.getD k gP).2.1 && decide ((ps.getD k gP).2.2.length = 0) then chkQ k n else none)
      else if (ps.getD k gP).1 = 2 then (bif litQ (ps.getD k gP).2.1 && decide ((ps.getD k gP).2.2.length = 0) then chkQ k n else none)
      else if (ps.getD k gP).1 = 3 ∨ (ps.getD k gP).1 = 4 ∨ (ps.getD k gP).1 = 5 then
        (bif decide ((ps.getD k gP).2.1 = ByteArray.empty) && !decide ((ps.getD k gP).2.2.length = 0) then
          (match altsQ (itQ ps f k) (ps.getD k gP).2.2 n with | some n' => chkQ k n' | none => none) else none)
      else none := by
  rw [itQ, if_pos h, Int.toNat_natCast]
theorem itemsQ_mono {it : Int → Int → Option Int} (h : ∀ n p n', it n p = some n' → n < n') : ∀ l n n', itemsQ it l n = some n' → n ≤ n'
  | [], n, n', e => by simp only [itemsQ, Option.some.injEq] at e; omega
  | p :: r, n, n', e => by
    simp only [itemsQ] at e
    split at e
    · rename_i n1 h1
      have := h _ _ _ h1
      have := itemsQ_mono h r n1 n' e
      omega
    · cases e
theorem altsQ_mono {it : Int → Int → Option Int} (h : ∀ n p n', it n p = some n' → n < n') : ∀ l n n', altsQ it l n = some n' → n ≤ n'
  | [], n, n', e => by simp only [altsQ, Option.some.injEq] at e; omega
  | p :: r, n, n', e => by
    simp only [altsQ] at e
    split at e
    · rename_i n1 h1
      have := itemsQ_mono h _ _ _ h1
      have := altsQ_mono h r n1 n' e
      omega
    · cases e
theorem chkQ_some {p n m : Int} (h : chkQ p n = some m) : p = n ∧ m = p + 1 := by
  unfold chkQ at h
  by_cases g : p = n
  · simp only [g, decide_true, cond_true, Option.some.injEq] at h; exact ⟨g, by omega⟩
  · simp [g] at h
theorem itQ_some {ps : List PartD} : ∀ f b n p m, itQ ps f b n p = some m → n < m ∧ m = p + 1 ∧ 0 ≤ p ∧ p < b
  | 0, _, _, _, _, h => by cases h
  | f + 1, b, n, p, m, h => by
    simp only [itQ] at h
    split at h
    · rename_i hb
      split at h
      · rw [Bool.cond_eq_ite] at h; split at h
        · have := chkQ_some h; omega
        · cases h
      · split at h
        · rw [Bool.cond_eq_ite] at h; split at h
          · have := chkQ_some h; omega
          · cases h
        · split at h
          · rw [Bool.cond_eq_ite] at h; split at h
            · split at h
              · rename_i n1 h1
                have h2 := chkQ_some h
                have := altsQ_mono (fun n p n' e => (itQ_some f _ n p n' e).1) _ _ _ h1
                omega
              · cases h
            · cases h
          · cases h
    · cases h
theorem itemsQ_le {ps : List PartD} {f : Nat} {b : Int} : ∀ l n n', itemsQ (itQ ps f b) l n = some n' → n' ≤ max n b
  | [], n, n', e => by simp only [itemsQ, Option.some.injEq] at e; omega
  | p :: r, n, n', e => by
    simp only [itemsQ] at e
    split at e
    · rename_i n1 h1
      have := itQ_some _ _ _ _ _ h1
      have := itemsQ_le r n1 n' e
      omega
    · cases e
theorem altsQ_le {ps : List PartD} {f : Nat} {b : Int} : ∀ l n n', altsQ (itQ ps f b) l n = some n' → n' ≤ max n b
  | [], n, n', e => by simp only [altsQ, Option.some.injEq] at e; omega
  | p :: r, n, n', e => by
    simp only [altsQ] at e
    split at e
    · rename_i n1 h1
      have := itemsQ_le _ _ _ h1
      have := altsQ_le r n1 n' e
      omega
    · cases e
/-! The program -/
def okR (q : Option Int) (r : Bool × Int) : Prop := match q with | some n => r = (true, n) | none => r.1 = false
def partsOK (ps : List PartD) : Prop := ps.length ≤ 200 ∧ ∀ x ∈ ps, x.2.2.length ≤ 1048576 ∧ ∀ a ∈ x.2.2, a.length ≤ 1048576
theorem e_rowS (x : List Int) : CT.shape (.slice 1) (avIntS x) = true := rfl
theorem e_elemsS (x : List Int) : (avIntS x).elems = x.map iv := rfl
abbrev endO (b : Int) (A : List AVal) (len ia : Int) (nm : ByteArray) (tk lv rl P : List AVal) (m : Int) : Option Int → (Bool × Int) ⊕ (Int × List AVal × Int × Int × Int × ByteArray × List AVal × List AVal × List AVal × List AVal)
  | some n' => .inr (b, A, len, ia, n', nm, tk, lv, rl, P)
  | none => .inl (false, m)
theorem in_items (ps : List PartD) (hp : partsOK ps) (nm : ByteArray) (tk lv rl : List AVal) (f : Nat) (b : Int) (hb : b ≤ f) (hbl : b ≤ ps.length)
    (hrec : ∀ f', f = f' + 1 → ∀ p : Int, 0 ≤ p → p < b → ∀ (alts : List (List Int)) (n : Int), alts.length ≤ 1048576 → (∀ a ∈ alts, a.length ≤ 1048576) → 0 ≤ n → n ≤ ps.length → ∃ r, Fi_inOrder nm tk lv rl (ps.map avPart) (alts.map avIntS) p n = some r ∧ okR (altsQ (itQ ps f' p) alts n) r)
    (A : List AVal) (len ia : Int) : ∀ (suf pre : List Int) (n : Int), (pre ++ suf).length ≤ 1048576 → 0 ≤ n → n ≤ ps.length → ∃ m : Int,
        Li_inOrder_1 b A len ia ((pre ++ suf).map iv) ((pre ++ suf).length : Int) (pre.length : Int) n nm tk lv rl (ps.map avPart) = some (endO b A len ia nm tk lv rl (ps.map avPart) m (itemsQ (itQ ps f b) suf n))
  | [], pre, n, hl, h0, h1 => by
    refine ⟨0, li_inOrder_1 _ _ _ _ _ _ _ _ _ _ _ _ _ ?_⟩
    simp [itemsQ]
  | p :: suf, pre, n, hl, h0, h1 => by
    have hP := hp.1
    have hm := mid_len pre suf p
    have hi : pre.length < 9000000000000000000 := by omega
    by_cases g1 : p < 0
    · have q : itQ ps f b n p = none := by cases f <;> simp [itQ, show ¬ 0 ≤ p by omega]
      refine ⟨n, li_inOrder_1 _ _ _ _ _ _ _ _ _ _ _ _ _ ?_⟩
      simp only [List.length_map, dlt_true hm, d0_true, Bool.and_self, cond_true, Int.toNat_natCast, map_mid, e_int, e_toInt, g1, decide_true, itemsQ, q, endO]
    by_cases g2 : b ≤ p
    · have q : itQ ps f b n p = none := by cases f <;> simp [itQ, show ¬ p < b by omega]
      refine ⟨n, li_inOrder_1 _ _ _ _ _ _ _ _ _ _ _ _ _ ?_⟩
      simp only [List.length_map, dlt_true hm, d0_true, Bool.and_self, cond_true, cond_false, Int.toNat_natCast, map_mid, e_int, e_toInt, g1, g2, decide_true, decide_false, itemsQ, q, endO]
    cases f with
    | zero => exfalso; omega
    | succ f =>
    obtain ⟨k, rfl⟩ : ∃ k : Nat, p = k := ⟨p.toNat, by omega⟩
    have hk : k < ps.length := by omega
    have hx := hp.2 _ (getD_mem gP hk)
    have ee : ByteArray.mk #[] = ByteArray.empty := rfl
    have hin : 0 ≤ (k : Int) ∧ (k : Int) < b := by omega
    -- what is left behind a part that ends at n1
    have fin : ∀ n1 : Int, 0 ≤ n1 → n1 ≤ ps.length → ∃ m : Int, (bif !(decide ((k : Int) = n1)) then some (.inl (false, n1)) else Li_inOrder_1 b A len ia ((pre ++ (k : Int) :: suf).map iv) ((pre ++ (k : Int) :: suf).length : Int) ((pre.length + 1 : Nat) : Int) (IntKind.wrap .i64 (n1 + 1)) nm tk lv rl (ps.map avPart))
          = some (endO b A len ia nm tk lv rl (ps.map avPart) m (match chkQ k n1 with | some n' => itemsQ (itQ ps (f + 1) b) suf n' | none => none)) := by
      intro n1 h2 h3
      by_cases g : (k : Int) = n1
      · have ew1 : IntKind.wrap .i64 (n1 + 1) = n1 + 1 := wrap64 (by omega) (by omega)
        obtain ⟨m, hm2⟩ := in_items ps hp nm tk lv rl (f + 1) b hb hbl hrec A len ia suf (pre ++ [(k : Int)]) (n1 + 1) (by simpa using hl) (by omega) (by omega)
        simp only [List.append_assoc, List.cons_append, List.nil_append, show (pre ++ [(k : Int)]).length = pre.length + 1 by simp] at hm2
        refine ⟨m, ?_⟩
        simp only [chkQ, g, decide_true, Bool.not_true, cond_false, cond_true, ew1]
        rw [← g] at hm2 ⊢
        exact hm2
      · exact ⟨n1, by simp only [chkQ, g, decide_false, Bool.not_false, cond_true, cond_false, endO]⟩
    have hgo : ∀ m y, (match (itQ ps (f + 1) b n k) with | some n' => some (endO b A len ia nm tk lv rl (ps.map avPart) m (itemsQ (itQ ps (f + 1) b) suf n')) | none => some (endO b A len ia nm tk lv rl (ps.map avPart) m none)) = some y →
        y = endO b A len ia nm tk lv rl (ps.map avPart) m (itemsQ (itQ ps (f + 1) b) ((k : Int) :: suf) n) := by
      intro m y hy
      simp only [itemsQ]
      cases g : itQ ps (f + 1) b n k <;> rw [g] at hy <;> exact (Option.some.inj hy).symm
    have hit := itQ_k (ps := ps) (f := f) (n := n) (k := k) hin
    by_cases k1 : (ps.getD k gP).1 = 1
    · rw [if_pos k1] at hit
      obtain ⟨m, hf⟩ := fin n h0 h1
      by_cases c1 : plQ (ps.getD k gP).2.1 = true
      · by_cases c2 : (ps.getD k gP).2.2.length = 0
        · have c2' : ¬ (0 : Int) < ((ps.getD k gP).2.2.length : Int) := by omega
          refine ⟨m, li_inOrder_1 _ _ _ _ _ _ _ _ _ _ _ _ _ ?_⟩
          simp only [c1, c2, decide_true, Bool.and_self, cond_true] at hit
          simp only [List.length_map, dlt_true hm, d0_true, Bool.and_self, cond_true, cond_false, Int.toNat_natCast, map_mid, e_int, e_toInt, g1, g2, decide_true, decide_false, lt_true hk, getD_map' avPart gP hk, sh_Part, c0_Part, c1_Part, c2_Part, k1, pl_impl, Option.bind_some, c1, Bool.not_true, c2', wrap_i hi, hf, itemsQ, hit]
        · have c2' : (0 : Int) < ((ps.getD k gP).2.2.length : Int) := by omega
          refine ⟨n, li_inOrder_1 _ _ _ _ _ _ _ _ _ _ _ _ _ ?_⟩
          simp only [c1, c2, decide_false, Bool.and_false, cond_false] at hit
          simp only [List.length_map, dlt_true hm, d0_true, Bool.and_self, cond_true, cond_false, Int.toNat_natCast, map_mid, e_int, e_toInt, g1, g2, decide_true, decide_false, lt_true hk, getD_map' avPart gP hk, sh_Part, c0_Part, c1_Part, c2_Part, k1, pl_impl, Option.bind_some, c1, Bool.not_true, c2', itemsQ, hit, endO]
      · have c1 := Bool.eq_false_iff.2 c1
        refine ⟨n, li_inOrder_1 _ _ _ _ _ _ _ _ _ _ _ _ _ ?_⟩
        simp only [c1, Bool.false_and, cond_false] at hit
        simp only [List.length_map, dlt_true hm, d0_true, Bool.and_self, cond_true, cond_false, Int.toNat_natCast, map_mid, e_int, e_toInt, g1, g2, decide_true, decide_false, lt_true hk, getD_map' avPart gP hk, sh_Part, c0_Part, c1_Part, c2_Part, k1, pl_impl, Option.bind_some, c1, Bool.not_false, itemsQ, hit, endO]
    rw [if_neg k1] at hit
    by_cases k2 : (ps.getD k gP).1 = 2
    · rw [if_pos k2] at hit
      obtain ⟨m, hf⟩ := fin n h0 h1
      have k1' : ¬ ((2 : Int) = 1) := by omega
      by_cases c1 : litQ (ps.getD k gP).2.1 = true
      · by_cases c2 : (ps.getD k gP).2.2.length = 0
        · have c2' : ¬ (0 : Int) < ((ps.getD k gP).2.2.length : Int) := by omega
          refine ⟨m, li_inOrder_1 _ _ _ _ _ _ _ _ _ _ _ _ _ ?_⟩
          simp only [c1, c2, decide_true, Bool.and_self, cond_true] at hit
          simp only [List.length_map, dlt_true hm, d0_true, Bool.and_self, cond_true, cond_false, Int.toNat_natCast, map_mid, e_int, e_toInt, g1, g2, decide_true, decide_false, lt_true hk, getD_map' avPart gP hk, sh_Part, c0_Part, c1_Part, c2_Part, k2, k1', lit_impl, Option.bind_some, c1, Bool.not_true, c2', wrap_i hi, hf, itemsQ, hit]
        · have c2' : (0 : Int) < ((ps.getD k gP).2.2.length : Int) := by omega
          refine ⟨n, li_inOrder_1 _ _ _ _ _ _ _ _ _ _ _ _ _ ?_⟩
          simp only [c1, c2, decide_false, Bool.and_false, cond_false] at hit
          simp only [List.length_map, dlt_true hm, d0_true, Bool.and_self, cond_true, cond_false, Int.toNat_natCast, map_mid, e_int, e_toInt, g1, g2, decide_true, decide_false, lt_true hk, getD_map' avPart gP hk, sh_Part, c0_Part, c1_Part, c2_Part, k2, k1', lit_impl, Option.bind_some, c1, Bool.not_true, c2', itemsQ, hit, endO]
      · have c1 := Bool.eq_false_iff.2 c1
        refine ⟨n, li_inOrder_1 _ _ _ _ _ _ _ _ _ _ _ _ _ ?_⟩
        simp only [c1, Bool.false_and, cond_false] at hit
        simp only [List.length_map, dlt_true hm, d0_true, Bool.and_self, cond_true, cond_false, Int.toNat_natCast, map_mid, e_int, e_toInt, g1, g2, decide_true, decide_false, lt_true hk, getD_map' avPart gP hk, sh_Part, c0_Part, c1_Part, c2_Part, k2, k1', lit_impl, Option.bind_some, c1, Bool.not_false, itemsQ, hit, endO]
    rw [if_neg k2] at hit
    by_cases k3 : (ps.getD k gP).1 = 3 ∨ (ps.getD k gP).1 = 4 ∨ (ps.getD k gP).1 = 5
    · rw [if_pos k3] at hit
      by_cases c1 : (ps.getD k gP).2.1 = ByteArray.empty
      · by_cases c2 : (ps.getD k gP).2.2.length = 0
        · have c2' : ((ps.getD k gP).2.2.length : Int) < 1 := by omega
          refine ⟨n, li_inOrder_1 _ _ _ _ _ _ _ _ _ _ _ _ _ ?_⟩
          simp only [c1, c2, decide_true, Bool.not_true, Bool.and_false, cond_false] at hit
          rcases k3 with k3 | k3 | k3 <;>
          simp only [List.length_map, dlt_true hm, d0_true, Bool.and_self, cond_true, cond_false, Int.toNat_natCast, map_mid, e_int, e_toInt, g1, g2, decide_true, decide_false, lt_true hk, getD_map' avPart gP hk, sh_Part, c0_Part, c1_Part, c2_Part, k3, k1, k2, c1, ee, Bool.not_true, c2', itemsQ, hit, endO, show ¬ (3 : Int) = 1 by omega, show ¬ (3 : Int) = 2 by omega, show ¬ (4 : Int) = 1 by omega, show ¬ (4 : Int) = 2 by omega, show ¬ (4 : Int) = 3 by omega, show ¬ (5 : Int) = 1 by omega, show ¬ (5 : Int) = 2 by omega, show ¬ (5 : Int) = 3 by omega, show ¬ (5 : Int) = 4 by omega]
        · have c2' : ¬ ((ps.getD k gP).2.2.length : Int) < 1 := by omega
          obtain ⟨r, hr, hok⟩ := hrec f rfl k (by omega) (by omega) (ps.getD k gP).2.2 n hx.1 hx.2 h0 h1
          simp only [c1, c2, decide_true, decide_false, Bool.not_false, Bool.and_self, cond_true] at hit
          cases ha : altsQ (itQ ps f k) (ps.getD k gP).2.2 n with
          | none =>
            rw [ha] at hit hok
            obtain ⟨ok, n1⟩ := r
            simp only [okR] at hok
            subst hok
            refine ⟨n1, li_inOrder_1 _ _ _ _ _ _ _ _ _ _ _ _ _ ?_⟩
            rcases k3 with k3 | k3 | k3 <;>
            simp only [List.length_map, dlt_true hm, d0_true, Bool.and_self, cond_true, cond_false, Int.toNat_natCast, map_mid, e_int, e_toInt, g1, g2, decide_true, decide_false, lt_true hk, getD_map' avPart gP hk, sh_Part, c0_Part, c1_Part, c2_Part, k3, k1, k2, c1, ee, Bool.not_true, Bool.not_false, c2', hr, Option.bind_some, itemsQ, hit, endO, show ¬ (3 : Int) = 1 by omega, show ¬ (3 : Int) = 2 by omega, show ¬ (4 : Int) = 1 by omega, show ¬ (4 : Int) = 2 by omega, show ¬ (4 : Int) = 3 by omega, show ¬ (5 : Int) = 1 by omega, show ¬ (5 : Int) = 2 by omega, show ¬ (5 : Int) = 3 by omega, show ¬ (5 : Int) = 4 by omega]
          | some n1 =>
            rw [ha] at hit hok
            simp only [okR] at hok
            subst hok
            have hn1 := altsQ_mono (fun n p n' e => (itQ_some f _ n p n' e).1) _ _ _ ha
            have hn2 := altsQ_le _ _ _ ha
            obtain ⟨m, hf⟩ := fin n1 (by omega) (by omega)
            refine ⟨m, li_inOrder_1 _ _ _ _ _ _ _ _ _ _ _ _ _ ?_⟩
            rcases k3 with k3 | k3 | k3 <;>
            simp only [List.length_map, dlt_true hm, d0_true, Bool.and_self, cond_true, cond_false, Int.toNat_natCast, map_mid, e_int, e_toInt, g1, g2, decide_true, decide_false, lt_true hk, getD_map' avPart gP hk, sh_Part, c0_Part, c1_Part, c2_Part, k3, k1, k2, c1, ee, Bool.not_true, Bool.not_false, c2', hr, Option.bind_some, wrap_i hi, hf, itemsQ, hit, show ¬ (3 : Int) = 1 by omega, show ¬ (3 : Int) = 2 by omega, show ¬ (4 : Int) = 1 by omega, show ¬ (4 : Int) = 2 by omega, show ¬ (4 : Int) = 3 by omega, show ¬ (5 : Int) = 1 by omega, show ¬ (5 : Int) = 2 by omega, show ¬ (5 : Int) = 3 by omega, show ¬ (5 : Int) = 4 by omega]
      · refine ⟨n, li_inOrder_1 _ _ _ _ _ _ _ _ _ _ _ _ _ ?_⟩
        simp only [c1, decide_false, Bool.false_and, cond_false] at hit
        rcases k3 with k3 | k3 | k3 <;>
        simp only [List.length_map, dlt_true hm, d0_true, Bool.and_self, cond_true, cond_false, Int.toNat_natCast, map_mid, e_int, e_toInt, g1, g2, decide_true, decide_false, lt_true hk, getD_map' avPart gP hk, sh_Part, c0_Part, c1_Part, c2_Part, k3, k1, k2, c1, ee, Bool.not_false, itemsQ, hit, endO, show ¬ (3 : Int) = 1 by omega, show ¬ (3 : Int) = 2 by omega, show ¬ (4 : Int) = 1 by omega, show ¬ (4 : Int) = 2 by omega, show ¬ (4 : Int) = 3 by omega, show ¬ (5 : Int) = 1 by omega, show ¬ (5 : Int) = 2 by omega, show ¬ (5 : Int) = 3 by omega, show ¬ (5 : Int) = 4 by omega]
    · rw [if_neg k3] at hit
      refine ⟨n, li_inOrder_1 _ _ _ _ _ _ _ _ _ _ _ _ _ ?_⟩
      have k4 : ¬ (ps.getD k gP).1 = 3 := fun e => k3 (.inl e)
      have k5 : ¬ (ps.getD k gP).1 = 4 := fun e => k3 (.inr (.inl e))
      have k6 : ¬ (ps.getD k gP).1 = 5 := fun e => k3 (.inr (.inr e))
      simp only [List.length_map, dlt_true hm, d0_true, Bool.and_self, cond_true, cond_false, Int.toNat_natCast, map_mid, e_int, e_toInt, g1, g2, decide_true, decide_false, lt_true hk, getD_map' avPart gP hk, sh_Part, c0_Part, c1_Part, c2_Part, k1, k2, k4, k5, k6, itemsQ, hit, endO]
theorem inA (ps : List PartD) (hp : partsOK ps) (nm : ByteArray) (tk lv rl : List AVal) (f : Nat) (b : Int) (hb : b ≤ f) (hbl : b ≤ ps.length)
    (hrec : ∀ f', f = f' + 1 → ∀ p : Int, 0 ≤ p → p < b → ∀ (alts : List (List Int)) (n : Int), alts.length ≤ 1048576 → (∀ a ∈ alts, a.length ≤ 1048576) → 0 ≤ n → n ≤ ps.length → ∃ r, Fi_inOrder nm tk lv rl (ps.map avPart) (alts.map avIntS) p n = some r ∧ okR (altsQ (itQ ps f' p) alts n) r)
    (alts : List (List Int)) (n : Int) (hal : alts.length ≤ 1048576) (has : ∀ a ∈ alts, a.length ≤ 1048576) (hn0 : 0 ≤ n) (hn1 : n ≤ ps.length) : ∃ r, Fi_inOrder nm tk lv rl (ps.map avPart) (alts.map avIntS) b n = some r ∧ okR (altsQ (itQ ps f b) alts n) r := by
    have rows : ∀ (suf pre : List (List Int)) (n : Int), (pre ++ suf).length ≤ 1048576 → (∀ a ∈ suf, a.length ≤ 1048576) → 0 ≤ n → n ≤ ps.length → ∃ m : Int,
        Li_inOrder_0 b ((pre ++ suf).map avIntS) ((pre ++ suf).length : Int) (pre.length : Int) n nm tk lv rl (ps.map avPart) = some (match altsQ (itQ ps f b) suf n with | some n' => .inr n' | none => .inl (false, m)) := by
      intro suf
      induction suf with
      | nil =>
        intro pre n hl _ h0 h1
        refine ⟨0, li_inOrder_0 _ _ _ _ _ _ _ _ _ _ ?_⟩
        simp [altsQ]
      | cons a suf ih =>
        intro pre n hl ha h0 h1
        have hm := mid_len pre suf a
        have hi : pre.length < 9000000000000000000 := by omega
        obtain ⟨m, h2⟩ := in_items ps hp nm tk lv rl f b hb hbl hrec ((pre ++ a :: suf).map avIntS) ((pre ++ a :: suf).length : Int) (pre.length : Int) a [] n (by simpa using ha a (by simp)) h0 h1
        simp only [List.nil_append, List.length_nil, Int.natCast_zero] at h2
        cases q : itemsQ (itQ ps f b) a n with
        | none =>
          rw [q] at h2
          refine ⟨m, li_inOrder_0 _ _ _ _ _ _ _ _ _ _ ?_⟩
          simp only [List.length_map, dlt_true hm, d0_true, Bool.and_self, cond_true, Int.toNat_natCast, map_mid, e_rowS, e_elemsS, h2, endO, Option.bind_some, Sum.elim_inl, altsQ, q]
        | some n1 =>
          rw [q] at h2
          have b1 := itemsQ_mono (fun n p n' e => (itQ_some f _ n p n' e).1) _ _ _ q
          have b2 := itemsQ_le _ _ _ q
          obtain ⟨m2, h3⟩ := ih (pre ++ [a]) n1 (by simpa using hl) (fun x hx => ha x (by simp [hx])) (by omega) (by omega)
          simp only [List.append_assoc, List.cons_append, List.nil_append, show (pre ++ [a]).length = pre.length + 1 by simp] at h3
          refine ⟨m2, li_inOrder_0 _ _ _ _ _ _ _ _ _ _ ?_⟩
          simp only [List.length_map, dlt_true hm, d0_true, Bool.and_self, cond_true, Int.toNat_natCast, map_mid, e_rowS, e_elemsS, h2, endO, Option.bind_some, Sum.elim_inr, altsQ, q, wrap_i hi, h3]
    obtain ⟨m, h⟩ := rows alts [] n (by simpa using hal) has hn0 hn1
    simp only [List.nil_append, List.length_nil, Int.natCast_zero] at h
    cases q : altsQ (itQ ps f b) alts n with
    | none =>
      rw [q] at h
      exact ⟨(false, m), ui_inOrder _ _ _ _ _ _ _ _ (by simp only [List.length_map, h, Option.bind_some, Sum.elim_inl]), rfl⟩
    | some n1 =>
      rw [q] at h
      exact ⟨(true, n1), ui_inOrder _ _ _ _ _ _ _ _ (by simp only [List.length_map, h, Option.bind_some, Sum.elim_inr]), rfl⟩
theorem inO (ps : List PartD) (hp : partsOK ps) (nm : ByteArray) (tk lv rl : List AVal) : ∀ (f : Nat) (b : Int), b ≤ f → b ≤ ps.length → ∀ (alts : List (List Int)) (n : Int), alts.length ≤ 1048576 → (∀ a ∈ alts, a.length ≤ 1048576) → 0 ≤ n → n ≤ ps.length →
    ∃ r, Fi_inOrder nm tk lv rl (ps.map avPart) (alts.map avIntS) b n = some r ∧ okR (altsQ (itQ ps f b) alts n) r := by
  intro f
  induction f with
  | zero => exact fun b hb hbl => inA ps hp nm tk lv rl 0 b hb hbl fun f' h => by cases h
  | succ f ih =>
    intro b hb hbl
    refine inA ps hp nm tk lv rl (f + 1) b hb hbl fun f' h p h0 h1 alts n h2 h3 h4 h5 => ?_
    obtain rfl : f = f' := by omega
    exact ih p (by omega) (by omega) alts n h2 h3 h4 h5
/-! The reference -/
theorem wk_off (A : List AVal) (b i : Int) (nm : ByteArray) (tk lv rl P : List AVal) (n : Int) : Ls_l03Walk_items_0 A b i nm tk lv rl P n false = some (.inr (nm, tk, lv, rl, P, n, false)) := by
  refine ls_l03Walk_items_0 _ _ _ _ _ _ _ _ _ _ ?_
  cases decide (i < ((A.length : Nat) : Int)) <;> rfl
theorem wk_items_off (A : List AVal) (b : Int) (nm : ByteArray) (tk lv rl P : List AVal) (n : Int) : Fs_l03Walk_items A b nm tk lv rl P n false = some (nm, tk, lv, rl, P, n, false) := by
  refine us_l03Walk_items _ _ _ _ _ _ _ _ _ ?_
  simp only [wk_off, Option.bind_some, Sum.elim_inr]
theorem wk_alts_off (A : List AVal) (b i j : Int) (nm : ByteArray) (tk lv rl P : List AVal) (n k : Int) (s : ByteArray) (B : List AVal) : Ls_l03Walk_items_1 A b i j nm tk lv rl P n false k s B = some (A, b, i, nm, tk, lv, rl, P, n, false) := by
  refine ls_l03Walk_items_1 _ _ _ _ _ _ _ _ _ _ _ _ _ _ ?_
  cases decide (j < ((B.length : Nat) : Int)) <;> rfl
/-- what the reference's walk leaves: the next part, and whether all is well -/
abbrev endW (nm : ByteArray) (tk lv rl P : List AVal) (m : Int) (q : Option Int) : ByteArray × List AVal × List AVal × List AVal × List AVal × Int × Bool := (nm, tk, lv, rl, P, q.getD m, q.isSome)
abbrev W7 := ByteArray × List AVal × List AVal × List AVal × List AVal × Int × Bool
def both : W7 ⊕ W7 → W7 | .inl x => x | .inr x => x
theorem wk_alts_s (ps : List PartD) (hp : partsOK ps) (nm : ByteArray) (tk lv rl : List AVal) (f : Nat) (k : Nat) (hk : k ≤ ps.length)
    (hrec : ∀ (l : List Int) (n : Int), l.length ≤ 1048576 → 0 ≤ n → n ≤ ps.length → ∃ m, Fs_l03Walk_items (l.map iv) k nm tk lv rl (ps.map avPart) n true = some (endW nm tk lv rl (ps.map avPart) m (itemsQ (itQ ps f k) l n)))
    (pre suf : List Int) (hl : (pre ++ (k : Int) :: suf).length ≤ 1048576) (b kd : Int) (s : ByteArray) : ∀ (sa pa : List (List Int)) (n : Int), (pa ++ sa).length ≤ 1048576 → (∀ a ∈ sa, a.length ≤ 1048576) → 0 ≤ n → n ≤ ps.length → ∃ m,
        Ls_l03Walk_items_1 ((pre ++ (k : Int) :: suf).map iv) b (pre.length : Int) (pa.length : Int) nm tk lv rl (ps.map avPart) n true kd s ((pa ++ sa).map avIntS) = some ((pre ++ (k : Int) :: suf).map iv, b, (pre.length : Int), endW nm tk lv rl (ps.map avPart) m (altsQ (itQ ps f k) sa n))
  | [], pa, n, _, _, h0, h1 => by
    refine ⟨0, ls_l03Walk_items_1 _ _ _ _ _ _ _ _ _ _ _ _ _ _ ?_⟩
    simp [altsQ, endW]
  | a :: sa, pa, n, hl2, ha, h0, h1 => by
    have hm := mid_len pre suf (k : Int)
    have hm2 := mid_len pa sa a
    have hi : pa.length < 9000000000000000000 := by omega
    obtain ⟨m, h2⟩ := hrec a n (ha a (by simp)) h0 h1
    cases q : itemsQ (itQ ps f k) a n with
    | none =>
      rw [q] at h2
      refine ⟨m, ls_l03Walk_items_1 _ _ _ _ _ _ _ _ _ _ _ _ _ _ ?_⟩
      simp only [List.length_map, dlt_true hm, dlt_true hm2, d0_true, Bool.and_self, cond_true, Int.toNat_natCast, map_mid, e_rowS, e_elemsS, e_int, e_toInt, h2, endW, Option.bind_some, Option.getD_none, Option.isSome_none, wk_alts_off, altsQ, q]
    | some n1 =>
      rw [q] at h2
      have b1 := itemsQ_mono (fun n p n' e => (itQ_some f _ n p n' e).1) _ _ _ q
      have b2 := itemsQ_le _ _ _ q
      obtain ⟨m2, h3⟩ := wk_alts_s ps hp nm tk lv rl f k hk hrec pre suf hl b kd s sa (pa ++ [a]) n1 (by simpa using hl2) (fun x hx => ha x (by simp [hx])) (by omega) (by omega)
      simp only [List.append_assoc pa [a], List.cons_append, List.nil_append, show (pa ++ [a]).length = pa.length + 1 by simp] at h3
      refine ⟨m2, ls_l03Walk_items_1 _ _ _ _ _ _ _ _ _ _ _ _ _ _ ?_⟩
      simp only [List.length_map, dlt_true hm, dlt_true hm2, d0_true, Bool.and_self, cond_true, Int.toNat_natCast, map_mid, e_rowS, e_elemsS, e_int, e_toInt, h2, endW, Option.bind_some, Option.getD_some, Option.isSome_some, wrap_i hi, altsQ, q]
      exact h3
theorem wk_items_s (ps : List PartD) (hp : partsOK ps) (nm : ByteArray) (tk lv rl : List AVal) (f : Nat) (b : Int) (hb : b ≤ f) (hbl : b ≤ ps.length) (hb0 : 0 ≤ b)
    (hrec : ∀ f', f = f' + 1 → ∀ p : Int, 0 ≤ p → p < b → ∀ (l : List Int) (n : Int), l.length ≤ 1048576 → 0 ≤ n → n ≤ ps.length → ∃ m, Fs_l03Walk_items (l.map iv) p nm tk lv rl (ps.map avPart) n true = some (endW nm tk lv rl (ps.map avPart) m (itemsQ (itQ ps f' p) l n))) :
    ∀ (suf pre : List Int) (n : Int), (pre ++ suf).length ≤ 1048576 → 0 ≤ n → n ≤ ps.length → ∃ m r,
        Ls_l03Walk_items_0 ((pre ++ suf).map iv) b (pre.length : Int) nm tk lv rl (ps.map avPart) n true = some r ∧ both r = endW nm tk lv rl (ps.map avPart) m (itemsQ (itQ ps f b) suf n)
  | [], pre, n, hl, h0, h1 => by
    refine ⟨0, .inr (nm, tk, lv, rl, ps.map avPart, n, true), ls_l03Walk_items_0 _ _ _ _ _ _ _ _ _ _ ?_, rfl⟩
    simp
  | p :: suf, pre, n, hl, h0, h1 => by
    have hP := hp.1
    have hm := mid_len pre suf p
    have hi : pre.length < 9000000000000000000 := by omega
    have ewb : IntKind.wrap .i64 (b - 1) = b - 1 := wrap64 (by omega) (by omega)
    cases hq : inQ n (b - 1) p with
    | false =>
      have q : itQ ps f b n p = none := by
        cases g : itQ ps f b n p with
        | none => rfl
        | some m =>
          have := itQ_some _ _ _ _ _ g
          simp only [inQ, Bool.and_eq_false_iff, decide_eq_false_iff_not] at hq
          omega
      refine ⟨n, .inl (nm, tk, lv, rl, ps.map avPart, n, false), ls_l03Walk_items_0 _ _ _ _ _ _ _ _ _ _ ?_, by simp only [itemsQ, q]; rfl⟩
      simp only [List.length_map, dlt_true hm, d0_true, Bool.and_self, cond_true, Int.toNat_natCast, map_mid, e_int, e_toInt, ewb, s61', hq, Bool.not_false, Option.bind_some]
    | true =>
    have hin' := hq
    simp only [inQ, Bool.and_eq_true, decide_eq_true_eq] at hin'
    cases f with
    | zero => exfalso; omega
    | succ f =>
    obtain ⟨k, rfl⟩ : ∃ k : Nat, p = k := ⟨p.toNat, by omega⟩
    have hk : k < ps.length := by omega
    have hx := hp.2 _ (getD_mem gP hk)
    have ee : ByteArray.mk #[] = ByteArray.empty := rfl
    have hin : 0 ≤ (k : Int) ∧ (k : Int) < b := by omega
    have off : ∀ n1 : Int, itQ ps (f + 1) b n k = none → ∃ m, both (.inr (nm, tk, lv, rl, ps.map avPart, n1, false)) = endW nm tk lv rl (ps.map avPart) m (itemsQ (itQ ps (f + 1) b) ((k : Int) :: suf) n) := fun n1 h => ⟨n1, by simp only [itemsQ, h]; rfl⟩
    have fin : ∀ n1 : Int, 0 ≤ n1 → n1 ≤ ps.length → ∃ m r, Ls_l03Walk_items_0 ((pre ++ (k : Int) :: suf).map iv) b ((pre.length + 1 : Nat) : Int) nm tk lv rl (ps.map avPart) (IntKind.wrap .i64 (n1 + 1)) (decide ((k : Int) = n1)) = some r ∧ both r = endW nm tk lv rl (ps.map avPart) m (match chkQ k n1 with | some n' => itemsQ (itQ ps (f + 1) b) suf n' | none => none) := by
      intro n1 h2 h3
      by_cases g : (k : Int) = n1
      · have ew1 : IntKind.wrap .i64 (n1 + 1) = n1 + 1 := wrap64 (by omega) (by omega)
        obtain ⟨m, r, h4, h5⟩ := wk_items_s ps hp nm tk lv rl (f + 1) b hb hbl hb0 hrec suf (pre ++ [(k : Int)]) (n1 + 1) (by simpa using hl) (by omega) (by omega)
        simp only [List.append_assoc, List.cons_append, List.nil_append, show (pre ++ [(k : Int)]).length = pre.length + 1 by simp] at h4
        refine ⟨m, r, ?_, ?_⟩
        · rw [decide_eq_true g, ew1]; exact h4
        · simp only [chkQ, g, decide_true, cond_true]; exact h5
      · exact ⟨IntKind.wrap .i64 (n1 + 1), .inr (nm, tk, lv, rl, ps.map avPart, IntKind.wrap .i64 (n1 + 1), false), by rw [decide_eq_false g]; exact wk_off .., by simp only [chkQ, g, decide_false, cond_false]; rfl⟩
    have hit := itQ_k (ps := ps) (f := f) (n := n) (k := k) hin
    by_cases k1 : (ps.getD k gP).1 = 1
    · rw [if_pos k1] at hit
      obtain ⟨m, r, hf, hr⟩ := fin n h0 h1
      cases a1 : nmOK (ps.getD k gP).2.1 with
      | false =>
        have hn : itQ ps (f + 1) b n k = none := by rw [hit]; simp only [plQ, a1, Bool.not_true, Bool.not_false, decide_true, decide_false, Bool.and_false, Bool.false_and, cond_false]
        obtain ⟨m, ho⟩ := off (IntKind.wrap .i64 (n + 1)) hn
        refine ⟨m, _, ls_l03Walk_items_0 _ _ _ _ _ _ _ _ _ _ ?_, ho⟩
        simp only [List.length_map, dlt_true hm, d0_true, Bool.and_self, cond_true, cond_false, Int.toNat_natCast, map_mid, e_int, e_toInt, ewb, s61', hq, Bool.not_true, Bool.not_false, Option.bind_some, lt_true hk, getD_map' avPart gP hk, sh_Part, c0_Part, c1_Part, c2_Part, decide_true, decide_false, wrap_i hi, k1, s108, a1, wk_off]
      | true =>
        cases a2 : kwQ (ps.getD k gP).2.1 with
        | true =>
          have hn : itQ ps (f + 1) b n k = none := by rw [hit]; simp only [plQ, a2, Bool.not_true, Bool.not_false, decide_true, decide_false, Bool.and_false, Bool.false_and, cond_false]
          obtain ⟨m, ho⟩ := off (IntKind.wrap .i64 (n + 1)) hn
          refine ⟨m, _, ls_l03Walk_items_0 _ _ _ _ _ _ _ _ _ _ ?_, ho⟩
          simp only [List.length_map, dlt_true hm, d0_true, Bool.and_self, cond_true, cond_false, Int.toNat_natCast, map_mid, e_int, e_toInt, ewb, s61', hq, Bool.not_true, Bool.not_false, Option.bind_some, lt_true hk, getD_map' avPart gP hk, sh_Part, c0_Part, c1_Part, c2_Part, decide_true, decide_false, wrap_i hi, k1, s108, a1, kw_spec, a2, wk_off]
        | false =>
          by_cases c2 : (ps.getD k gP).2.2.length = 0
          · have c2' : ((ps.getD k gP).2.2.length : Int) = 0 := by omega
            refine ⟨m, r, ls_l03Walk_items_0 _ _ _ _ _ _ _ _ _ _ ?_, ?_⟩
            · simp only [List.length_map, dlt_true hm, d0_true, Bool.and_self, cond_true, cond_false, Int.toNat_natCast, map_mid, e_int, e_toInt, ewb, s61', hq, Bool.not_true, Bool.not_false, Option.bind_some, lt_true hk, getD_map' avPart gP hk, sh_Part, c0_Part, c1_Part, c2_Part, decide_true, decide_false, wrap_i hi, k1, s108, a1, kw_spec, a2, c2', hf]
            · simp only [plQ, a1, a2, c2, Bool.not_false, decide_true, Bool.and_self, cond_true] at hit
              simp only [itemsQ, hit]; exact hr
          · have c2' : ¬ ((ps.getD k gP).2.2.length : Int) = 0 := by omega
            have hn : itQ ps (f + 1) b n k = none := by rw [hit]; simp only [c2, Bool.not_true, Bool.not_false, decide_true, decide_false, Bool.and_false, Bool.false_and, cond_false]
            obtain ⟨m, ho⟩ := off (IntKind.wrap .i64 (n + 1)) hn
            refine ⟨m, _, ls_l03Walk_items_0 _ _ _ _ _ _ _ _ _ _ ?_, ho⟩
            simp only [List.length_map, dlt_true hm, d0_true, Bool.and_self, cond_true, cond_false, Int.toNat_natCast, map_mid, e_int, e_toInt, ewb, s61', hq, Bool.not_true, Bool.not_false, Option.bind_some, lt_true hk, getD_map' avPart gP hk, sh_Part, c0_Part, c1_Part, c2_Part, decide_true, decide_false, wrap_i hi, k1, s108, a1, kw_spec, a2, c2', wk_off]
    rw [if_neg k1] at hit
    by_cases k2 : (ps.getD k gP).1 = 2
    · rw [if_pos k2] at hit
      have k1' : ¬ ((2 : Int) = 1) := by omega
      obtain ⟨m, r, hf, hr⟩ := fin n h0 h1
      cases a1 : litQ (ps.getD k gP).2.1 with
      | false =>
        have hn : itQ ps (f + 1) b n k = none := by rw [hit]; simp only [a1, Bool.not_true, Bool.not_false, decide_true, decide_false, Bool.and_false, Bool.false_and, cond_false]
        obtain ⟨m, ho⟩ := off (IntKind.wrap .i64 (n + 1)) hn
        refine ⟨m, _, ls_l03Walk_items_0 _ _ _ _ _ _ _ _ _ _ ?_, ho⟩
        simp only [List.length_map, dlt_true hm, d0_true, Bool.and_self, cond_true, cond_false, Int.toNat_natCast, map_mid, e_int, e_toInt, ewb, s61', hq, Bool.not_true, Bool.not_false, Option.bind_some, lt_true hk, getD_map' avPart gP hk, sh_Part, c0_Part, c1_Part, c2_Part, decide_true, decide_false, wrap_i hi, k2, k1', lit_spec, a1, wk_off]
      | true =>
        by_cases c2 : (ps.getD k gP).2.2.length = 0
        · have c2' : ((ps.getD k gP).2.2.length : Int) = 0 := by omega
          refine ⟨m, r, ls_l03Walk_items_0 _ _ _ _ _ _ _ _ _ _ ?_, ?_⟩
          · simp only [List.length_map, dlt_true hm, d0_true, Bool.and_self, cond_true, cond_false, Int.toNat_natCast, map_mid, e_int, e_toInt, ewb, s61', hq, Bool.not_true, Bool.not_false, Option.bind_some, lt_true hk, getD_map' avPart gP hk, sh_Part, c0_Part, c1_Part, c2_Part, decide_true, decide_false, wrap_i hi, k2, k1', lit_spec, a1, c2', hf]
          · simp only [a1, c2, decide_true, Bool.and_self, cond_true] at hit
            simp only [itemsQ, hit]; exact hr
        · have c2' : ¬ ((ps.getD k gP).2.2.length : Int) = 0 := by omega
          have hn : itQ ps (f + 1) b n k = none := by rw [hit]; simp only [c2, Bool.not_true, Bool.not_false, decide_true, decide_false, Bool.and_false, Bool.false_and, cond_false]
          obtain ⟨m, ho⟩ := off (IntKind.wrap .i64 (n + 1)) hn
          refine ⟨m, _, ls_l03Walk_items_0 _ _ _ _ _ _ _ _ _ _ ?_, ho⟩
          simp only [List.length_map, dlt_true hm, d0_true, Bool.and_self, cond_true, cond_false, Int.toNat_natCast, map_mid, e_int, e_toInt, ewb, s61', hq, Bool.not_true, Bool.not_false, Option.bind_some, lt_true hk, getD_map' avPart gP hk, sh_Part, c0_Part, c1_Part, c2_Part, decide_true, decide_false, wrap_i hi, k2, k1', lit_spec, a1, c2', wk_off]
    rw [if_neg k2] at hit
    by_cases k3 : (ps.getD k gP).1 = 3 ∨ (ps.getD k gP).1 = 4 ∨ (ps.getD k gP).1 = 5
    · rw [if_pos k3] at hit
      by_cases c1 : (ps.getD k gP).2.1 = ByteArray.empty
      · by_cases c2 : (ps.getD k gP).2.2.length = 0
        · have c2' : ¬ (0 : Int) < ((ps.getD k gP).2.2.length : Int) := by omega
          have hn : itQ ps (f + 1) b n k = none := by rw [hit]; simp only [c2, Bool.not_true, Bool.not_false, decide_true, decide_false, Bool.and_false, Bool.false_and, cond_false]
          obtain ⟨m, ho⟩ := off (IntKind.wrap .i64 (n + 1)) hn
          refine ⟨m, _, ls_l03Walk_items_0 _ _ _ _ _ _ _ _ _ _ ?_, ho⟩
          rcases k3 with k3 | k3 | k3 <;>
          simp only [List.length_map, dlt_true hm, d0_true, Bool.and_self, cond_true, cond_false, Int.toNat_natCast, map_mid, e_int, e_toInt, ewb, s61', hq, Bool.not_true, Bool.not_false, Option.bind_some, lt_true hk, getD_map' avPart gP hk, sh_Part, c0_Part, c1_Part, c2_Part, decide_true, decide_false, wrap_i hi, k3, k1, k2, c1, ee, c2', wk_alts_off, wk_off, show ¬ (3 : Int) = 1 by omega, show ¬ (3 : Int) = 2 by omega, show ¬ (4 : Int) = 1 by omega, show ¬ (4 : Int) = 2 by omega, show ¬ (4 : Int) = 3 by omega, show ¬ (5 : Int) = 1 by omega, show ¬ (5 : Int) = 2 by omega, show ¬ (5 : Int) = 3 by omega, show ¬ (5 : Int) = 4 by omega]
        · have c2' : (0 : Int) < ((ps.getD k gP).2.2.length : Int) := by omega
          obtain ⟨m1, ha⟩ := wk_alts_s ps hp nm tk lv rl f k (by omega) (fun l n h4 h5 h6 => hrec f rfl k (by omega) (by omega) l n h4 h5 h6) pre suf hl b (ps.getD k gP).1 (ps.getD k gP).2.1 (ps.getD k gP).2.2 [] n (by simpa using hx.1) hx.2 h0 h1
          simp only [List.nil_append, List.length_nil, Int.natCast_zero] at ha
          simp only [c1, c2, decide_true, decide_false, Bool.not_false, Bool.and_self, cond_true] at hit
          cases q : altsQ (itQ ps f k) (ps.getD k gP).2.2 n with
          | none =>
            rw [q] at hit ha
            obtain ⟨m, ho⟩ := off (IntKind.wrap .i64 (m1 + 1)) hit
            refine ⟨m, _, ls_l03Walk_items_0 _ _ _ _ _ _ _ _ _ _ ?_, ho⟩
            simp only [endW, Option.getD_none, Option.isSome_none, c1] at ha
            rcases k3 with k3 | k3 | k3 <;> simp only [k3] at ha <;>
            simp only [List.length_map, dlt_true hm, d0_true, Bool.and_self, cond_true, cond_false, Int.toNat_natCast, map_mid, e_int, e_toInt, ewb, s61', hq, Bool.not_true, Bool.not_false, Option.bind_some, lt_true hk, getD_map' avPart gP hk, sh_Part, c0_Part, c1_Part, c2_Part, decide_true, decide_false, wrap_i hi, k3, k1, k2, c1, ee, c2', ha, wk_off, show ¬ (3 : Int) = 1 by omega, show ¬ (3 : Int) = 2 by omega, show ¬ (4 : Int) = 1 by omega, show ¬ (4 : Int) = 2 by omega, show ¬ (4 : Int) = 3 by omega, show ¬ (5 : Int) = 1 by omega, show ¬ (5 : Int) = 2 by omega, show ¬ (5 : Int) = 3 by omega, show ¬ (5 : Int) = 4 by omega]
          | some n1 =>
            rw [q] at hit ha
            have hn1 := altsQ_mono (fun n p n' e => (itQ_some f _ n p n' e).1) _ _ _ q
            have hn2 := altsQ_le _ _ _ q
            obtain ⟨m, r, hf, hr⟩ := fin n1 (by omega) (by omega)
            refine ⟨m, r, ls_l03Walk_items_0 _ _ _ _ _ _ _ _ _ _ ?_, by simp only [itemsQ, hit]; exact hr⟩
            simp only [endW, Option.getD_some, Option.isSome_some, c1] at ha
            rcases k3 with k3 | k3 | k3 <;> simp only [k3] at ha <;>
            simp only [List.length_map, dlt_true hm, d0_true, Bool.and_self, cond_true, cond_false, Int.toNat_natCast, map_mid, e_int, e_toInt, ewb, s61', hq, Bool.not_true, Bool.not_false, Option.bind_some, lt_true hk, getD_map' avPart gP hk, sh_Part, c0_Part, c1_Part, c2_Part, decide_true, decide_false, wrap_i hi, k3, k1, k2, c1, ee, c2', ha, hf, show ¬ (3 : Int) = 1 by omega, show ¬ (3 : Int) = 2 by omega, show ¬ (4 : Int) = 1 by omega, show ¬ (4 : Int) = 2 by omega, show ¬ (4 : Int) = 3 by omega, show ¬ (5 : Int) = 1 by omega, show ¬ (5 : Int) = 2 by omega, show ¬ (5 : Int) = 3 by omega, show ¬ (5 : Int) = 4 by omega]
      · have hn : itQ ps (f + 1) b n k = none := by rw [hit]; simp only [c1, Bool.not_true, Bool.not_false, decide_true, decide_false, Bool.and_false, Bool.false_and, cond_false]
        obtain ⟨m, ho⟩ := off (IntKind.wrap .i64 (n + 1)) hn
        refine ⟨m, _, ls_l03Walk_items_0 _ _ _ _ _ _ _ _ _ _ ?_, ho⟩
        rcases k3 with k3 | k3 | k3 <;>
        simp only [List.length_map, dlt_true hm, d0_true, Bool.and_self, cond_true, cond_false, Int.toNat_natCast, map_mid, e_int, e_toInt, ewb, s61', hq, Bool.not_true, Bool.not_false, Option.bind_some, lt_true hk, getD_map' avPart gP hk, sh_Part, c0_Part, c1_Part, c2_Part, decide_true, decide_false, wrap_i hi, k3, k1, k2, c1, ee, wk_alts_off, wk_off, show ¬ (3 : Int) = 1 by omega, show ¬ (3 : Int) = 2 by omega, show ¬ (4 : Int) = 1 by omega, show ¬ (4 : Int) = 2 by omega, show ¬ (4 : Int) = 3 by omega, show ¬ (5 : Int) = 1 by omega, show ¬ (5 : Int) = 2 by omega, show ¬ (5 : Int) = 3 by omega, show ¬ (5 : Int) = 4 by omega]
    · rw [if_neg k3] at hit
      have k4 : ¬ (ps.getD k gP).1 = 3 := fun e => k3 (.inl e)
      have k5 : ¬ (ps.getD k gP).1 = 4 := fun e => k3 (.inr (.inl e))
      have k6 : ¬ (ps.getD k gP).1 = 5 := fun e => k3 (.inr (.inr e))
      obtain ⟨m, ho⟩ := off (IntKind.wrap .i64 (n + 1)) hit
      refine ⟨m, _, ls_l03Walk_items_0 _ _ _ _ _ _ _ _ _ _ ?_, ho⟩
      simp only [List.length_map, dlt_true hm, d0_true, Bool.and_self, cond_true, cond_false, Int.toNat_natCast, map_mid, e_int, e_toInt, ewb, s61', hq, Bool.not_true, Bool.not_false, Option.bind_some, lt_true hk, getD_map' avPart gP hk, sh_Part, c0_Part, c1_Part, c2_Part, decide_true, decide_false, wrap_i hi, k1, k2, k4, k5, k6, wk_off]
theorem wkA (ps : List PartD) (hp : partsOK ps) (nm : ByteArray) (tk lv rl : List AVal) (f : Nat) (b : Int) (hb : b ≤ f) (hbl : b ≤ ps.length) (hb0 : 0 ≤ b)
    (hrec : ∀ f', f = f' + 1 → ∀ p : Int, 0 ≤ p → p < b → ∀ (l : List Int) (n : Int), l.length ≤ 1048576 → 0 ≤ n → n ≤ ps.length → ∃ m, Fs_l03Walk_items (l.map iv) p nm tk lv rl (ps.map avPart) n true = some (endW nm tk lv rl (ps.map avPart) m (itemsQ (itQ ps f' p) l n)))
    (l : List Int) (n : Int) (hl : l.length ≤ 1048576) (h0 : 0 ≤ n) (h1 : n ≤ ps.length) : ∃ m, Fs_l03Walk_items (l.map iv) b nm tk lv rl (ps.map avPart) n true = some (endW nm tk lv rl (ps.map avPart) m (itemsQ (itQ ps f b) l n)) := by
  obtain ⟨m, r, h2, h3⟩ := wk_items_s ps hp nm tk lv rl f b hb hbl hb0 hrec l [] n (by simpa using hl) h0 h1
  simp only [List.nil_append, List.length_nil, Int.natCast_zero] at h2
  refine ⟨m, us_l03Walk_items _ _ _ _ _ _ _ _ _ ?_⟩
  rw [h2, ← h3]
  cases r <;> rfl
theorem wkO (ps : List PartD) (hp : partsOK ps) (nm : ByteArray) (tk lv rl : List AVal) : ∀ (f : Nat) (b : Int), b ≤ f → b ≤ ps.length → 0 ≤ b → ∀ (l : List Int) (n : Int), l.length ≤ 1048576 → 0 ≤ n → n ≤ ps.length →
    ∃ m, Fs_l03Walk_items (l.map iv) b nm tk lv rl (ps.map avPart) n true = some (endW nm tk lv rl (ps.map avPart) m (itemsQ (itQ ps f b) l n)) := by
  intro f
  induction f with
  | zero => exact fun b hb hbl hb0 => wkA ps hp nm tk lv rl 0 b hb hbl hb0 fun f' h => by cases h
  | succ f ih =>
    intro b hb hbl hb0
    refine wkA ps hp nm tk lv rl (f + 1) b hb hbl hb0 fun f' h p h0 h1 l n h2 h4 h5 => ?_
    obtain rfl : f = f' := by omega
    exact ih p (by omega) (by omega) h0 l n h2 h4 h5
end Go.Proofs.Ytmbnloccmnclnaa
