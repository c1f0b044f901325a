/- Ways in a graph of scopes: what is reached in how many steps; plain, no program; no condition. -/
import Derived.Test.YtfniojpjlachoaaUx
namespace Go.Proofs.Ytfniojpjlachoaa
open Go.VK AVal
/-! Rows that are functions -/
def upd (u : Int → Int) (t v : Int) : Int → Int := fun x => if x = t then v else u x
def vec (N : Nat) (u : Int → Int) : List AVal := (List.range N).map fun (i : Nat) => iv (u i)
def bv (N : Nat) (f : Int → Bool) : List AVal := (List.range N).map fun (i : Nat) => .bool (f i)
theorem vec_len (N : Nat) (u : Int → Int) : (vec N u).length = N := by simp [vec]
theorem bv_len (N : Nat) (f : Int → Bool) : (bv N f).length = N := by simp [bv]
theorem vec_get {N : Nat} (u : Int → Int) {t : Int} (h0 : 0 ≤ t) (h1 : t < N) : (vec N u).getD t.toNat .und = iv (u t) := by
  have h : t.toNat < N := by omega
  simp only [vec, List.getD_eq_getElem?_getD, List.getElem?_map, List.getElem?_range h, Option.map_some, Option.getD_some, Int.toNat_of_nonneg h0]
theorem bv_get {N : Nat} (u : Int → Bool) {t : Int} (h0 : 0 ≤ t) (h1 : t < N) : (bv N u).getD t.toNat .und = .bool (u t) := by
  have h : t.toNat < N := by omega
  simp only [bv, List.getD_eq_getElem?_getD, List.getElem?_map, List.getElem?_range h, Option.map_some, Option.getD_some, Int.toNat_of_nonneg h0]
theorem vec_set {N : Nat} (u : Int → Int) {t : Int} (v : Int) (h0 : 0 ≤ t) : (vec N u).set t.toNat (iv v) = vec N (upd u t v) := by
  refine List.ext_getElem (by simp [vec]) fun i h1 h2 => ?_
  simp only [vec, List.getElem_set, List.getElem_map, List.getElem_range, upd]
  by_cases g : t.toNat = i
  · have : (i : Int) = t := by omega
    simp only [g, this, if_true]
  · have : ¬ (i : Int) = t := by omega
    simp only [g, this, if_false]
theorem bv_set {N : Nat} (u : Int → Bool) {t : Int} (h0 : 0 ≤ t) : (bv N u).set t.toNat (.bool true) = bv N (fun x => u x || decide (t = x)) := by
  refine List.ext_getElem (by simp [bv]) fun i h1 h2 => ?_
  simp only [bv, List.getElem_set, List.getElem_map, List.getElem_range]
  by_cases g : t.toNat = i
  · have : t = (i : Int) := by omega
    subst this
    simp
  · have : ¬ t = (i : Int) := by omega
    simp only [g, this, if_false, decide_false, Bool.or_false]
theorem asRo_vec (N : Nat) (u : Int → Int) : asRoL (vec N u) = vec N u := by
  refine asRoL_eq fun x hx => ?_
  simp only [vec, List.mem_map] at hx
  obtain ⟨i, _, rfl⟩ := hx
  exact asRo_iv _
theorem asRo_bv (N : Nat) (u : Int → Bool) : asRoL (bv N u) = bv N u := by
  refine asRoL_eq fun x hx => ?_
  simp only [bv, List.mem_map] at hx
  obtain ⟨i, _, rfl⟩ := hx
  simp [asRo]
theorem vec_rep (N : Nat) (c : Int) : List.replicate N (iv c) = vec N fun _ => c := by
  refine List.ext_getElem (by simp [vec]) fun i h1 h2 => ?_
  simp [vec]
theorem bv_rep (N : Nat) : List.replicate N (.bool false : AVal) = bv N fun _ => false := by
  refine List.ext_getElem (by simp [bv]) fun i h1 h2 => ?_
  simp [bv]
/-- how many places below N are not under nought -/
def cnt0 (u : Int → Int) : Nat → Nat
  | 0 => 0
  | N + 1 => cnt0 u N + if 0 ≤ u N then 1 else 0
theorem cnt0_le (u : Int → Int) : ∀ N, cnt0 u N ≤ N
  | 0 => Nat.le_refl _
  | N + 1 => by have := cnt0_le u N; simp only [cnt0]; split <;> omega
theorem cnt0_far (u : Int → Int) (t v : Int) : ∀ N : Nat, (N : Int) ≤ t → cnt0 (upd u t v) N = cnt0 u N
  | 0, _ => rfl
  | N + 1, h => by
    have : ¬ (N : Int) = t := by omega
    simp only [cnt0, cnt0_far u t v N (by omega), upd, this, if_false]
theorem cnt0_upd (u : Int → Int) (t v : Int) (h0 : 0 ≤ t) (hu : u t < 0) (hv : 0 ≤ v) : ∀ N : Nat, t < N → cnt0 (upd u t v) N = cnt0 u N + 1
  | 0, h => by omega
  | N + 1, h => by
    by_cases g : (N : Int) = t
    · have hu' : ¬ 0 ≤ u t := by omega
      simp only [cnt0, cnt0_far u t v N (by omega), upd, g, if_true, hv, hu', if_false]
    · simp only [cnt0, cnt0_upd u t v h0 hu hv N (by omega), upd, g, if_false]
      omega
/-! Steps -/
abbrev Edg := Int × Int × Int
def beh (es : List Edg) (f : Int → Bool) (k : Int) (t : Int) : Bool := es.any fun e => decide (e.2.2 = k) && (f e.1 && decide (e.2.1 = t))
def lv (es : List Edg) (a : Int) : Nat → Int → Bool
  | 0 => fun t => decide (a = t)
  | k + 1 => beh es (lv es a k) 1
def rc (es : List Edg) (a : Int) (c : Nat) : Int → Bool := if c % 2 = 0 then lv es a (c / 2) else beh es (lv es a (c / 2)) 2
theorem rc_even (es : List Edg) (a : Int) (k : Nat) : rc es a (2 * k) = lv es a k := by
  have h1 : 2 * k % 2 = 0 := by omega
  have h2 : 2 * k / 2 = k := by omega
  simp only [rc, h1, h2, if_true]
theorem rc_odd (es : List Edg) (a : Int) (k : Nat) : rc es a (2 * k + 1) = beh es (lv es a k) 2 := by
  have h1 : ¬ (2 * k + 1) % 2 = 0 := by omega
  have h2 : (2 * k + 1) / 2 = k := by omega
  simp only [rc, h1, h2, if_false]
theorem beh_of {es : List Edg} {f : Int → Bool} {e : Edg} (he : e ∈ es) (hf : f e.1 = true) : beh es f e.2.2 e.2.1 = true := by
  simp only [beh, List.any_eq_true]
  exact ⟨e, he, by simp [hf]⟩
theorem beh_to {es : List Edg} {f : Int → Bool} {k t : Int} (h : beh es f k t = true) : ∃ e ∈ es, e.2.2 = k ∧ f e.1 = true ∧ e.2.1 = t := by
  simp only [beh, List.any_eq_true] at h
  obtain ⟨e, he, h⟩ := h
  simp only [Bool.and_eq_true, decide_eq_true_eq] at h
  exact ⟨e, he, h.1, h.2.1, h.2.2⟩
structure St where
  u : Int → Int
  o : Int → Int
  todo : List Int
def see (o : Int → Int) (t c : Int) : Int → Int := if o t < 0 ∨ c < o t then upd o t c else o
theorem see_le {o : Int → Int} {t c x b : Int} (hc : 0 ≤ c) (h : 0 ≤ o x ∧ o x ≤ b) : 0 ≤ see o t c x ∧ see o t c x ≤ b := by
  unfold see upd
  split
  · rename_i g
    by_cases q : x = t
    · subst q
      simp only [if_true]; omega
    · simp only [q, if_false]; exact h
  · exact h
theorem see_at {o : Int → Int} {t c : Int} (hc : 0 ≤ c) : 0 ≤ see o t c t ∧ see o t c t ≤ c := by
  unfold see upd
  split
  · simp only [if_true]; omega
  · rename_i g; omega
theorem see_or {o : Int → Int} {t c x : Int} : see o t c x = o x ∨ (x = t ∧ see o t c x = c) := by
  unfold see upd
  split
  · by_cases q : x = t
    · right; simp [q]
    · left; simp [q]
  · left; rfl
def estep (s : Int) (st : St) (e : Edg) : St :=
  if e.1 = s then (if e.2.2 = 2 then ⟨st.u, see st.o e.2.1 (st.u s + 1), st.todo⟩ else if st.u e.2.1 < 0 then ⟨upd st.u e.2.1 (st.u s + 2), st.o, st.todo ++ [e.2.1]⟩ else st) else st
structure Inv (es : List Edg) (a : Int) (N i : Nat) (st : St) : Prop where
  B : ∀ x ∈ st.todo, 0 ≤ x ∧ x < (N : Int)
  C : st.todo.length ≤ cnt0 st.u N
  D : ∀ t, 0 ≤ st.u t → t ∈ st.todo
  E : ∀ x ∈ st.todo, 0 ≤ st.u x
  F : ∀ (j : Nat) x, st.todo[j]? = some x → st.u x ≤ 2 * (j : Int)
  G : ∀ t, 0 ≤ st.u t → ∃ k : Nat, st.u t = 2 * (k : Int) ∧ lv es a k t = true
  L : ∀ t, -1 ≤ st.u t
  H : ∀ (j : Nat) x, j < i → st.todo[j]? = some x → ∀ e ∈ es, e.1 = x → e.2.2 = 1 → 0 ≤ st.u e.2.1 ∧ st.u e.2.1 ≤ st.u x + 2
  H2 : ∀ (j : Nat) x, j < i → st.todo[j]? = some x → ∀ e ∈ es, e.1 = x → e.2.2 = 2 → 0 ≤ st.o e.2.1 ∧ st.o e.2.1 ≤ st.u x + 1
  H3 : ∀ (j : Nat) x, j < i → st.todo[j]? = some x → 0 ≤ st.o x ∧ st.o x ≤ st.u x
  M : ∀ (j j' : Nat) x x', j ≤ j' → st.todo[j]? = some x → st.todo[j']? = some x' → st.u x ≤ st.u x'
  Q : ∀ y, st.todo[i]? = some y → ∀ x ∈ st.todo, st.u x ≤ st.u y + 2
  O : ∀ t, 0 ≤ st.o t → st.o t + 1 ≤ 2 * (N : Int) ∧ rc es a (st.o t).toNat t = true
  S : st.u a = 0
theorem Inv.len {es : List Edg} {a : Int} {N i : Nat} {st : St} (h : Inv es a N i st) : st.todo.length ≤ N := Nat.le_trans h.C (cnt0_le _ _)
/-- while the i-th place is worked on, after some edges -/
structure Inn (es : List Edg) (a : Int) (N i : Nat) (s : Int) (pre : List Edg) (st : St) : Prop extends Inv es a N i st where
  T : st.todo[i]? = some s
  P : ∀ e ∈ pre, e.1 = s → e.2.2 = 1 → 0 ≤ st.u e.2.1 ∧ st.u e.2.1 ≤ st.u s + 2
  P2 : ∀ e ∈ pre, e.1 = s → e.2.2 = 2 → 0 ≤ st.o e.2.1 ∧ st.o e.2.1 ≤ st.u s + 1
  P3 : 0 ≤ st.o s ∧ st.o s ≤ st.u s
theorem Inn.mem {es : List Edg} {a : Int} {N i : Nat} {s : Int} {pre : List Edg} {st : St} (h : Inn es a N i s pre st) : s ∈ st.todo := List.mem_of_getElem? h.T
theorem Inn.lt {es : List Edg} {a : Int} {N i : Nat} {s : Int} {pre : List Edg} {st : St} (h : Inn es a N i s pre st) : i < st.todo.length := by
  have := h.T
  exact (List.getElem?_eq_some_iff.1 this).1
theorem Inn.bd {es : List Edg} {a : Int} {N i : Nat} {s : Int} {pre : List Edg} {st : St} (h : Inn es a N i s pre st) : 0 ≤ st.u s ∧ st.u s + 2 ≤ 2 * (N : Int) := by
  have h1 := h.F i s h.T
  have h2 := h.lt
  have h3 := h.toInv.len
  have h4 := h.E s h.mem
  omega
theorem inn_step {es : List Edg} {a : Int} {N i : Nat} {s : Int} {pre : List Edg} {st : St} (h : Inn es a N i s pre st) {e : Edg} (he : e ∈ es) (ht : 0 ≤ e.2.1 ∧ e.2.1 < (N : Int)) (hk : e.2.2 = 1 ∨ e.2.2 = 2) :
    Inn es a N i s (pre ++ [e]) (estep s st e) := by
  have hb := h.bd
  obtain ⟨ks, hks, hls⟩ := h.G s hb.1
  unfold estep
  by_cases g1 : e.1 = s
  · by_cases g2 : e.2.2 = 2
    · simp only [g1, g2, if_true]
      have hc : 0 ≤ st.u s + 1 := by omega
      exact { h with
        H2 := fun j x hj hx e' he' q1 q2 => see_le hc (h.H2 j x hj hx e' he' q1 q2)
        H3 := fun j x hj hx => see_le hc (h.H3 j x hj hx)
        O := fun t q => by
          rcases see_or (o := st.o) (t := e.2.1) (c := st.u s + 1) (x := t) with r | ⟨r1, r2⟩
          · simp only [r] at q ⊢
            exact h.O t q
          · simp only [r2]
            refine ⟨by omega, ?_⟩
            have : (st.u s + 1).toNat = 2 * ks + 1 := by omega
            rw [this, rc_odd, r1, ← g2]
            exact beh_of he (by rw [g1]; exact hls)
        P := fun e' he' q1 q2 => by
          rcases List.mem_append.1 he' with r | r
          · exact h.P e' r q1 q2
          · simp only [List.mem_singleton] at r
            subst r; omega
        P2 := fun e' he' q1 q2 => by
          rcases List.mem_append.1 he' with r | r
          · exact see_le hc (h.P2 e' r q1 q2)
          · simp only [List.mem_singleton] at r
            subst r
            exact see_at hc
        P3 := see_le hc h.P3 }
    · have g3 : e.2.2 = 1 := by omega
      by_cases g4 : st.u e.2.1 < 0
      · simp only [g1, g2, g4, if_true, if_false]
        have hn : e.2.1 ∉ st.todo := fun q => by have := h.E _ q; omega
        have ne : ∀ x ∈ st.todo, ¬ x = e.2.1 := fun x hx q => hn (q ▸ hx)
        have un : ∀ x ∈ st.todo, upd st.u e.2.1 (st.u s + 2) x = st.u x := fun x hx => by simp only [upd, ne x hx, if_false]
        have us := un s h.mem
        have ut : upd st.u e.2.1 (st.u s + 2) e.2.1 = st.u s + 2 := by simp [upd]
        have hL := h.lt
        -- a place of the longer row
        have pl : ∀ (j : Nat) x, (st.todo ++ [e.2.1])[j]? = some x → (j < st.todo.length ∧ st.todo[j]? = some x) ∨ (j = st.todo.length ∧ x = e.2.1) := fun j x hx => by
          by_cases q : j < st.todo.length
          · left
            rw [List.getElem?_append_left q] at hx
            exact ⟨q, hx⟩
          · right
            rw [List.getElem?_append_right (by omega)] at hx
            have := (List.getElem?_eq_some_iff.1 hx).1
            simp only [List.length_singleton] at this
            have h0 : j - st.todo.length = 0 := by omega
            rw [h0] at hx
            simp only [List.getElem?_cons_zero, Option.some.injEq] at hx
            exact ⟨by omega, hx.symm⟩
        have uge : ∀ x, 0 ≤ st.u x → 0 ≤ upd st.u e.2.1 (st.u s + 2) x ∧ upd st.u e.2.1 (st.u s + 2) x = st.u x := fun x q => by
          have := un x (h.D x q)
          omega
        exact {
          B := fun x hx => by
            rcases List.mem_append.1 hx with r | r
            · exact h.B x r
            · simp only [List.mem_singleton] at r
              subst r; exact ht
          C := by
            simp only [List.length_append, List.length_singleton, cnt0_upd st.u e.2.1 (st.u s + 2) ht.1 g4 (by omega) N ht.2]
            have := h.C
            omega
          D := fun t q => by
            by_cases r : t = e.2.1
            · subst r; simp
            · simp only [upd, r, if_false] at q
              exact List.mem_append_left _ (h.D t q)
          E := fun x hx => by
            rcases List.mem_append.1 hx with r | r
            · simp only [un x r]; exact h.E x r
            · simp only [List.mem_singleton] at r
              subst r
              simp only [ut]; omega
          F := fun j x hx => by
            rcases pl j x hx with ⟨q1, q2⟩ | ⟨q1, q2⟩
            · simp only [un x (List.mem_of_getElem? q2)]; exact h.F j x q2
            · subst q2
              have := h.F i s h.T
              simp only [ut]; omega
          G := fun t q => by
            by_cases r : t = e.2.1
            · subst r
              refine ⟨ks + 1, by simp only [ut]; omega, ?_⟩
              simp only [lv]
              rw [← g3]
              exact beh_of he (by rw [g1]; exact hls)
            · simp only [upd, r, if_false] at q ⊢
              exact h.G t q
          L := fun t => by
            by_cases r : t = e.2.1
            · subst r; simp only [ut]; omega
            · simp only [upd, r, if_false]; exact h.L t
          H := fun j x hj hx e' he' q1 q2 => by
            rcases pl j x hx with ⟨r1, r2⟩ | ⟨r1, r2⟩
            · have k := h.H j x hj r2 e' he' q1 q2
              have k2 := (uge _ k.1).2
              simp only [k2, un x (List.mem_of_getElem? r2)]
              exact k
            · omega
          H2 := fun j x hj hx e' he' q1 q2 => by
            rcases pl j x hx with ⟨r1, r2⟩ | ⟨r1, r2⟩
            · simp only [un x (List.mem_of_getElem? r2)]
              exact h.H2 j x hj r2 e' he' q1 q2
            · omega
          H3 := fun j x hj hx => by
            rcases pl j x hx with ⟨r1, r2⟩ | ⟨r1, r2⟩
            · simp only [un x (List.mem_of_getElem? r2)]
              exact h.H3 j x hj r2
            · omega
          M := fun j j' x x' hj hx hx' => by
            rcases pl j x hx with ⟨r1, r2⟩ | ⟨r1, r2⟩
            · have m := List.mem_of_getElem? r2
              rcases pl j' x' hx' with ⟨r3, r4⟩ | ⟨r3, r4⟩
              · simp only [un x m, un x' (List.mem_of_getElem? r4)]
                exact h.M j j' x x' hj r2 r4
              · subst r4
                simp only [un x m, ut]
                exact h.Q s h.T x m
            · rcases pl j' x' hx' with ⟨r3, r4⟩ | ⟨r3, r4⟩
              · omega
              · subst r2; subst r4; exact Int.le_refl _
          Q := fun y hy x hx => by
            rcases pl i y hy with ⟨r1, r2⟩ | ⟨r1, r2⟩
            · have m := List.mem_of_getElem? r2
              have : y = s := by have := h.T; rw [r2] at this; exact Option.some.inj this
              subst this
              rcases List.mem_append.1 hx with r | r
              · simp only [un x r, us]; exact h.Q _ r2 x r
              · simp only [List.mem_singleton] at r
                subst r
                simp only [ut, us]; omega
            · omega
          O := h.O
          S := by
            have : 0 ≤ st.u a := by rw [h.S]; exact Int.le_refl _
            simp only [(uge a this).2]; exact h.S
          T := by
            rw [List.getElem?_append_left hL]; exact h.T
          P := fun e' he' q1 q2 => by
            rcases List.mem_append.1 he' with r | r
            · have k := h.P e' r q1 q2
              simp only [(uge _ k.1).2, us]
              exact k
            · simp only [List.mem_singleton] at r
              subst r
              simp only [ut, us]; omega
          P2 := fun e' he' q1 q2 => by
            rcases List.mem_append.1 he' with r | r
            · simp only [us]; exact h.P2 e' r q1 q2
            · simp only [List.mem_singleton] at r
              subst r; omega
          P3 := by simp only [us]; exact h.P3 }
      · simp only [g1, g2, g4, if_true, if_false]
        exact { h with
          P := fun e' he' q1 q2 => by
            rcases List.mem_append.1 he' with r | r
            · exact h.P e' r q1 q2
            · simp only [List.mem_singleton] at r
              subst r
              exact ⟨by omega, h.Q s h.T _ (h.D _ (by omega))⟩
          P2 := fun e' he' q1 q2 => by
            rcases List.mem_append.1 he' with r | r
            · exact h.P2 e' r q1 q2
            · simp only [List.mem_singleton] at r
              subst r; omega }
  · simp only [g1, if_false]
    exact { h with
      P := fun e' he' q1 q2 => by
        rcases List.mem_append.1 he' with r | r
        · exact h.P e' r q1 q2
        · simp only [List.mem_singleton] at r
          subst r; exact absurd q1 g1
      P2 := fun e' he' q1 q2 => by
        rcases List.mem_append.1 he' with r | r
        · exact h.P2 e' r q1 q2
        · simp only [List.mem_singleton] at r
          subst r; exact absurd q1 g1 }
theorem inn_first {es : List Edg} {a : Int} {N i : Nat} {s : Int} {st : St} (h : Inv es a N i st) (hs : st.todo[i]? = some s) : Inn es a N i s [] ⟨st.u, see st.o s (st.u s), st.todo⟩ := by
  have m := List.mem_of_getElem? hs
  have hc := h.E s m
  obtain ⟨ks, hks, hls⟩ := h.G s hc
  have hl := (List.getElem?_eq_some_iff.1 hs).1
  have hN := h.len
  have hF := h.F i s hs
  exact { h with
    H2 := fun j x hj hx e' he' q1 q2 => see_le hc (h.H2 j x hj hx e' he' q1 q2)
    H3 := fun j x hj hx => see_le hc (h.H3 j x hj hx)
    O := fun t q => by
      rcases see_or (o := st.o) (t := s) (c := st.u s) (x := t) with r | ⟨r1, r2⟩
      · simp only [r] at q ⊢
        exact h.O t q
      · simp only [r2]
        refine ⟨by omega, ?_⟩
        have : (st.u s).toNat = 2 * ks := by omega
        rw [this, rc_even, r1]
        exact hls
    T := hs
    P := fun e' he' => by cases he'
    P2 := fun e' he' => by cases he'
    P3 := see_at hc }
theorem inn_last {es : List Edg} {a : Int} {N i : Nat} {s : Int} {st : St} (h : Inn es a N i s es st) : Inv es a N (i + 1) st := by
  have eq : ∀ x, st.todo[i]? = some x → x = s := fun x hx => by have := h.T; rw [hx] at this; exact Option.some.inj this
  exact { h.toInv with
    H := fun j x hj hx e' he' q1 q2 => by
      by_cases r : j < i
      · exact h.H j x r hx e' he' q1 q2
      · obtain rfl : j = i := by omega
        obtain rfl := eq x hx
        exact h.P e' he' q1 q2
    H2 := fun j x hj hx e' he' q1 q2 => by
      by_cases r : j < i
      · exact h.H2 j x r hx e' he' q1 q2
      · obtain rfl : j = i := by omega
        obtain rfl := eq x hx
        exact h.P2 e' he' q1 q2
    H3 := fun j x hj hx => by
      by_cases r : j < i
      · exact h.H3 j x r hx
      · obtain rfl : j = i := by omega
        obtain rfl := eq x hx
        exact h.P3
    Q := fun y hy x hx => by
      have := h.M i (i + 1) s y (by omega) h.T hy
      have := h.Q s h.T x hx
      omega }
theorem inv_first (es : List Edg) {a : Int} {N : Nat} (h0 : 0 ≤ a) (h1 : a < (N : Int)) : Inv es a N 0 ⟨upd (fun _ => -1) a 0, fun _ => -1, [a]⟩ := by
  have ua : ∀ t, 0 ≤ upd (fun _ => -1) a 0 t → t = a := fun t q => by
    unfold upd at q
    by_cases r : t = a
    · exact r
    · simp only [r, if_false] at q; omega
  have uz : upd (fun _ => -1) a 0 a = 0 := by simp [upd]
  exact {
    B := fun x hx => by simp only [List.mem_singleton] at hx; subst hx; exact ⟨h0, h1⟩
    C := by
      have := cnt0_upd (fun _ => -1) a 0 h0 (by omega) (by omega) N h1
      simp only [List.length_singleton, this]; omega
    D := fun t q => by simp [ua t q]
    E := fun x hx => by simp only [List.mem_singleton] at hx; subst hx; simp [uz]
    F := fun j x hx => by
      have := List.mem_of_getElem? hx
      simp only [List.mem_singleton] at this
      subst this
      simp only [uz]; omega
    G := fun t q => by obtain rfl := ua t q; exact ⟨0, by simp [uz], by simp [lv]⟩
    L := fun t => by
      show -1 ≤ upd (fun _ => -1) a 0 t
      unfold upd
      split
      · omega
      · exact Int.le_refl _
    H := fun j x hj => by omega
    H2 := fun j x hj => by omega
    H3 := fun j x hj => by omega
    M := fun j j' x x' _ hx hx' => by
      have h1 := List.mem_of_getElem? hx
      have h2 := List.mem_of_getElem? hx'
      simp only [List.mem_singleton] at h1 h2
      subst h1; subst h2; exact Int.le_refl _
    Q := fun y hy x hx => by
      have h1 := List.mem_of_getElem? hy
      simp only [List.mem_singleton] at h1 hx
      subst h1; subst hx; omega
    O := fun t q => by simp only at q; omega
    S := uz }
/-- what the search has found: the least number of steps -/
structure Far (es : List Edg) (a : Int) (N : Nat) (o : Int → Int) : Prop where
  up : ∀ t, 0 ≤ o t → o t + 1 ≤ 2 * (N : Int) ∧ rc es a (o t).toNat t = true
  low : ∀ (c : Nat) t, rc es a c t = true → 0 ≤ o t ∧ o t ≤ (c : Int)
theorem inv_far {es : List Edg} {a : Int} {N i : Nat} {st : St} (h : Inv es a N i st) (hi : st.todo.length ≤ i) : Far es a N st.o := by
  have at' : ∀ x ∈ st.todo, ∃ j, j < i ∧ st.todo[j]? = some x := fun x hx => by
    obtain ⟨j, hj⟩ := List.mem_iff_getElem?.1 hx
    exact ⟨j, by have := (List.getElem?_eq_some_iff.1 hj).1; omega, hj⟩
  have hu : ∀ (k : Nat) t, lv es a k t = true → 0 ≤ st.u t ∧ st.u t ≤ 2 * (k : Int) := by
    intro k
    induction k with
    | zero =>
      intro t q
      simp only [lv, decide_eq_true_eq] at q
      subst q
      rw [h.S]; omega
    | succ k ih =>
      intro t q
      simp only [lv] at q
      obtain ⟨e, he, q1, q2, rfl⟩ := beh_to q
      obtain ⟨r1, r2⟩ := ih _ q2
      obtain ⟨j, hj, hx⟩ := at' _ (h.D _ r1)
      have := h.H j _ hj hx e he rfl q1
      omega
  refine ⟨h.O, fun c t q => ?_⟩
  by_cases g : c % 2 = 0
  · obtain ⟨k, rfl⟩ : ∃ k, c = 2 * k := ⟨c / 2, by omega⟩
    rw [rc_even] at q
    obtain ⟨r1, r2⟩ := hu k t q
    obtain ⟨j, hj, hx⟩ := at' _ (h.D _ r1)
    have := h.H3 j t hj hx
    omega
  · obtain ⟨k, rfl⟩ : ∃ k, c = 2 * k + 1 := ⟨c / 2, by omega⟩
    rw [rc_odd] at q
    obtain ⟨e, he, q1, q2, rfl⟩ := beh_to q
    obtain ⟨r1, r2⟩ := hu k _ q2
    obtain ⟨j, hj, hx⟩ := at' _ (h.D _ r1)
    have := h.H2 j _ hj hx e he rfl q1
    omega
/-! The declarations that are seen -/
abbrev Spt := Int × ByteArray
def idx {α : Type} (p : α → Bool) : Nat → List α → List Int
  | _, [] => []
  | i, d :: r => if p d then (i : Int) :: idx p (i + 1) r else idx p (i + 1) r
theorem idx_app {α : Type} (p : α → Bool) : ∀ (i : Nat) (xs ys : List α), idx p i (xs ++ ys) = idx p i xs ++ idx p (i + xs.length) ys
  | i, [], ys => by simp [idx]
  | i, x :: xs, ys => by
    have e : i + (xs.length + 1) = i + 1 + xs.length := by omega
    simp only [List.cons_append, idx, idx_app p (i + 1) xs ys, List.length_cons, e]
    split <;> rfl
theorem idx_none {α : Type} (p : α → Bool) : ∀ (i : Nat) (xs : List α), (∀ x ∈ xs, p x = false) → idx p i xs = []
  | i, [], _ => rfl
  | i, x :: xs, h => by simp only [idx, h x (by simp), Bool.false_eq_true, if_false, idx_none p (i + 1) xs fun y hy => h y (by simp [hy])]
theorem idx_congr {α : Type} {p q : α → Bool} : ∀ (i : Nat) (xs : List α), (∀ x ∈ xs, p x = q x) → idx p i xs = idx q i xs
  | i, [], _ => rfl
  | i, x :: xs, h => by simp only [idx, h x (by simp), idx_congr (i + 1) xs fun y hy => h y (by simp [hy])]
theorem idx_len {α : Type} (p : α → Bool) : ∀ (i : Nat) (xs : List α), (idx p i xs).length ≤ xs.length
  | i, [] => by simp [idx]
  | i, x :: xs => by have := idx_len p (i + 1) xs; simp only [idx]; split <;> simp <;> omega
theorem idx_ne {α : Type} (p : α → Bool) : ∀ (i : Nat) (xs : List α) (x : α), x ∈ xs → p x = true → idx p i xs ≠ []
  | i, [], x, h, _ => by cases h
  | i, y :: xs, x, h, hp => by
    simp only [idx]
    by_cases g : p y = true
    · simp [g]
    · rcases List.mem_cons.1 h with rfl | h
      · exact absurd hp g
      · simp only [g, Bool.false_eq_true, if_false]
        exact idx_ne p (i + 1) xs x h hp
/-- what is seen in just c steps -/
def seen (es : List Edg) (a : Int) (nm : ByteArray) (ds : List Spt) (c : Nat) : List Int := idx (fun d => rc es a c d.1 && decide (d.2 = nm)) 0 ds
structure Best (o : Int → Int) (nm : ByteArray) (pre : List Spt) (b : Int) (out : List Int) : Prop where
  lo : -1 ≤ b
  no : b = -1 → (∀ d ∈ pre, d.2 = nm → o d.1 < 0) ∧ out = []
  is : 0 ≤ b → (∃ d ∈ pre, d.2 = nm ∧ o d.1 = b) ∧ (∀ d ∈ pre, d.2 = nm → 0 ≤ o d.1 → b ≤ o d.1) ∧ out = idx (fun d => decide (o d.1 = b) && decide (d.2 = nm)) 0 pre
def bstep (o : Int → Int) (nm : ByteArray) (i : Nat) (b : Int) (out : List Int) (d : Spt) : Int × List Int :=
  if d.2 = nm ∧ 0 ≤ o d.1 ∧ ¬ (0 ≤ b ∧ b < o d.1) then (if b < 0 ∨ o d.1 < b then (o d.1, [(i : Int)]) else (b, out ++ [(i : Int)])) else (b, out)
theorem best_step {o : Int → Int} {nm : ByteArray} {pre : List Spt} {b : Int} {out : List Int} (h : Best o nm pre b out) (d : Spt) : Best o nm (pre ++ [d]) (bstep o nm pre.length b out d).1 (bstep o nm pre.length b out d).2 := by
  have hlo := h.lo
  have hin : ∀ x, x ∈ pre ++ [d] → x ∈ pre ∨ x = d := fun x hx => by simpa using hx
  have ia : ∀ p : Spt → Bool, idx p 0 (pre ++ [d]) = idx p 0 pre ++ (if p d then [(pre.length : Int)] else []) := fun p => by
    rw [idx_app]
    simp only [Nat.zero_add, idx]
  unfold bstep
  by_cases g1 : d.2 = nm ∧ 0 ≤ o d.1 ∧ ¬ (0 ≤ b ∧ b < o d.1)
  · obtain ⟨g2, g3, g4⟩ := g1
    by_cases g5 : b < 0 ∨ o d.1 < b
    · rw [if_pos ⟨g2, g3, g4⟩, if_pos g5]
      have all : ∀ x ∈ pre, x.2 = nm → 0 ≤ o x.1 → o d.1 < o x.1 := fun x hx q1 q2 => by
        by_cases r : b = -1
        · have := (h.no r).1 x hx q1; omega
        · have := (h.is (by omega)).2.1 x hx q1 q2; omega
      refine ⟨by simp only; omega, fun r => by simp only at r; omega, fun _ => ⟨⟨d, by simp, g2, rfl⟩, fun x hx q1 q2 => ?_, ?_⟩⟩
      · rcases hin x hx with r | rfl
        · have := all x r q1 q2
          simp only; omega
        · exact Int.le_refl _
      · simp only [ia]
        rw [idx_none _ 0 pre (fun x hx => by
          by_cases r : x.2 = nm
          · by_cases q : o x.1 = o d.1
            · have := all x hx r (by omega); omega
            · simp [q]
          · simp [r])]
        simp [g2]
    · rw [if_pos ⟨g2, g3, g4⟩, if_neg g5]
      have hb : o d.1 = b := by omega
      obtain ⟨k1, k2, k3⟩ := h.is (by omega)
      refine ⟨hlo, fun r => by simp only at r; omega, fun _ => ⟨?_, fun x hx q1 q2 => ?_, ?_⟩⟩
      · obtain ⟨x, hx, q⟩ := k1
        exact ⟨x, by simp [hx], q⟩
      · rcases hin x hx with r | rfl
        · exact k2 x r q1 q2
        · exact Int.le_of_eq hb.symm
      · simp only [ia, ← k3, hb, g2, decide_true, Bool.and_self, if_true]
  · rw [if_neg g1]
    refine ⟨hlo, fun r => ?_, fun r => ?_⟩
    · simp only at r
      obtain ⟨k1, k2⟩ := h.no r
      refine ⟨fun x hx q => ?_, k2⟩
      rcases hin x hx with r' | rfl
      · exact k1 x r' q
      · by_cases z : 0 ≤ o x.1
        · exact absurd ⟨q, z, by omega⟩ g1
        · omega
    · simp only at r
      obtain ⟨⟨x0, hx0, q0⟩, k2, k3⟩ := h.is r
      refine ⟨⟨x0, by simp [hx0], q0⟩, fun x hx q1 q2 => ?_, ?_⟩
      · rcases hin x hx with r' | rfl
        · exact k2 x r' q1 q2
        · by_cases z : b < o x.1
          · simp only; omega
          · exact absurd ⟨q1, q2, by omega⟩ g1
      · have : (decide (o d.1 = b) && decide (d.2 = nm)) = false := by
          by_cases z1 : d.2 = nm
          · by_cases z2 : o d.1 = b
            · exact absurd ⟨z1, by omega, by omega⟩ g1
            · simp [z2]
          · simp [z1]
        simp only [ia, this, Bool.false_eq_true, if_false, List.append_nil]
        exact k3
/-- either nothing is ever seen, or the first that is seen is what the search has found -/
theorem best_seen {es : List Edg} {a : Int} {N : Nat} {o : Int → Int} (F : Far es a N o) {nm : ByteArray} {ds : List Spt} {b : Int} {out : List Int} (h : Best o nm ds b out) :
    ((∀ c, seen es a nm ds c = []) ∧ out = []) ∨ ∃ c : Nat, c + 1 ≤ 2 * N ∧ (∀ c', c' < c → seen es a nm ds c' = []) ∧ seen es a nm ds c = out ∧ out ≠ [] := by
  have hlo := h.lo
  by_cases g : b = -1
  · left
    obtain ⟨k1, k2⟩ := h.no g
    refine ⟨fun c => idx_none _ _ _ fun d hd => ?_, k2⟩
    by_cases r : d.2 = nm
    · have := k1 d hd r
      by_cases q : rc es a c d.1 = true
      · have := F.low c d.1 q; omega
      · simp [q]
    · simp [r]
  · right
    obtain ⟨⟨d0, hd0, q1, q2⟩, k2, k3⟩ := h.is (by omega)
    obtain ⟨u1, u2⟩ := F.up d0.1 (by omega)
    refine ⟨b.toNat, by omega, fun c' hc => idx_none _ _ _ fun d hd => ?_, ?_, ?_⟩
    · by_cases r : d.2 = nm
      · by_cases q : rc es a c' d.1 = true
        · have := F.low c' d.1 q
          have := k2 d hd r (by omega)
          omega
        · simp [q]
      · simp [r]
    · rw [k3]
      refine idx_congr _ _ fun d hd => ?_
      by_cases r : d.2 = nm
      · have : rc es a b.toNat d.1 = decide (o d.1 = b) := by
          by_cases z : o d.1 = b
          · have := (F.up d.1 (by omega)).2
            rw [z] at this
            simp [z, this]
          · simp only [z, decide_false]
            cases y : rc es a b.toNat d.1
            · rfl
            · have := F.low _ _ y
              have := k2 d hd r (by omega)
              omega
        simp [this]
      · simp [r]
    · rw [k3]
      exact idx_ne _ _ _ d0 hd0 (by simp [q1, q2])
end Go.Proofs.Ytfniojpjlachoaa
