/- The law GrammarOK answers true at all plain arguments; no condition. -/
import Derived.Test.YtmbnloccmnclnaaGk
namespace Go.Proofs.Ytmbnloccmnclnaa
open Go.VK AVal
def tokD : TokenD := (ByteArray.empty, ByteArray.empty, false)
def levD : LevelD := (0, [])
def tokQ (t : TokenD) : Bool := plQ t.1 && rxsQ t.2.1
def levQ (l : LevelD) : Bool := inQ 1 3 l.1 && (!decide (l.2.length = 0) && allN (fun i => litQ (l.2.getD i ByteArray.empty)) l.2.length)
def lblQ (s : ByteArray) : Bool := decide (s = ByteArray.empty) || plQ s
def galtsQ (it : Int → Int → Option Int) : List GAltD → Int → Option Int
  | [], n => some n
  | a :: r, n => bif lblQ a.2 then (match itemsQ it a.1 n with | some n' => galtsQ it r n' | none => none) else none
def rulesQ (it : Int → Int → Option Int) : List GRuleD → Int → Option Int
  | [], n => some n
  | a :: r, n => bif plQ a.1 && !decide (a.2.length = 0) then (match galtsQ it a.2 n with | some n' => rulesQ it r n' | none => none) else none
def gramQ (nm : ByteArray) (tk : List TokenD) (lv : List LevelD) (rl : List GRuleD) (ps : List PartD) : Bool :=
  plQ nm && (decide (tk.length ≤ 20) && (decide (lv.length ≤ 8) && (decide (rl.length ≤ 30) && (decide (ps.length ≤ 200) &&
    (allN (fun i => tokQ (tk.getD i tokD)) tk.length && (allN (fun i => levQ (lv.getD i levD)) lv.length && (match rulesQ (itQ ps ps.length ps.length) rl 0 with | some n => decide (n = (ps.length : Int)) | none => false)))))))
/-! Tokens and levels -/
theorem gi_tok (tk : List TokenD) (hl : tk.length ≤ 20) (nm : ByteArray) (A B C D : List AVal) : Li_GrammarOK_0 (tk.map avToken) (tk.length : Int) 0 nm A B C D = some (bif allN (fun i => tokQ (tk.getD i tokD)) tk.length then .inr (nm, A, B, C, D) else .inl false) := by
  have e := loop_all (fun i => Li_GrammarOK_0 (tk.map avToken) (tk.length : Int) (i : Int) nm A B C D) tk.length (fun i => tokQ (tk.getD i tokD)) (nm, A, B, C, D) (by
      refine li_GrammarOK_0 _ _ _ _ _ _ _ _ ?_
      simp only [lt_self, cond_false]) (fun i hi y hy => by
      refine li_GrammarOK_0 _ _ _ _ _ _ _ _ ?_
      rw [← hy]
      simp only [List.length_map, lt_true hi, d0_true, Bool.and_self, cond_true, Int.toNat_natCast, getD_map' avToken tokD hi, sh_Token, c0_Token, c1_Token, pl_impl, rxs_impl, Option.bind_some, wrap_i (show i < 9000000000000000000 by omega), tokQ]
      cases plQ (tk.getD i tokD).1 with
      | false => rfl
      | true => cases rxsQ (tk.getD i tokD).2.1 <;> rfl)
  simpa using e
theorem gs_tok (tk : List TokenD) (hl : tk.length ≤ 20) (nm : ByteArray) (B C D : List AVal) : Ls_GrammarOK_0 0 nm (tk.map avToken) B C D = some (bif allN (fun i => tokQ (tk.getD i tokD)) tk.length then .inr (nm, tk.map avToken, B, C, D) else .inl false) := by
  have e := loop_all (fun i => Ls_GrammarOK_0 (i : Int) nm (tk.map avToken) B C D) tk.length (fun i => tokQ (tk.getD i tokD)) (nm, tk.map avToken, B, C, D) (by
      refine ls_GrammarOK_0 _ _ _ _ _ _ ?_
      simp only [List.length_map, lt_self, cond_false]) (fun i hi y hy => by
      refine ls_GrammarOK_0 _ _ _ _ _ _ ?_
      rw [← hy]
      simp only [List.length_map, lt_true hi, d0_true, Bool.and_self, cond_true, Int.toNat_natCast, getD_map' avToken tokD hi, p0_Token, p1_Token, c0_Token, c1_Token, pl_spec, rxs_spec, Option.bind_some, wrap_i (show i < 9000000000000000000 by omega), tokQ]
      cases plQ (tk.getD i tokD).1 with
      | false => rfl
      | true => cases rxsQ (tk.getD i tokD).2.1 <;> rfl)
  simpa using e
theorem gi_lits (l : List ByteArray) (hl : l.length ≤ 1048576) (A : List AVal) (n i : Int) (nm : ByteArray) (B C D E : List AVal) : Li_GrammarOK_2 A n i (l.map sv) (l.length : Int) 0 nm B C D E = some (bif allN (fun j => litQ (l.getD j ByteArray.empty)) l.length then .inr (A, n, i, nm, B, C, D, E) else .inl false) := by
  have e := loop_all (fun j => Li_GrammarOK_2 A n i (l.map sv) (l.length : Int) (j : Int) nm B C D E) l.length (fun j => litQ (l.getD j ByteArray.empty)) (A, n, i, nm, B, C, D, E) (by
      refine li_GrammarOK_2 _ _ _ _ _ _ _ _ _ _ _ ?_
      simp only [lt_self, cond_false]) (fun j hj y hy => by
      refine li_GrammarOK_2 _ _ _ _ _ _ _ _ _ _ _ ?_
      rw [← hy]
      have h1 : CT.shape .str (sv (l.getD j ByteArray.empty)) = true := rfl
      have h2 : (sv (l.getD j ByteArray.empty)).toStr = l.getD j ByteArray.empty := rfl
      simp only [List.length_map, lt_true hj, d0_true, Bool.and_self, cond_true, Int.toNat_natCast, getD_map' sv ByteArray.empty hj, h1, h2, lit_impl, Option.bind_some, wrap_i (show j < 9000000000000000000 by omega)]
      cases litQ (l.getD j ByteArray.empty) <;> rfl)
  simpa using e
theorem gs_lits (l : List ByteArray) (hl : l.length ≤ 1048576) (i a : Int) (nm : ByteArray) (A B C D : List AVal) : Ls_GrammarOK_2 i 0 nm A B C D a (l.map sv) = some (bif allN (fun j => litQ (l.getD j ByteArray.empty)) l.length then .inr (i, nm, A, B, C, D) else .inl false) := by
  have e := loop_all (fun j => Ls_GrammarOK_2 i (j : Int) nm A B C D a (l.map sv)) l.length (fun j => litQ (l.getD j ByteArray.empty)) (i, nm, A, B, C, D) (by
      refine ls_GrammarOK_2 _ _ _ _ _ _ _ _ _ ?_
      simp only [List.length_map, lt_self, cond_false]) (fun j hj y hy => by
      refine ls_GrammarOK_2 _ _ _ _ _ _ _ _ _ ?_
      rw [← hy]
      have h1 : CT.shape .str (sv (l.getD j ByteArray.empty)) = true := rfl
      have h2 : (sv (l.getD j ByteArray.empty)).toStr = l.getD j ByteArray.empty := rfl
      simp only [List.length_map, lt_true hj, d0_true, Bool.and_self, cond_true, Int.toNat_natCast, getD_map' sv ByteArray.empty hj, h1, h2, lit_spec, Option.bind_some, wrap_i (show j < 9000000000000000000 by omega)]
      cases litQ (l.getD j ByteArray.empty) <;> rfl)
  simpa using e
theorem gi_lev (lv : List LevelD) (hl : lv.length ≤ 8) (hs : ∀ l ∈ lv, l.2.length ≤ 1048576) (nm : ByteArray) (A B C D : List AVal) : Li_GrammarOK_1 (lv.map avLevel) (lv.length : Int) 0 nm A B C D = some (bif allN (fun i => levQ (lv.getD i levD)) lv.length then .inr (nm, A, B, C, D) else .inl false) := by
  have e := loop_all (fun i => Li_GrammarOK_1 (lv.map avLevel) (lv.length : Int) (i : Int) nm A B C D) lv.length (fun i => levQ (lv.getD i levD)) (nm, A, B, C, D) (by
      refine li_GrammarOK_1 _ _ _ _ _ _ _ _ ?_
      simp only [lt_self, cond_false]) (fun i hi y hy => by
      refine li_GrammarOK_1 _ _ _ _ _ _ _ _ ?_
      rw [← hy]
      simp only [List.length_map, lt_true hi, d0_true, Bool.and_self, cond_true, Int.toNat_natCast, getD_map' avLevel levD hi, sh_Level, c0_Level, c1_Level, gi_lits _ (hs _ (getD_mem levD hi)), levQ, inQ_nn]
      cases decide ((lv.getD i levD).1 < 1) with
      | true => rfl
      | false => cases decide (3 < (lv.getD i levD).1) with
        | true => rfl
        | false =>
          by_cases g : (lv.getD i levD).2.length = 0
          · have : ((lv.getD i levD).2.length : Int) < 1 := by omega
            rw [decide_eq_true this, decide_eq_true g]; rfl
          · have : ¬ ((lv.getD i levD).2.length : Int) < 1 := by omega
            simp only [g, this, decide_false, Bool.not_false, cond_false, Bool.and_self, Bool.true_and]
            cases allN (fun j => litQ ((lv.getD i levD).2.getD j ByteArray.empty)) (lv.getD i levD).2.length with
            | false => rfl
            | true => simp only [cond_true, Option.bind_some, Sum.elim_inr, wrap_i (show i < 9000000000000000000 by omega)])
  simpa using e
theorem gs_lev (lv : List LevelD) (hl : lv.length ≤ 8) (hs : ∀ l ∈ lv, l.2.length ≤ 1048576) (nm : ByteArray) (A C D : List AVal) : Ls_GrammarOK_1 0 nm A (lv.map avLevel) C D = some (bif allN (fun i => levQ (lv.getD i levD)) lv.length then .inr (nm, A, lv.map avLevel, C, D) else .inl false) := by
  have e := loop_all (fun i => Ls_GrammarOK_1 (i : Int) nm A (lv.map avLevel) C D) lv.length (fun i => levQ (lv.getD i levD)) (nm, A, lv.map avLevel, C, D) (by
      refine ls_GrammarOK_1 _ _ _ _ _ _ ?_
      simp only [List.length_map, lt_self, cond_false]) (fun i hi y hy => by
      refine ls_GrammarOK_1 _ _ _ _ _ _ ?_
      rw [← hy]
      simp only [List.length_map, lt_true hi, d0_true, Bool.and_self, cond_true, Int.toNat_natCast, getD_map' avLevel levD hi, sh_Level, c0_Level, c1_Level, s61', Option.bind_some, gs_lits _ (hs _ (getD_mem levD hi)), levQ]
      cases inQ 1 3 (lv.getD i levD).1 with
      | false => rfl
      | true =>
          by_cases g : (lv.getD i levD).2.length = 0
          · have : ((lv.getD i levD).2.length : Int) = 0 := by omega
            rw [decide_eq_true this, decide_eq_true g]; rfl
          · have : ¬ ((lv.getD i levD).2.length : Int) = 0 := by omega
            simp only [g, this, decide_false, Bool.not_true, Bool.not_false, cond_false, Bool.and_self, Bool.true_and]
            cases allN (fun j => litQ ((lv.getD i levD).2.getD j ByteArray.empty)) (lv.getD i levD).2.length with
            | false => rfl
            | true => simp only [cond_true, Option.bind_some, Sum.elim_inr, wrap_i (show i < 9000000000000000000 by omega)])
  simpa using e
/-! Rules in the program -/
section
variable (ps : List PartD) (hp : partsOK ps) (nm : ByteArray) (tk lv rl : List AVal)
abbrev itG (ps : List PartD) := itQ ps ps.length ps.length
theorem galtsQ_le {ps : List PartD} : ∀ (l : List GAltD) (n n' : Int), galtsQ (itG ps) l n = some n' → n ≤ n' ∧ n' ≤ max n ps.length
  | [], n, n', e => by simp only [galtsQ, Option.some.injEq] at e; omega
  | a :: r, n, n', e => by
    simp only [galtsQ, Bool.cond_eq_ite] at e
    split at e
    · split at e
      · rename_i n1 h1
        have b1 := itemsQ_mono (fun n p n' e => (itQ_some _ _ n p n' e).1) _ _ _ h1
        have b2 := itemsQ_le _ _ _ h1
        have := galtsQ_le r n1 n' e
        omega
      · cases e
    · cases e
include hp in
theorem gi_alts (A : List AVal) (len i : Int) : ∀ (suf pre : List GAltD) (n : Int), (pre ++ suf).length ≤ 1048576 → (∀ a ∈ suf, a.1.length ≤ 1048576) → 0 ≤ n → n ≤ ps.length →
    Li_GrammarOK_4 A len i ((pre ++ suf).map avGAlt) ((pre ++ suf).length : Int) (pre.length : Int) nm tk lv rl (ps.map avPart) n = some (match galtsQ (itG ps) suf n with | some n' => .inr (A, len, i, nm, tk, lv, rl, ps.map avPart, n') | none => .inl false)
  | [], pre, n, _, _, h0, h1 => by
    refine li_GrammarOK_4 _ _ _ _ _ _ _ _ _ _ _ _ ?_
    simp [galtsQ]
  | a :: suf, pre, n, hl, ha, h0, h1 => by
    have hm := mid_len pre suf a
    have hi : pre.length < 9000000000000000000 := by omega
    have ee : ByteArray.mk #[] = ByteArray.empty := rfl
    obtain ⟨r, hr, hok⟩ := inO ps hp nm tk lv rl ps.length ps.length (Int.le_refl _) (Int.le_refl _) [a.1] n (by simp) (by simpa using ha a (by simp)) h0 h1
    simp only [List.map_cons, List.map_nil, avIntS] at hr
    simp only [altsQ] at hok
    refine li_GrammarOK_4 _ _ _ _ _ _ _ _ _ _ _ _ ?_
    simp only [List.length_map, dlt_true hm, d0_true, Bool.and_self, cond_true, Int.toNat_natCast, map_mid, sh_GAlt, c0_GAlt, c1_GAlt, ee, pl_impl, Option.bind_some, hr, galtsQ, lblQ]
    cases q : itemsQ (itQ ps ps.length ps.length) a.1 n with
    | none =>
      rw [q] at hok
      simp only [okR] at hok
      simp only [hok, Bool.not_false, cond_true, itG, q]
      by_cases g : a.2 = ByteArray.empty
      · simp only [g, decide_true, Bool.not_true, cond_false, Bool.true_or, cond_true]
      · simp only [g, decide_false, Bool.not_false, cond_true, Bool.false_or]
        cases plQ a.2 <;> rfl
    | some n1 =>
      rw [q] at hok
      simp only [okR] at hok
      subst hok
      have b1 := itemsQ_mono (fun n p n' e => (itQ_some _ _ n p n' e).1) _ _ _ q
      have b2 := itemsQ_le _ _ _ q
      have ih := gi_alts A len i suf (pre ++ [a]) n1 (by simpa using hl) (fun x hx => ha x (by simp [hx])) (by omega) (by omega)
      simp only [List.append_assoc, List.cons_append, List.nil_append, show (pre ++ [a]).length = pre.length + 1 by simp] at ih
      simp only [Bool.not_true, cond_false, wrap_i hi, ih, itG, q]
      by_cases g : a.2 = ByteArray.empty
      · simp only [g, decide_true, Bool.not_true, cond_false, Bool.true_or, cond_true]
      · simp only [g, decide_false, Bool.not_false, cond_true, Bool.false_or]
        cases plQ a.2 <;> rfl
include hp in
theorem gi_rules (nm : ByteArray) (tk lv rl : List AVal) : ∀ (suf pre : List GRuleD) (n : Int), (pre ++ suf).length ≤ 1048576 → (∀ a ∈ suf, a.2.length ≤ 1048576 ∧ ∀ x ∈ a.2, x.1.length ≤ 1048576) → 0 ≤ n → n ≤ ps.length →
    Li_GrammarOK_3 ((pre ++ suf).map avGRule) ((pre ++ suf).length : Int) (pre.length : Int) nm tk lv rl (ps.map avPart) n = some (match rulesQ (itG ps) suf n with | some n' => .inr (nm, tk, lv, rl, ps.map avPart, n') | none => .inl false)
  | [], pre, n, _, _, h0, h1 => by
    refine li_GrammarOK_3 _ _ _ _ _ _ _ _ _ ?_
    simp [rulesQ]
  | a :: suf, pre, n, hl, ha, h0, h1 => by
    have hm := mid_len pre suf a
    have hi : pre.length < 9000000000000000000 := by omega
    have e := gi_alts ps hp nm tk lv rl ((pre ++ a :: suf).map avGRule) ((pre ++ a :: suf).length : Int) (pre.length : Int) a.2 [] n (by simpa using (ha a (by simp)).1) (ha a (by simp)).2 h0 h1
    simp only [List.nil_append, List.length_nil, Int.natCast_zero] at e
    refine li_GrammarOK_3 _ _ _ _ _ _ _ _ _ ?_
    simp only [List.length_map, dlt_true hm, d0_true, Bool.and_self, cond_true, Int.toNat_natCast, map_mid, sh_GRule, c0_GRule, c1_GRule, pl_impl, Option.bind_some, e, rulesQ]
    cases plQ a.1 with
    | false => rfl
    | true =>
      by_cases g : a.2.length = 0
      · have : (a.2.length : Int) < 1 := by omega
        rw [decide_eq_true this, decide_eq_true g]; rfl
      · have : ¬ (a.2.length : Int) < 1 := by omega
        simp only [g, this, decide_false, Bool.not_true, Bool.not_false, cond_true, cond_false, Bool.and_self]
        cases q : galtsQ (itG ps) a.2 n with
        | none => rfl
        | some n1 =>
          have b := galtsQ_le _ _ _ q
          have ih := gi_rules nm tk lv rl suf (pre ++ [a]) n1 (by simpa using hl) (fun x hx => ha x (by simp [hx])) (by omega) (by omega)
          simp only [List.append_assoc, List.cons_append, List.nil_append, show (pre ++ [a]).length = pre.length + 1 by simp] at ih
          simp only [Option.bind_some, Sum.elim_inr, wrap_i hi, ih]
/-! Rules in the reference -/
abbrev G5 := ByteArray × List AVal × List AVal × List AVal × List AVal
abbrev R4 := Bool ⊕ (Int × ByteArray × List AVal × List AVal × List AVal × List AVal × ByteArray × List AVal × List AVal × List AVal × List AVal × Int × Bool)
abbrev R3 := Bool ⊕ (ByteArray × List AVal × List AVal × List AVal × List AVal × ByteArray × List AVal × List AVal × List AVal × List AVal × Int × Bool)
def rel4 (i : Int) (nm : ByteArray) (tk lv rl P : List AVal) (q : Option Int) (r : R4) : Prop :=
  match q with
  | some n => r = .inr (i, nm, tk, lv, rl, P, nm, tk, lv, rl, P, n, true)
  | none => r = .inl false ∨ ∃ m, r = .inr (i, nm, tk, lv, rl, P, nm, tk, lv, rl, P, m, false)
def rel3 (nm : ByteArray) (tk lv rl P : List AVal) (q : Option Int) (r : R3) : Prop :=
  match q with
  | some n => r = .inr (nm, tk, lv, rl, P, nm, tk, lv, rl, P, n, true)
  | none => r = .inl false ∨ ∃ m, r = .inr (nm, tk, lv, rl, P, nm, tk, lv, rl, P, m, false)
theorem gs_alts_off (P : List AVal) (i : Int) (s : ByteArray) : ∀ (suf pre : List GAltD) (n : Int), (pre ++ suf).length ≤ 1048576 →
    ∃ r, Ls_GrammarOK_4 i (pre.length : Int) nm tk lv rl P nm tk lv rl P n false s ((pre ++ suf).map avGAlt) = some r ∧ rel4 i nm tk lv rl P none r
  | [], pre, n, _ => by
    refine ⟨.inr (i, nm, tk, lv, rl, P, nm, tk, lv, rl, P, n, false), ls_GrammarOK_4 _ _ _ _ _ _ _ _ _ _ _ _ _ _ _ _ ?_, .inr ⟨n, rfl⟩⟩
    simp
  | a :: suf, pre, n, hl => by
    have hm := mid_len pre suf a
    have hi : pre.length < 9000000000000000000 := by omega
    have ee : ByteArray.mk #[] = ByteArray.empty := rfl
    obtain ⟨r, h1, h2⟩ := gs_alts_off P i s suf (pre ++ [a]) n (by simpa using hl)
    simp only [List.append_assoc, List.cons_append, List.nil_append, show (pre ++ [a]).length = pre.length + 1 by simp] at h1
    by_cases g : a.2 = ByteArray.empty
    · refine ⟨r, ls_GrammarOK_4 _ _ _ _ _ _ _ _ _ _ _ _ _ _ _ _ ?_, h2⟩
      simp only [List.length_map, dlt_true hm, d0_true, Bool.and_self, cond_true, cond_false, Int.toNat_natCast, map_mid, p0_GAlt, p1_GAlt, c0_GAlt, c1_GAlt, ee, g, decide_true, Bool.not_true, wk_items_off, Option.bind_some, wrap_i hi, h1]
    · cases q : plQ a.2 with
      | false =>
        refine ⟨.inl false, ls_GrammarOK_4 _ _ _ _ _ _ _ _ _ _ _ _ _ _ _ _ ?_, .inl rfl⟩
        simp only [List.length_map, dlt_true hm, d0_true, Bool.and_self, cond_true, cond_false, Int.toNat_natCast, map_mid, p0_GAlt, p1_GAlt, c0_GAlt, c1_GAlt, ee, g, decide_false, Bool.not_false, pl_spec, q, Option.bind_some]
      | true =>
        refine ⟨r, ls_GrammarOK_4 _ _ _ _ _ _ _ _ _ _ _ _ _ _ _ _ ?_, h2⟩
        simp only [List.length_map, dlt_true hm, d0_true, Bool.and_self, cond_true, cond_false, Int.toNat_natCast, map_mid, p0_GAlt, p1_GAlt, c0_GAlt, c1_GAlt, ee, g, decide_false, Bool.not_false, Bool.not_true, pl_spec, q, wk_items_off, Option.bind_some, wrap_i hi, h1]
include hp in
theorem gs_alts (i : Int) (s : ByteArray) : ∀ (suf pre : List GAltD) (n : Int), (pre ++ suf).length ≤ 1048576 → (∀ a ∈ suf, a.1.length ≤ 1048576) → 0 ≤ n → n ≤ ps.length →
    ∃ r, Ls_GrammarOK_4 i (pre.length : Int) nm tk lv rl (ps.map avPart) nm tk lv rl (ps.map avPart) n true s ((pre ++ suf).map avGAlt) = some r ∧ rel4 i nm tk lv rl (ps.map avPart) (galtsQ (itG ps) suf n) r
  | [], pre, n, _, _, _, _ => by
    refine ⟨.inr (i, nm, tk, lv, rl, ps.map avPart, nm, tk, lv, rl, ps.map avPart, n, true), ls_GrammarOK_4 _ _ _ _ _ _ _ _ _ _ _ _ _ _ _ _ ?_, rfl⟩
    simp
  | a :: suf, pre, n, hl, ha, h0, h1 => by
    have hm := mid_len pre suf a
    have hi : pre.length < 9000000000000000000 := by omega
    have ee : ByteArray.mk #[] = ByteArray.empty := rfl
    obtain ⟨m, hw⟩ := wkO ps hp nm tk lv rl ps.length ps.length (Int.le_refl _) (Int.le_refl _) (by omega) a.1 n (ha a (by simp)) h0 h1
    have key : ∀ q, itemsQ (itG ps) a.1 n = q → ∃ r, Ls_GrammarOK_4 i ((pre.length + 1 : Nat) : Int) nm tk lv rl (ps.map avPart) nm tk lv rl (ps.map avPart) (q.getD m) q.isSome s ((pre ++ a :: suf).map avGAlt) = some r ∧ rel4 i nm tk lv rl (ps.map avPart) (match q with | some n' => galtsQ (itG ps) suf n' | none => none) r := by
      intro q hq
      cases q with
      | none =>
        obtain ⟨r, h3, h4⟩ := gs_alts_off nm tk lv rl (ps.map avPart) i s suf (pre ++ [a]) m (by simpa using hl)
        simp only [List.append_assoc, List.cons_append, List.nil_append, show (pre ++ [a]).length = pre.length + 1 by simp] at h3
        exact ⟨r, h3, h4⟩
      | some n1 =>
        have b1 := itemsQ_mono (fun n p n' e => (itQ_some _ _ n p n' e).1) _ _ _ hq
        have b2 := itemsQ_le _ _ _ hq
        obtain ⟨r, h3, h4⟩ := gs_alts i s suf (pre ++ [a]) n1 (by simpa using hl) (fun x hx => ha x (by simp [hx])) (by omega) (by omega)
        simp only [List.append_assoc, List.cons_append, List.nil_append, show (pre ++ [a]).length = pre.length + 1 by simp] at h3
        exact ⟨r, h3, h4⟩
    obtain ⟨r, h3, h4⟩ := key _ rfl
    by_cases g : a.2 = ByteArray.empty
    · refine ⟨r, ls_GrammarOK_4 _ _ _ _ _ _ _ _ _ _ _ _ _ _ _ _ ?_, by simp only [galtsQ, lblQ, g, decide_true, Bool.true_or, cond_true]; exact h4⟩
      simp only [List.length_map, dlt_true hm, d0_true, Bool.and_self, cond_true, cond_false, Int.toNat_natCast, map_mid, p0_GAlt, p1_GAlt, c0_GAlt, c1_GAlt, ee, g, decide_true, Bool.not_true, hw, endW, Option.bind_some, wrap_i hi]
      exact h3
    · cases q : plQ a.2 with
      | false =>
        refine ⟨.inl false, ls_GrammarOK_4 _ _ _ _ _ _ _ _ _ _ _ _ _ _ _ _ ?_, by simp only [galtsQ, lblQ, g, q, decide_false, Bool.or_self, cond_false]; exact .inl rfl⟩
        simp only [List.length_map, dlt_true hm, d0_true, Bool.and_self, cond_true, cond_false, Int.toNat_natCast, map_mid, p0_GAlt, p1_GAlt, c0_GAlt, c1_GAlt, ee, g, decide_false, Bool.not_false, pl_spec, q, Option.bind_some]
      | true =>
        refine ⟨r, ls_GrammarOK_4 _ _ _ _ _ _ _ _ _ _ _ _ _ _ _ _ ?_, by simp only [galtsQ, lblQ, q, Bool.or_true, cond_true]; exact h4⟩
        simp only [List.length_map, dlt_true hm, d0_true, Bool.and_self, cond_true, cond_false, Int.toNat_natCast, map_mid, p0_GAlt, p1_GAlt, c0_GAlt, c1_GAlt, ee, g, decide_false, Bool.not_false, Bool.not_true, pl_spec, q, hw, endW, Option.bind_some, wrap_i hi]
        exact h3
theorem gs_rules_off (P : List AVal) (rs : List GRuleD) : ∀ (suf pre : List GRuleD) (n : Int), rs = pre ++ suf → (pre ++ suf).length ≤ 1048576 → (∀ a ∈ suf, a.2.length ≤ 1048576) →
    ∃ r, Ls_GrammarOK_3 (pre.length : Int) nm tk lv (rs.map avGRule) P nm tk lv (rs.map avGRule) P n false = some r ∧ rel3 nm tk lv (rs.map avGRule) P none r
  | [], pre, n, hrs, _, _ => by
    refine ⟨.inr (nm, tk, lv, rs.map avGRule, P, nm, tk, lv, rs.map avGRule, P, n, false), ls_GrammarOK_3 _ _ _ _ _ _ _ _ _ _ _ _ _ ?_, .inr ⟨n, rfl⟩⟩
    simp [hrs]
  | a :: suf, pre, n, hrs, hl, ha => by
    have hm := mid_len pre suf a
    have hi : pre.length < 9000000000000000000 := by omega
    cases q : plQ a.1 with
    | false =>
      refine ⟨.inl false, ls_GrammarOK_3 _ _ _ _ _ _ _ _ _ _ _ _ _ ?_, .inl rfl⟩
      simp only [hrs, List.length_map, dlt_true hm, d0_true, Bool.and_self, cond_true, Int.toNat_natCast, map_mid, sh_GRule, c0_GRule, c1_GRule, pl_spec, q, Bool.not_false, Option.bind_some]
    | true =>
      by_cases g : a.2.length = 0
      · have : (a.2.length : Int) = 0 := by omega
        refine ⟨.inl false, ls_GrammarOK_3 _ _ _ _ _ _ _ _ _ _ _ _ _ ?_, .inl rfl⟩
        simp only [hrs, List.length_map, dlt_true hm, d0_true, Bool.and_self, cond_true, cond_false, Int.toNat_natCast, map_mid, sh_GRule, c0_GRule, c1_GRule, pl_spec, q, Bool.not_true, Option.bind_some, this, decide_true]
      · have g' : ¬ (a.2.length : Int) = 0 := by omega
        obtain ⟨r4, h1, h2⟩ := gs_alts_off nm tk lv (rs.map avGRule) P (pre.length : Int) a.1 a.2 [] n (by simpa using ha a (by simp))
        simp only [List.nil_append, List.length_nil, Int.natCast_zero] at h1
        have base : ∀ y, ((some r4).bind (Sum.elim (fun a21 => some (.inl a21)) (fun a22 => Ls_GrammarOK_3 (IntKind.wrap .i64 (a22.1 + 1)) a22.2.1 a22.2.2.1 a22.2.2.2.1 a22.2.2.2.2.1 a22.2.2.2.2.2.1 a22.2.2.2.2.2.2.1 a22.2.2.2.2.2.2.2.1 a22.2.2.2.2.2.2.2.2.1 a22.2.2.2.2.2.2.2.2.2.1 a22.2.2.2.2.2.2.2.2.2.2.1 a22.2.2.2.2.2.2.2.2.2.2.2.1 a22.2.2.2.2.2.2.2.2.2.2.2.2)) : Option R3) = some y → Ls_GrammarOK_3 (pre.length : Int) nm tk lv (rs.map avGRule) P nm tk lv (rs.map avGRule) P n false = some y := by
          intro y hy
          refine ls_GrammarOK_3 _ _ _ _ _ _ _ _ _ _ _ _ _ ?_
          rw [← hy]
          subst hrs
          simp only [List.length_map, dlt_true hm, d0_true, Bool.and_self, cond_true, cond_false, Int.toNat_natCast, map_mid, sh_GRule, c0_GRule, c1_GRule, pl_spec, q, Bool.not_true, Option.bind_some, g', decide_false, h1]
        rcases h2 with rfl | ⟨m, rfl⟩
        · exact ⟨.inl false, base _ rfl, .inl rfl⟩
        · obtain ⟨r, h3, h4⟩ := gs_rules_off P rs suf (pre ++ [a]) m (by simpa using hrs) (by simpa using hl) (fun x hx => ha x (by simp [hx]))
          simp only [show (pre ++ [a]).length = pre.length + 1 by simp] at h3
          refine ⟨r, base _ ?_, h4⟩
          simp only [Option.bind_some, Sum.elim_inr, wrap_i hi, h3]
include hp in
theorem gs_rules (rs : List GRuleD) : ∀ (suf pre : List GRuleD) (n : Int), rs = pre ++ suf → (pre ++ suf).length ≤ 1048576 → (∀ a ∈ suf, a.2.length ≤ 1048576 ∧ ∀ x ∈ a.2, x.1.length ≤ 1048576) → 0 ≤ n → n ≤ ps.length →
    ∃ r, Ls_GrammarOK_3 (pre.length : Int) nm tk lv (rs.map avGRule) (ps.map avPart) nm tk lv (rs.map avGRule) (ps.map avPart) n true = some r ∧ rel3 nm tk lv (rs.map avGRule) (ps.map avPart) (rulesQ (itG ps) suf n) r
  | [], pre, n, hrs, _, _, _, _ => by
    refine ⟨.inr (nm, tk, lv, rs.map avGRule, ps.map avPart, nm, tk, lv, rs.map avGRule, ps.map avPart, n, true), ls_GrammarOK_3 _ _ _ _ _ _ _ _ _ _ _ _ _ ?_, rfl⟩
    simp [hrs]
  | a :: suf, pre, n, hrs, hl, ha, h0, h1 => by
    have hm := mid_len pre suf a
    have hi : pre.length < 9000000000000000000 := by omega
    cases q : plQ a.1 with
    | false =>
      refine ⟨.inl false, ls_GrammarOK_3 _ _ _ _ _ _ _ _ _ _ _ _ _ ?_, by simp only [rulesQ, q, Bool.false_and, cond_false]; exact .inl rfl⟩
      simp only [hrs, List.length_map, dlt_true hm, d0_true, Bool.and_self, cond_true, Int.toNat_natCast, map_mid, sh_GRule, c0_GRule, c1_GRule, pl_spec, q, Bool.not_false, Option.bind_some]
    | true =>
      by_cases g : a.2.length = 0
      · have : (a.2.length : Int) = 0 := by omega
        refine ⟨.inl false, ls_GrammarOK_3 _ _ _ _ _ _ _ _ _ _ _ _ _ ?_, by simp only [rulesQ, g, decide_true, Bool.not_true, Bool.and_false, cond_false]; exact .inl rfl⟩
        simp only [hrs, List.length_map, dlt_true hm, d0_true, Bool.and_self, cond_true, cond_false, Int.toNat_natCast, map_mid, sh_GRule, c0_GRule, c1_GRule, pl_spec, q, Bool.not_true, Option.bind_some, this, decide_true]
      · have g' : ¬ (a.2.length : Int) = 0 := by omega
        obtain ⟨r4, h2, h3⟩ := gs_alts ps hp nm tk lv (rs.map avGRule) (pre.length : Int) a.1 a.2 [] n (by simpa using (ha a (by simp)).1) (ha a (by simp)).2 h0 h1
        simp only [List.nil_append, List.length_nil, Int.natCast_zero] at h2
        have base : ∀ y, ((some r4).bind (Sum.elim (fun a21 => some (.inl a21)) (fun a22 => Ls_GrammarOK_3 (IntKind.wrap .i64 (a22.1 + 1)) a22.2.1 a22.2.2.1 a22.2.2.2.1 a22.2.2.2.2.1 a22.2.2.2.2.2.1 a22.2.2.2.2.2.2.1 a22.2.2.2.2.2.2.2.1 a22.2.2.2.2.2.2.2.2.1 a22.2.2.2.2.2.2.2.2.2.1 a22.2.2.2.2.2.2.2.2.2.2.1 a22.2.2.2.2.2.2.2.2.2.2.2.1 a22.2.2.2.2.2.2.2.2.2.2.2.2)) : Option R3) = some y → Ls_GrammarOK_3 (pre.length : Int) nm tk lv (rs.map avGRule) (ps.map avPart) nm tk lv (rs.map avGRule) (ps.map avPart) n true = some y := by
          intro y hy
          refine ls_GrammarOK_3 _ _ _ _ _ _ _ _ _ _ _ _ _ ?_
          rw [← hy]
          subst hrs
          simp only [List.length_map, dlt_true hm, d0_true, Bool.and_self, cond_true, cond_false, Int.toNat_natCast, map_mid, sh_GRule, c0_GRule, c1_GRule, pl_spec, q, Bool.not_true, Option.bind_some, g', decide_false, h2]
        have hrq : rulesQ (itG ps) (a :: suf) n = match galtsQ (itG ps) a.2 n with | some n' => rulesQ (itG ps) suf n' | none => none := by simp only [rulesQ, q, g, decide_false, Bool.not_false, Bool.and_self, cond_true]
        rw [hrq]
        cases qq : galtsQ (itG ps) a.2 n with
        | none =>
          rw [qq] at h3
          rcases h3 with rfl | ⟨m, rfl⟩
          · exact ⟨.inl false, base _ rfl, .inl rfl⟩
          · obtain ⟨r, h4, h5⟩ := gs_rules_off nm tk lv (ps.map avPart) rs suf (pre ++ [a]) m (by simpa using hrs) (by simpa using hl) (fun x hx => (ha x (by simp [hx])).1)
            simp only [show (pre ++ [a]).length = pre.length + 1 by simp] at h4
            refine ⟨r, base _ ?_, h5⟩
            simp only [Option.bind_some, Sum.elim_inr, wrap_i hi, h4]
        | some n1 =>
          rw [qq] at h3
          simp only [rel4] at h3
          subst h3
          have b := galtsQ_le _ _ _ qq
          obtain ⟨r, h4, h5⟩ := gs_rules rs suf (pre ++ [a]) n1 (by simpa using hrs) (by simpa using hl) (fun x hx => ha x (by simp [hx])) (by omega) (by omega)
          simp only [show (pre ++ [a]).length = pre.length + 1 by simp] at h4
          refine ⟨r, base _ ?_, h5⟩
          simp only [Option.bind_some, Sum.elim_inr, wrap_i hi, h4]
end
def gramB (tk : List TokenD) (lv : List LevelD) (rl : List GRuleD) (ps : List PartD) : Prop :=
  (∀ l ∈ lv, l.2.length ≤ 1048576) ∧ (∀ a ∈ rl, a.2.length ≤ 1048576 ∧ ∀ x ∈ a.2, x.1.length ≤ 1048576) ∧ ∀ x ∈ ps, x.2.2.length ≤ 1048576 ∧ ∀ a ∈ x.2.2, a.length ≤ 1048576
theorem gr_impl (nm : ByteArray) (tk : List TokenD) (lv : List LevelD) (rl : List GRuleD) (ps : List PartD) (hb : gramB tk lv rl ps) :
    Fi_GrammarOK nm (tk.map avToken) (lv.map avLevel) (rl.map avGRule) (ps.map avPart) = some (gramQ nm tk lv rl ps) := by
  refine ui_GrammarOK _ _ _ _ _ ?_
  unfold gramQ
  have d : ∀ n m : Nat, decide (((n : Nat) : Int) < ((m : Nat) : Int)) = !decide (m ≤ n) := fun n m => by by_cases h : m ≤ n <;> simp [h] <;> omega
  have d1 := d 20 tk.length
  have d2 := d 8 lv.length
  have d3 := d 30 rl.length
  have d4 := d 200 ps.length
  simp only [show ((20 : Nat) : Int) = 20 from rfl, show ((8 : Nat) : Int) = 8 from rfl, show ((30 : Nat) : Int) = 30 from rfl, show ((200 : Nat) : Int) = 200 from rfl] at d1 d2 d3 d4
  simp only [pl_impl, Option.bind_some, List.length_map, d1, d2, d3, d4]
  cases plQ nm with
  | false => rfl
  | true =>
    by_cases g1 : tk.length ≤ 20
    · by_cases g2 : lv.length ≤ 8
      · by_cases g3 : rl.length ≤ 30
        · by_cases g4 : ps.length ≤ 200
          · simp only [g1, g2, g3, g4, decide_true, Bool.not_true, cond_false, Bool.true_and, gi_tok tk g1]
            cases allN (fun i => tokQ (tk.getD i tokD)) tk.length with
            | false => rfl
            | true =>
              simp only [cond_true, Option.bind_some, Sum.elim_inr, List.length_map, gi_lev lv g2 hb.1]
              cases allN (fun i => levQ (lv.getD i levD)) lv.length with
              | false => rfl
              | true =>
                have e := gi_rules ps ⟨g4, hb.2.2⟩ nm (tk.map avToken) (lv.map avLevel) (rl.map avGRule) rl [] 0 (by simp; omega) hb.2.1 (by omega) (by omega)
                simp only [List.nil_append, List.length_nil, Int.natCast_zero] at e
                simp only [cond_true, Option.bind_some, Sum.elim_inr, List.length_map, e, Bool.true_and]
                cases rulesQ (itG ps) rl 0 with
                | none => rfl
                | some n => simp only [Option.bind_some, Sum.elim_inr, List.length_map]
          · simp only [g1, g2, g3, g4, decide_true, decide_false, Bool.not_true, Bool.not_false, cond_false, cond_true, Bool.true_and, Bool.false_and]
        · simp only [g1, g2, g3, decide_true, decide_false, Bool.not_true, Bool.not_false, cond_false, cond_true, Bool.true_and, Bool.false_and]
      · simp only [g1, g2, decide_true, decide_false, Bool.not_true, Bool.not_false, cond_false, cond_true, Bool.true_and, Bool.false_and]
    · simp only [g1, decide_false, Bool.not_true, Bool.not_false, cond_false, cond_true, Bool.true_and, Bool.false_and]
theorem gr_spec (nm : ByteArray) (tk : List TokenD) (lv : List LevelD) (rl : List GRuleD) (ps : List PartD) (hb : gramB tk lv rl ps) :
    Fs_GrammarOK nm (tk.map avToken) (lv.map avLevel) (rl.map avGRule) (ps.map avPart) = some (gramQ nm tk lv rl ps) := by
  refine us_GrammarOK _ _ _ _ _ ?_
  have d : ∀ n m : Nat, decide (((n : Nat) : Int) ≤ ((m : Nat) : Int)) = decide (n ≤ m) := fun n m => by by_cases h : n ≤ m <;> simp [h] <;> omega
  have d1 := d tk.length 20
  have d2 := d lv.length 8
  have d3 := d rl.length 30
  have d4 := d ps.length 200
  simp only [show ((20 : Nat) : Int) = 20 from rfl, show ((8 : Nat) : Int) = 8 from rfl, show ((30 : Nat) : Int) = 30 from rfl, show ((200 : Nat) : Int) = 200 from rfl] at d1 d2 d3 d4
  have sm : Fs_l03Small nm (tk.map avToken) (lv.map avLevel) (rl.map avGRule) (ps.map avPart) = some (decide (tk.length ≤ 20) && (decide (lv.length ≤ 8) && (decide (rl.length ≤ 30) && decide (ps.length ≤ 200)))) := by
    refine us_l03Small _ _ _ _ _ ?_
    simp only [List.length_map, d1, d2, d3, d4]
    cases decide (tk.length ≤ 20) with
    | false => rfl
    | true => cases decide (lv.length ≤ 8) with
      | false => rfl
      | true => cases decide (rl.length ≤ 30) <;> rfl
  simp only [sm, pl_spec, Option.bind_some]
  unfold gramQ
  by_cases g1 : tk.length ≤ 20
  · by_cases g2 : lv.length ≤ 8
    · by_cases g3 : rl.length ≤ 30
      · by_cases g4 : ps.length ≤ 200
        · simp only [g1, g2, g3, g4, decide_true, Bool.and_self, Bool.not_true, cond_false, Bool.true_and, gs_tok tk g1]
          cases plQ nm with
          | false => rfl
          | true =>
            simp only [Bool.not_true, cond_false, Bool.true_and]
            cases allN (fun i => tokQ (tk.getD i tokD)) tk.length with
            | false => rfl
            | true =>
              simp only [cond_true, Option.bind_some, Sum.elim_inr, List.length_map, gs_lev lv g2 hb.1, Bool.true_and]
              cases allN (fun i => levQ (lv.getD i levD)) lv.length with
              | false => rfl
              | true =>
                obtain ⟨r, e, hr⟩ := gs_rules ps ⟨g4, hb.2.2⟩ nm (tk.map avToken) (lv.map avLevel) rl rl [] 0 rfl (by simp; omega) hb.2.1 (by omega) (by omega)
                simp only [List.length_nil, Int.natCast_zero] at e
                simp only [cond_true, Option.bind_some, Sum.elim_inr, e, Bool.true_and]
                cases q : rulesQ (itG ps) rl 0 with
                | none =>
                  rw [q] at hr
                  rcases hr with rfl | ⟨m, rfl⟩ <;> rfl
                | some n =>
                  rw [q] at hr
                  simp only [rel3] at hr
                  subst hr
                  simp only [Sum.elim_inr, cond_true, List.length_map]
        · simp only [g1, g2, g3, g4, decide_true, decide_false, Bool.and_self, Bool.and_false, Bool.not_false, cond_true, Bool.false_and, Bool.and_true]
      · simp only [g1, g2, g3, decide_true, decide_false, Bool.and_false, Bool.false_and, Bool.not_false, cond_true]
    · simp only [g1, g2, decide_true, decide_false, Bool.and_false, Bool.false_and, Bool.not_false, cond_true]
  · simp only [g1, decide_false, Bool.and_false, Bool.false_and, Bool.not_false, cond_true]
theorem lawGr (nm : ByteArray) (tk : List TokenD) (lv : List LevelD) (rl : List GRuleD) (ps : List PartD) (h : wfGrammar (nm, tk, lv, rl, ps)) :
    Fl_FnExactGrammarOK nm (tk.map avToken) (lv.map avLevel) (rl.map avGRule) (ps.map avPart) = some true := by
  refine ul_FnExactGrammarOK _ _ _ _ _ ?_
  have t1 := tzGrammar (nm, tk, lv, rl, ps) 1048576 h (by omega) (by omega)
  simp only at t1
  simp only [t1, Option.bind_some]
  by_cases g : szR 1048576 (szGrammar (nm, tk, lv, rl, ps)) < 0
  · simp only [g, decide_true, cond_true]
  have z := szR_nn g
  have z : szGrammar (nm, tk, lv, rl, ps) ≤ 1048576 := by omega
  have z' := z
  simp only [szGrammar] at z'
  have hb : gramB tk lv rl ps := by
    refine ⟨fun l hl => ?_, fun a ha => ?_, fun x hx => ?_⟩
    · have := totLevel_mem hl
      unfold szLevelS at z'
      unfold szLevel szStringS at this
      omega
    · have h1 := totGRule_mem ha
      unfold szGRuleS at z'
      unfold szGRule szGAltS at h1
      refine ⟨by omega, fun x hx => ?_⟩
      have h2 := totGAlt_mem hx
      unfold szGAlt at h2
      omega
    · have h1 := totPart_mem hx
      unfold szPartS at z'
      unfold szPart szIntSS at h1
      refine ⟨by omega, fun a ha => ?_⟩
      have h2 := totIntS_mem ha
      omega
  have e1 := toGrammar (nm, tk, lv, rl, ps) z
  have e2 := eqGrammar (nm, tk, lv, rl, ps) z
  simp only at e1 e2
  simp only [g, decide_false, cond_false, e1, e2, Option.bind_some, asRoL_map2 asRo_Token, asRoL_map2 asRo_Level, asRoL_map2 asRo_GRule, asRoL_map2 asRo_Part, gr_spec _ _ _ _ _ hb, gr_impl _ _ _ _ _ hb, beq_self_eq_true, Bool.not_true]
theorem lawGrammarOK : ∀ xs, FitsL ctx [ty_laws_Grammar] xs → ∃ k, vcall ctx k n_l_FnExactGrammarOK xs [] = some ([.bool true], []) := by
  intro xs h
  obtain ⟨x, r, rfl, h1, h⟩ := h.cons'
  obtain rfl := h.nil'
  obtain ⟨⟨nm, tk, lv, rl, ps⟩, rfl, w⟩ := fitGrammar h1
  exact law_of (S := sgl_FnExactGrammarOK) (a := (nm, tk.map avToken, lv.map avLevel, rl.map avGRule, ps.map avPart)) (lawGr nm tk lv rl ps w) rfl rfl
end Go.Proofs.Ytmbnloccmnclnaa
