/- Words as terminals: the law Terminals answers true at all plain arguments; no condition. -/
import Derived.Test.YtmbnloccmnclnaaBo
import Derived.Test.YtmbnloccmnclnaaBwm
import Derived.Test.YtmbnloccmnclnaaXe
namespace Go.Proofs.Ytmbnloccmnclnaa
open Go.VK AVal
theorem firstF_snoc {E : Type} (f : Nat → Option E) : ∀ m i, firstF f i (m + 1) = match firstF f i m with | some e => some e | none => f (i + m)
  | 0, i => by simp only [firstF, Nat.add_zero]; cases f i <;> rfl
  | m + 1, i => by
    rw [firstF, firstF_snoc f m (i + 1)]
    conv => rhs; rw [firstF]
    rw [show i + 1 + m = i + (m + 1) by omega]
    cases f i <;> rfl
theorem firstF_none {E : Type} (f : Nat → Option E) : ∀ m i, (∀ j, i ≤ j → j < i + m → f j = none) → firstF f i m = none
  | 0, _, _ => rfl
  | m + 1, i, h => by rw [firstF, h i (Nat.le_refl _) (by omega)]; exact firstF_none f m (i + 1) fun j h1 h2 => h j (by omega) (by omega)
theorem snoc_iv (l : List Int) (a : Int) : l.map iv ++ [.int .i64 a] = (l ++ [a]).map iv := by simp [iv]
def fstT (ts : List TermD) (s : ByteArray) (n : Nat) : Option Int := firstF (fun i => bif decide ((ts.getD i tD).1 = s) then some ((i : Nat) : Int) else none) 0 n
theorem term_spec (ts : List TermD) (hl : ts.length ≤ 60) (s : ByteArray) (a : ByteArray) (A B C D N P F : List AVal) (own : Int) (b : Bool) :
    Fs_l03Lower_term s a A B C D (ts.map avTerm) N own P F b = some ((fstT ts s ts.length).getD (-1), a, A, B, C, D, ts.map avTerm, N, own, P, F, b) := by
  refine us_l03Lower_term _ _ _ _ _ _ _ _ _ _ _ _ ?_
  have e := loop_first (fun i => Ls_l03Lower_term_0 s (i : Int) a A B C D (ts.map avTerm) N own P F b) ts.length
    (fun i => (bif decide ((ts.getD i tD).1 = s) then some ((i : Nat) : Int) else none).map fun k => (k, a, A, B, C, D, ts.map avTerm, N, own, P, F, b)) (a, A, B, C, D, ts.map avTerm, N, own, P, F, b) (by
      refine ls_l03Lower_term_0 _ _ _ _ _ _ _ _ _ _ _ _ _ ?_
      simp only [List.length_map, lt_self, cond_false]) (fun i hi y hy => by
      refine ls_l03Lower_term_0 _ _ _ _ _ _ _ _ _ _ _ _ _ ?_
      rw [← hy]
      simp only [List.length_map, lt_true hi, d0_true, Bool.and_self, cond_true, Int.toNat_natCast, getD_map' avTerm tD hi, p0_Term, c0_Term, wrap_i (show i < 9000000000000000000 by omega)]
      cases decide ((ts.getD i tD).1 = s) <;> rfl) ts.length 0 (by omega)
  have em : ∀ m i, firstF (fun i => (bif decide ((ts.getD i tD).1 = s) then some ((i : Nat) : Int) else none).map fun k => (k, a, A, B, C, D, ts.map avTerm, N, own, P, F, b)) i m
      = (firstF (fun i => bif decide ((ts.getD i tD).1 = s) then some ((i : Nat) : Int) else none) i m).map fun k => (k, a, A, B, C, D, ts.map avTerm, N, own, P, F, b) := by
    intro m
    induction m with
    | zero => intro i; rfl
    | succ m ih =>
      intro i
      simp only [firstF, ih]
      cases decide ((ts.getD i tD).1 = s) <;> rfl
  simp only [Int.natCast_zero, em] at e
  rw [e]
  unfold fstT
  cases firstF (fun i => bif decide ((ts.getD i tD).1 = s) then some ((i : Nat) : Int) else none) 0 ts.length <;> rfl
theorem fstT_nn {ts : List TermD} {s : ByteArray} : ∀ {n : Nat} {k : Int}, fstT ts s n = some k → 0 ≤ k
  | 0, k, h => by cases h
  | n + 1, k, h => by
    unfold fstT at h
    rw [firstF_snoc] at h
    cases g : firstF (fun i => bif decide ((ts.getD i tD).1 = s) then some ((i : Nat) : Int) else none) 0 n with
    | some e => rw [g] at h; exact fstT_nn (n := n) (g.trans h)
    | none =>
      rw [g] at h
      simp only [Bool.cond_eq_ite] at h
      split at h
      · obtain rfl := Option.some.inj h; omega
      · cases h
def prs (ts : List TermD) (i : Nat) : List (ByteArray × Int) := (List.range i).map fun j => ((ts.getD j tD).1, (j : Int))
theorem prs_succ (ts : List TermD) (i : Nat) : prs ts (i + 1) = prs ts i ++ [((ts.getD i tD).1, (i : Int))] := by simp [prs, List.range_succ]
theorem dlast_prs {ts : List TermD} (t : ByteArray) : ∀ {n : Nat}, n ≤ ts.length → (∀ i, i < n → newQ (nmT ts) i = true) → dlast (prs ts n) t = fstT ts t n
  | 0, _, _ => rfl
  | n + 1, hn, h => by
    rw [prs_succ, dlast_snoc, dlast_prs t (by omega) fun i hi => h i (by omega)]
    unfold fstT
    rw [firstF_snoc]
    by_cases g : t = (ts.getD n tD).1
    · have hz : firstF (fun i => bif decide ((ts.getD i tD).1 = t) then some ((i : Nat) : Int) else none) 0 n = none := by
        refine firstF_none _ _ _ fun j _ hj => ?_
        have hq := (newQ_iff (xs := nmT ts) (by simpa [nmT] using (show n < ts.length by omega))).1 (h n (by omega)) j (by omega)
        rw [nm_get (show j < ts.length by omega), nm_get (show n < ts.length by omega), ← g] at hq
        simp only [hq, decide_false, cond_false]
      rw [hz]
      simp [g]
    · rw [if_neg g]
      cases firstF (fun i => bif decide ((ts.getD i tD).1 = t) then some ((i : Nat) : Int) else none) 0 n with
      | some e => rfl
      | none =>
        have q : ¬ (ts.getD n tD).1 = t := fun e => g e.symm
        simp only [Nat.zero_add, q, decide_false, cond_false]
/-! One word after another -/
def wD : WordD := (ByteArray.empty, ByteArray.empty, 0, 0, false, ByteArray.empty)
def quo : ByteArray := ByteArray.mk #[39]
def wNm (w : WordD) : ByteArray := bif decide (w.1 = ByteArray.mk #[76, 105, 116]) then quo ++ w.2.1 ++ quo else w.1
def stW {E : Type} (e : E) (ts : List TermD) (ws : List WordD) (i : Nat) (s : List Int × List Int) : E ⊕ (List Int × List Int) :=
  bif (ws.getD i wD).2.2.2.2.1 then .inr s else match fstT ts (wNm (ws.getD i wD)) ts.length with | none => .inl e | some a => .inr (s.1 ++ [a], s.2 ++ [(i : Int)])
def InvW (i : Nat) (s : List Int × List Int) : Prop := s.1.length ≤ i ∧ s.2.length ≤ i
theorem stW_inv {E : Type} (e : E) (ts : List TermD) (ws : List WordD) (i : Nat) (s s' : List Int × List Int) (h : InvW i s) (hs : stW e ts ws i s = .inr s') : InvW (i + 1) s' := by
  unfold stW at hs
  unfold InvW at h ⊢
  cases g : (ws.getD i wD).2.2.2.2.1 with
  | true => rw [g] at hs; simp only [cond_true, Sum.inr.injEq] at hs; subst hs; omega
  | false =>
    rw [g] at hs
    simp only [cond_false] at hs
    split at hs
    · cases hs
    · simp only [Sum.inr.injEq] at hs; subst hs; simp; omega
theorem te_s0 (ts : List TermD) (ht : ts.length ≤ 60) (N P : List AVal) (own : Int) (ws : List WordD) (hw : ws.length ≤ 1000) (hx : ∀ w ∈ ws, w.2.1.size ≤ 1048576) :
    Ls_Terminals_0 (ws.map avWord) 0 ByteArray.empty [] [] [] [] (ts.map avTerm) N own P [] false [] [] = some (mapR (fun s : List Int × List Int => (s.1.map iv, s.2.map iv)) (foldF (stW ((8 : Int), ([] : List AVal), ([] : List AVal)) ts ws) 0 ws.length ([], []))) := by
  have e := loop_fold (fun i s => Ls_Terminals_0 (ws.map avWord) (i : Int) ByteArray.empty [] [] [] [] (ts.map avTerm) N own P [] false (s.1.map iv) (s.2.map iv)) ws.length (stW ((8 : Int), ([] : List AVal), ([] : List AVal)) ts ws) (fun s : List Int × List Int => (s.1.map iv, s.2.map iv)) InvW
    (fun s _ => by
      refine ls_Terminals_0 _ _ _ _ _ _ _ _ _ _ _ _ _ _ _ ?_
      simp only [List.length_map, lt_self, cond_false]) (fun i hi s hs y hy => by
      refine ls_Terminals_0 _ _ _ _ _ _ _ _ _ _ _ _ _ _ _ ?_
      rw [← hy]
      have c1 : capB (s.1.length + 1) 8 = true := capB_le (by have := hs.1; omega)
      have c2 : capB (s.2.length + 1) 8 = true := capB_le (by have := hs.2; omega)
      have hz := hx _ (getD_mem wD hi)
      have f1 : fits64 ((ByteArray.mk #[39]).size + (ws.getD i wD).2.1.size) = true := fits64_of (by rw [show (ByteArray.mk #[39]).size = 1 from rfl]; omega)
      have f2 : fits64 (((ByteArray.mk #[39]) ++ (ws.getD i wD).2.1).size + (ByteArray.mk #[39]).size) = true := fits64_of (by rw [ByteArray.size_append, show (ByteArray.mk #[39]).size = 1 from rfl]; omega)
      simp only [List.length_map, lt_true hi, d0_true, Bool.and_self, cond_true, Int.toNat_natCast, getD_map' avWord wD hi, p0_Word, p1_Word, p4_Word, c0_Word, c1_Word, c4_Word, wrap_i (show i < 9000000000000000000 by omega), term_spec ts ht, Option.bind_some, f1, f2, c1, c2, snoc_iv]
      unfold stW wNm
      cases (ws.getD i wD).2.2.2.2.1 with
      | true => rfl
      | false =>
        cases decide ((ws.getD i wD).1 = ByteArray.mk #[76, 105, 116]) with
        | true =>
          simp only [cond_true, cond_false, quo]
          cases g : fstT ts (ByteArray.mk #[39] ++ (ws.getD i wD).2.1 ++ ByteArray.mk #[39]) ts.length with
          | none => rfl
          | some a =>
            have := fstT_nn g
            have : ¬ a < 0 := by omega
            simp only [Option.getD_some, this, decide_false, cond_false]
        | false =>
          simp only [cond_false]
          cases g : fstT ts (ws.getD i wD).1 ts.length with
          | none => rfl
          | some a =>
            have := fstT_nn g
            have : ¬ a < 0 := by omega
            simp only [Option.getD_some, this, decide_false, cond_false]) (fun i _ s hs s' h => stW_inv _ ts ws i s s' hs h) ws.length 0 (by omega) ([], []) ⟨Nat.zero_le _, Nat.zero_le _⟩
  simpa using e
theorem te_i0 (W : List AVal) (ts : List TermD) (ht : ts.length ≤ 60) : Li_Terminals_0 W (ts.map avTerm) (ts.length : Int) 0 [] = some (W, dS (prs ts ts.length)) := by
  have e := loop_run (fun i (_ : Unit) => Li_Terminals_0 W (ts.map avTerm) (ts.length : Int) (i : Int) (dS (prs ts i))) ts.length (fun _ u => u) (fun _ => (W, dS (prs ts ts.length))) (fun _ _ => True)
    (fun _ _ => by
      refine li_Terminals_0 _ _ _ _ _ ?_
      simp only [lt_self, cond_false]) (fun i hi _ _ y hy => by
      refine li_Terminals_0 _ _ _ _ _ ?_
      rw [← hy]
      have q : mpIns (.str (ts.getD i tD).1) (.int .i64 (i : Int)) (dS (prs ts i)) = dS (prs ts (i + 1)) := by rw [prs_succ, dS_snoc]; rfl
      simp only [List.length_map, lt_true hi, d0_true, Bool.and_self, cond_true, Int.toNat_natCast, getD_map' avTerm tD hi, sh_Term, c0_Term, wrap_i (show i < 9000000000000000000 by omega), q]) (fun _ _ _ _ => trivial) ts.length 0 (by omega) () trivial
  simpa [prs, dS] using e
theorem te_i1 (ts : List TermD) (hn : ∀ i, i < ts.length → newQ (nmT ts) i = true) (ws : List WordD) (hw : ws.length ≤ 1000) (hx : ∀ w ∈ ws, w.2.1.size ≤ 1048576) :
    Li_Terminals_1 (ws.map avWord) (ws.length : Int) 0 (dS (prs ts ts.length)) [] [] = some (mapR (fun s : List Int × List Int => (s.1.map iv, s.2.map iv)) (foldF (stW (8 : Int) ts ws) 0 ws.length ([], []))) := by
  have e := loop_fold (fun i s => Li_Terminals_1 (ws.map avWord) (ws.length : Int) (i : Int) (dS (prs ts ts.length)) (s.1.map iv) (s.2.map iv)) ws.length (stW (8 : Int) ts ws) (fun s : List Int × List Int => (s.1.map iv, s.2.map iv)) InvW
    (fun s _ => by
      refine li_Terminals_1 _ _ _ _ _ _ ?_
      simp only [lt_self, cond_false]) (fun i hi s hs y hy => by
      refine li_Terminals_1 _ _ _ _ _ _ ?_
      rw [← hy]
      have c1 : capB (s.1.length + 1) 8 = true := capB_le (by have := hs.1; omega)
      have c2 : capB (s.2.length + 1) 8 = true := capB_le (by have := hs.2; omega)
      have hz := hx _ (getD_mem wD hi)
      have f1 : fits64 ((ByteArray.mk #[39]).size + (ws.getD i wD).2.1.size) = true := fits64_of (by rw [show (ByteArray.mk #[39]).size = 1 from rfl]; omega)
      have f2 : fits64 (((ByteArray.mk #[39]) ++ (ws.getD i wD).2.1).size + (ByteArray.mk #[39]).size) = true := fits64_of (by rw [ByteArray.size_append, show (ByteArray.mk #[39]).size = 1 from rfl]; omega)
      simp only [List.length_map, lt_true hi, d0_true, Bool.and_self, cond_true, Int.toNat_natCast, getD_map' avWord wD hi, sh_Word, c0_Word, c1_Word, c4_Word, wrap_i (show i < 9000000000000000000 by omega), f1, f2, c1, c2, snoc_iv, dS_get, dlast_prs _ (Nat.le_refl _) hn, oiv_getD, e_int, e_toInt, bnd_eq, Option.isSome_map]
      unfold stW wNm
      cases (ws.getD i wD).2.2.2.2.1 with
      | true => rfl
      | false =>
        cases decide ((ws.getD i wD).1 = ByteArray.mk #[76, 105, 116]) with
        | true =>
          simp only [cond_true, cond_false, quo]
          cases g : fstT ts (ByteArray.mk #[39] ++ (ws.getD i wD).2.1 ++ ByteArray.mk #[39]) ts.length <;> rfl
        | false =>
          simp only [cond_false]
          cases g : fstT ts (ws.getD i wD).1 ts.length <;> rfl) (fun i _ s hs s' h => stW_inv _ ts ws i s s' hs h) ws.length 0 (by omega) ([], []) ⟨Nat.zero_le _, Nat.zero_le _⟩
  simpa using e
def teV (ts : List TermD) (ns : List ByteArray) (own : Int) (ps : List ProdD) (ws : List WordD) : List Int × List Int × Int :=
  bif bnfQ ts ns own ps && decide (ws.length ≤ 1000) then (match foldF (stW () ts ws) 0 ws.length ([], []) with | .inl _ => ([], [], 8) | .inr s => (s.1, s.2, 0)) else ([], [], 1)
theorem foldF_e {E : Type} (e : E) (ts : List TermD) (ws : List WordD) : ∀ m i s, foldF (stW e ts ws) i m s = (match foldF (stW () ts ws) i m s with | .inl _ => .inl e | .inr s => .inr s)
  | 0, _, _ => rfl
  | m + 1, i, s => by
    simp only [foldF, stW]
    cases (ws.getD i wD).2.2.2.2.1 with
    | true => exact foldF_e e ts ws m _ _
    | false =>
      simp only [cond_false]
      cases fstT ts (wNm (ws.getD i wD)) ts.length with
      | none => rfl
      | some a => exact foldF_e e ts ws m _ _
theorem bnfQ_nt {ts : List TermD} {ns : List ByteArray} {own : Int} {ps : List ProdD} (h : bnfQ ts ns own ps = true) : ts.length ≤ 60 ∧ ∀ i, i < ts.length → newQ (nmT ts) i = true := by
  simp only [bnfQ, Bool.and_eq_true, decide_eq_true_eq] at h
  obtain ⟨h1, _, _, _, h2, _⟩ := h
  refine ⟨h1, fun i hi => ?_⟩
  have := allN_iff.1 h2 i hi
  simp only [trQ, Bool.and_eq_true] at this
  exact this.2
theorem te_spec (ts : List TermD) (ns : List ByteArray) (own : Int) (ps : List ProdD) (ws : List WordD) (hx : ∀ w ∈ ws, w.2.1.size ≤ 1048576) :
    Fs_Terminals (ts.map avTerm) (ns.map sv) own (ps.map avProd) (ws.map avWord) = some ((teV ts ns own ps ws).1.map iv, (teV ts ns own ps ws).2.1.map iv, (teV ts ns own ps ws).2.2) := by
  refine us_Terminals _ _ _ _ _ ?_
  unfold teV
  simp only [bo_spec, Option.bind_some, List.length_map]
  cases g : bnfQ ts ns own ps with
  | false => rfl
  | true =>
    by_cases g2 : ws.length ≤ 1000
    · have g2' : ¬ (1000 : Int) < (ws.length : Int) := by omega
      simp only [g2, g2', decide_true, decide_false, Bool.not_true, Bool.and_self, cond_false, cond_true, te_s0 ts (bnfQ_nt g).1 _ _ _ ws g2 hx, foldF_e ((8 : Int), ([] : List AVal), ([] : List AVal))]
      cases foldF (stW () ts ws) 0 ws.length ([], []) with
      | inl e => rfl
      | inr s => simp only [mapR, Option.bind_some, Sum.elim_inr, asRoL_map asRo_iv]
    · have g2' : (1000 : Int) < (ws.length : Int) := by omega
      simp only [g2, g2', decide_true, decide_false, Bool.not_true, Bool.and_false, cond_false, cond_true]; rfl
theorem te_impl (ts : List TermD) (ns : List ByteArray) (own : Int) (ps : List ProdD) (ws : List WordD) (hx : ∀ w ∈ ws, w.2.1.size ≤ 1048576) :
    Fi_Terminals (ts.map avTerm) (ns.map sv) own (ps.map avProd) (ws.map avWord) = some ((teV ts ns own ps ws).1.map iv, (teV ts ns own ps ws).2.1.map iv, (teV ts ns own ps ws).2.2) := by
  refine ui_Terminals _ _ _ _ _ ?_
  unfold teV
  simp only [bo_impl, Option.bind_some, List.length_map]
  cases g : bnfQ ts ns own ps with
  | false => rfl
  | true =>
    by_cases g2 : ws.length ≤ 1000
    · have g2' : ¬ (1000 : Int) < (ws.length : Int) := by omega
      simp only [g2, g2', decide_true, decide_false, Bool.not_true, Bool.and_self, cond_false, cond_true, te_i0 _ ts (bnfQ_nt g).1, Option.bind_some, List.length_map, te_i1 ts (bnfQ_nt g).2 ws g2 hx, foldF_e (8 : Int)]
      cases foldF (stW () ts ws) 0 ws.length ([], []) <;> rfl
    · have g2' : (1000 : Int) < (ws.length : Int) := by omega
      simp only [g2, g2', decide_true, decide_false, Bool.not_true, Bool.and_false, cond_false, cond_true]; rfl
theorem foldF_len (ts : List TermD) (ws : List WordD) : ∀ m i s s', InvW i s → foldF (stW () ts ws) i m s = .inr s' → InvW (i + m) s'
  | 0, i, s, s', h, e => by simp only [foldF, Sum.inr.injEq] at e; subst e; exact h
  | m + 1, i, s, s', h, e => by
    simp only [foldF] at e
    split at e
    · cases e
    · rename_i s1 h1
      have := foldF_len ts ws m (i + 1) s1 s' (stW_inv () ts ws i s s1 h h1) e
      rw [show i + (m + 1) = i + 1 + m by omega]; exact this
theorem teV_len (ts : List TermD) (ns : List ByteArray) (own : Int) (ps : List ProdD) (ws : List WordD) : (teV ts ns own ps ws).1.length ≤ 1000 ∧ (teV ts ns own ps ws).2.1.length ≤ 1000 := by
  unfold teV
  cases bnfQ ts ns own ps with
  | false => simp
  | true =>
    by_cases g2 : ws.length ≤ 1000
    · simp only [g2, decide_true, Bool.and_self, cond_true]
      cases h : foldF (stW () ts ws) 0 ws.length ([], []) with
      | inl e => simp
      | inr s =>
        have := foldF_len ts ws ws.length 0 ([], []) s ⟨Nat.zero_le _, Nat.zero_le _⟩ h
        simp only [InvW] at this
        simp only; omega
    · simp [g2]
theorem lawTe (ts : List TermD) (ns : List ByteArray) (own : Int) (ps : List ProdD) (ws : List WordD) (h1 : wfBnf (ts, ns, own, ps)) (h2 : ws.length ≤ maxLen ∧ ∀ y ∈ ws, wfWord y) :
    Fl_FnExactTerminals (ts.map avTerm) (ns.map sv) own (ps.map avProd) (ws.map avWord) = some true := by
  refine ul_FnExactTerminals _ _ _ _ _ ?_
  have t1 := tzBnf (ts, ns, own, ps) 1048576 h1 (by omega) (by omega)
  simp only at t1
  simp only [t1, Option.bind_some]
  by_cases g : szR 1048576 (szBnf (ts, ns, own, ps)) < 0
  · simp only [g, decide_true, cond_true]
  obtain ⟨b1, b2⟩ := szR_le _ _ g
  have g1 := szR_nn g
  have t2 := tzWordS ws (szR 1048576 (szBnf (ts, ns, own, ps))) h2 b1 b2
  rw [szR_step g] at t2
  simp only [g, decide_false, cond_false, t2, Option.bind_some]
  by_cases g' : szR 1048576 (szBnf (ts, ns, own, ps) + szWordS ws) < 0
  · simp only [g', decide_true, cond_true]
  have g2 := szR_nn g'
  have z1 : szBnf (ts, ns, own, ps) ≤ 1048576 := by omega
  have z2 : szWordS ws ≤ 1048576 := by omega
  have hx : ∀ w ∈ ws, w.2.1.size ≤ 1048576 := fun w hw => by
    have := totWord_mem hw
    unfold szWordS at z2
    unfold szWord at this
    omega
  have e1 := toBnf (ts, ns, own, ps) z1
  have e2 := eqBnf (ts, ns, own, ps) z1
  have e3 := toWordS ws z2
  have e4 := eqWordS ws z2
  have hc : cntBnf (ts, ns, own, ps) ≤ 10 * 1048576 ∧ cntWordS ws ≤ 10 * 1048576 := by
    have q1 : ∀ l : List TermD, cntTermS l = 3 * l.length := fun l => by induction l with | nil => rfl | cons x l ih => simp only [cntTermS, cntTerm, ih, List.length_cons]; omega
    have q2 : ∀ l : List ProdD, cntProdS l ≤ 4 * l.length + totProd l := fun l => by induction l with | nil => simp [cntProdS] | cons x l ih => simp only [cntProdS, cntProd, totProd, szProd, List.length_cons]; omega
    have q3 : ∀ l : List WordD, cntWordS l = 6 * l.length := fun l => by induction l with | nil => rfl | cons x l ih => simp only [cntWordS, cntWord, ih, List.length_cons]; omega
    have := q2 ps
    simp only [cntBnf, q1, q3]
    unfold szBnf szTermS szStringS szProdS at z1
    unfold szWordS at z2
    simp only at z1 ⊢
    omega
  have m1 := mrBnf (ts, ns, own, ps) 1 z1 (by omega) (by simp only [cntBnf] at hc; simp only; omega)
  simp only at e1 e2 m1
  have z1' := z1
  have m2 := mrWordS ws (1 + ((cntTermS ts : Nat) : Int) + ((ns.length : Nat) : Int) + ((cntProdS ps : Nat) : Int)) z2 (by omega) (by simp only [cntBnf] at hc; omega)
  have n1 : ¬ (1 + ((cntTermS ts : Nat) : Int) + ((ns.length : Nat) : Int) + ((cntProdS ps : Nat) : Int) + ((cntWordS ws : Nat) : Int) < 0) := by omega
  obtain ⟨l1, l2⟩ := teV_len ts ns own ps ws
  have es := te_spec ts ns own ps ws hx
  have ei := te_impl ts ns own ps ws hx
  generalize teV ts ns own ps ws = v at es ei l1 l2
  obtain ⟨v1, v2, c⟩ := v
  simp only at es ei l1 l2
  have k1 := s26 v1 1 (by omega) (by omega) (by omega)
  have k2 := s26 v2 (1 + (v1.length : Int)) (by omega) (by omega) (by omega)
  have k3 := s28 v1.length 1 (by omega) (by omega) (by omega)
  have k4 := s28 v2.length (1 + (v1.length : Int)) (by omega) (by omega) (by omega)
  have n2 : ¬ (1 + (v1.length : Int) < 0) := by omega
  have n3 : ¬ (1 + (v1.length : Int) + (v2.length : Int) < 0) := by omega
  simp only [g', decide_false, cond_false, e1, e2, e3, e4, Option.bind_some, asRoL_map2 asRo_Term, asRoL_map2 asRo_sv, asRoL_map2 asRo_Prod, asRoL_map2 asRo_Word, asRoL_map asRo_iv, es, ei, noRoL_map noRo_iv, Bool.and_self, cond_true,
    s24 v1 (by omega), s24 v2 (by omega), Bool.not_true, decide_true, m1, m2, n1, n2, n3, k1, k2, k3, k4, asRo_marks]
theorem lawTerminals : ∀ xs, FitsL ctx [ty_laws_Bnf, ty_S_laws_Word] xs → ∃ k, vcall ctx k n_l_FnExactTerminals xs [] = some ([.bool true], []) := by
  intro xs h
  obtain ⟨x, r, rfl, h1, h⟩ := h.cons'
  obtain ⟨y, r, rfl, h2, h⟩ := h.cons'
  obtain rfl := h.nil'
  obtain ⟨⟨ts, ns, own, ps⟩, rfl, w1⟩ := fitBnf h1
  obtain ⟨ys, rfl, l, q⟩ := h2.slice' (sz := 6) (e := ty_laws_Word) (by kernel_rfl)
  obtain ⟨ws, rfl, w2⟩ := fitWordS q
  rw [List.length_map] at l
  exact law_of (S := sgl_FnExactTerminals) (a := (ts.map avTerm, ns.map sv, own, ps.map avProd, ws.map avWord)) (lawTe ts ns own ps ws w1 ⟨l, w2⟩) rfl rfl
end Go.Proofs.Ytmbnloccmnclnaa
