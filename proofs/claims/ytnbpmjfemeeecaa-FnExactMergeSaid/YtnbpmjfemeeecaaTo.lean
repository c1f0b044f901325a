/- TreeOK and TreeSize: how many nodes and how deep, in two ways of counting; where the tree is not too large. -/
import Derived.Test.YtnbpmjfemeeecaaTk
namespace Go.Proofs.Ytnbpmjfemeeecaa
open Go.VK AVal Tr
mutual
def cnt : Tr → Nat | .mk _ _ _ ks => 1 + cnts ks
def cnts : List Tr → Nat | [] => 0 | k :: ks => cnt k + cnts ks
end
mutual
def dep : Tr → Nat | .mk _ _ _ ks => 1 + deps ks
def deps : List Tr → Nat | [] => 0 | k :: ks => max (dep k) (deps ks)
end
mutual
def rgt : Tr → Bool | .mk n t l ks => nmOK n && ((bif l then decide (ks.length = 0) && decide (t.size ≤ 200) else decide (t = ByteArray.mk #[])) && rgts ks)
def rgts : List Tr → Bool | [] => true | k :: ks => rgt k && rgts ks
end
mutual
theorem cnt_sz : ∀ t : Tr, cnt t ≤ 1 + sz t
  | .mk n t b ks => by simp only [cnt, sz]; have := cnts_sz ks; omega
theorem cnts_sz : ∀ ks : List Tr, cnts ks ≤ ks.length + szs ks
  | [] => by simp [cnts]
  | k :: ks => by simp only [cnts, szs, List.length_cons]; have := cnt_sz k; have := cnts_sz ks; omega
end
mutual
theorem dep_cnt : ∀ t : Tr, dep t ≤ cnt t
  | .mk n t b ks => by simp only [cnt, dep]; have := deps_cnts ks; omega
theorem deps_cnts : ∀ ks : List Tr, deps ks ≤ cnts ks
  | [] => by simp [cnts, deps]
  | k :: ks => by simp only [cnts, deps]; have := dep_cnt k; have := deps_cnts ks; omega
end
theorem cnt_pos (t : Tr) : 1 ≤ cnt t := by cases t; simp only [cnt]; omega
theorem dep_pos (t : Tr) : 1 ≤ dep t := by cases t; simp only [dep]; omega
/-! The reference's room -/
mutual
theorem s65 : ∀ (t : Tr) (r d : Int), sz t ≤ 9000000000000 → 0 ≤ r → r ≤ 1000 → 0 ≤ d → d ≤ 60 → ∃ v, Fs_l01Room t.name t.text t.leaf (avs t.kids) r d = some v ∧ (0 ≤ v ↔ (cnt t : Int) ≤ r ∧ (dep t : Int) ≤ d) ∧ (0 ≤ v → v = r - cnt t) ∧ -1 ≤ v
  | .mk n t b ks, r, d, hs, h1, h2, h3, h4 => by
    simp only [sz] at hs
    by_cases g : d < 1
    · refine ⟨-1, us_l01Room _ _ _ _ _ _ (by simp [g]), ⟨fun h => by omega, fun h => ?_⟩, fun h => by omega, by omega⟩
      have := dep_pos (.mk n t b ks)
      omega
    · obtain ⟨v, e, a1, a2, a3⟩ := s65_0 n t b [] ks (r - 1) d (by simp; omega) (by omega) (by omega) (by omega) (by omega) h4
      simp only [List.nil_append, List.length_nil, Int.natCast_zero] at e
      refine ⟨v, us_l01Room _ _ _ _ _ _ ?_, ?_, ?_, a3⟩
      · have ew : IntKind.wrap .i64 (r - 1) = r - 1 := wrap64 (by omega) (by omega)
        simp only [g, decide_false, cond_false, ew, Tr.name, Tr.text, Tr.leaf, Tr.kids, e, Option.bind_some]
      · simp only [cnt, dep]; rw [a1]; constructor <;> intro h <;> omega
      · intro h; have := a2 h; simp only [cnt]; omega
theorem s65_0 : ∀ (n t : ByteArray) (b : Bool) (pre ks : List Tr) (r d : Int), (pre ++ ks).length ≤ 9000000000000 → szs ks ≤ 9000000000000 → -1 ≤ r → r ≤ 1000 → 1 ≤ d → d ≤ 60 → ∃ v, Ls_l01Room_0 r d (pre.length : Int) n t b (avs (pre ++ ks)) = some v ∧ (0 ≤ v ↔ (cnts ks : Int) ≤ r ∧ (deps ks : Int) ≤ d - 1) ∧ (0 ≤ v → v = r - cnts ks) ∧ -1 ≤ v
  | n, t, b, pre, [], r, d, hl, hs, h1, h2, h3, h4 => by
    refine ⟨r, ls_l01Room_0 _ _ _ _ _ _ _ (by simp [avs_len]), ?_, ?_, h1⟩
    · simp only [cnts, deps]; omega
    · simp only [cnts]; omega
  | n, t, b, pre, k :: ks, r, d, hl, hs, h1, h2, h3, h4 => by
    simp only [szs] at hs
    have hm := mid_lt pre ks k
    have hp := cnt_pos k
    by_cases g : 0 ≤ r
    · obtain ⟨v1, e1, b1, b2, b3⟩ := s65 k r (d - 1) (by omega) g h2 (by omega) (by omega)
      have hv : v1 ≤ 1000 := by
        by_cases q : 0 ≤ v1
        · have := b2 q; omega
        · omega
      obtain ⟨v, e, a1, a2, a3⟩ := s65_0 n t b (pre ++ [k]) ks v1 d (by simpa using hl) (by omega) b3 hv h3 h4
      simp only [List.append_assoc, List.cons_append, List.nil_append, List.length_append, List.length_cons, List.length_nil, Nat.zero_add] at e
      refine ⟨v, ls_l01Room_0 _ _ _ _ _ _ _ ?_, ?_, ?_, a3⟩
      · have ew : IntKind.wrap .i64 (d - 1) = d - 1 := wrap64 (by omega) (by omega)
        simp only [Int.toNat_natCast, avs_get, av_shape, av_0, av_1, av_2, av_3, avs_len, dlt_true hm, d0_true, Bool.and_self, wrap_succ hm (by omega), cond_true, g, decide_true, ew, e1, Option.bind_some, e]
      · simp only [cnts, deps]
        by_cases q : 0 ≤ v1
        · have q1 := b1.1 q; have q2 := b2 q
          rw [a1]; constructor <;> intro h <;> omega
        · constructor
          · intro h; have := a2 h; have := a1.1 h; omega
          · intro h; exfalso; exact q (b1.2 (by omega))
      · intro h
        have z := a2 h
        by_cases q : 0 ≤ v1
        · have := b2 q; simp only [cnts]; omega
        · have := a1.1 h; omega
    · refine ⟨r, ls_l01Room_0 _ _ _ _ _ _ _ ?_, ?_, fun h => absurd h g, h1⟩
      · simp only [avs_len, dlt_true hm, cond_true, g, decide_false, cond_false]
      · simp only [cnts]; constructor <;> intro h <;> omega
end
mutual
theorem s66 : ∀ t : Tr, sz t ≤ 9000000000000 → Fs_l01Right t.name t.text t.leaf (avs t.kids) = some (rgt t)
  | .mk n t b ks, hs => by
    simp only [sz] at hs
    refine us_l01Right _ _ _ _ ?_
    have e := s66_0 n t b [] ks (by simp; omega) (by omega)
    simp only [List.nil_append, List.length_nil, Int.natCast_zero] at e
    have e0 : ((0 : Int) < (ks.length : Int)) ↔ ¬ ks.length = 0 := by omega
    have e1 : ((200 : Int) < (t.size : Int)) ↔ ¬ t.size ≤ 200 := by omega
    simp only [Tr.name, Tr.text, Tr.leaf, Tr.kids, s108, Option.bind_some, e, avs_len, rgt, e0, e1]
    by_cases g1 : nmOK n = true
    · cases b
      · by_cases g2 : t = ByteArray.mk #[]
        · by_cases g3 : rgts ks = true <;> simp [g1, g2, g3]
        · simp [g1, g2]
      · by_cases g2 : ks.length = 0
        · by_cases g4 : t.size ≤ 200
          · by_cases g3 : rgts ks = true <;> simp [g1, g2, g3, g4]
          · simp [g1, g2, g4]
        · simp [g1, g2]
    · simp [g1]
theorem s66_0 : ∀ (n t : ByteArray) (b : Bool) (pre ks : List Tr), (pre ++ ks).length ≤ 9000000000000 → szs ks ≤ 9000000000000 → Ls_l01Right_0 (pre.length : Int) n t b (avs (pre ++ ks)) = some (if rgts ks then .inr () else .inl false)
  | n, t, b, pre, [], hl, hs => by
    refine ls_l01Right_0 _ _ _ _ _ ?_
    simp [avs_len, rgts]
  | n, t, b, pre, k :: ks, hl, hs => by
    simp only [szs] at hs
    have hm := mid_lt pre ks k
    have e := s66_0 n t b (pre ++ [k]) ks (by simpa using hl) (by omega)
    simp only [List.append_assoc, List.cons_append, List.nil_append, List.length_append, List.length_cons, List.length_nil, Nat.zero_add] at e
    refine ls_l01Right_0 _ _ _ _ _ ?_
    simp only [Int.toNat_natCast, avs_get, av_shape, av_0, av_1, av_2, av_3, avs_len, dlt_true hm, d0_true, Bool.and_self, wrap_succ hm (by omega), cond_true, s66 k (by omega), Option.bind_some, e, rgts]
    by_cases g : rgt k = true <;> simp [g]
end
mutual
theorem s68 : ∀ (t : Tr) (d n m : Int), sz t ≤ 9000000000000 → 1 ≤ d → d ≤ 61 → 0 ≤ n → n ≤ 1000 → 0 ≤ m → m ≤ 60 →
    ∃ a b, Fi_measure t.name t.text t.leaf (avs t.kids) d n m = some (decide (n + cnt t ≤ 1000) && (decide (d + dep t ≤ 61) && rgt t), a, b) ∧ (n + cnt t ≤ 1000 → d + dep t ≤ 61 → rgt t = true → a = n + cnt t ∧ b = max m (d + dep t - 1))
  | .mk nm tx lf ks, d, n, m, hs, h1, h2, h3, h4, h5, h6 => by
    simp only [sz] at hs
    have ew : IntKind.wrap .i64 (n + 1) = n + 1 := wrap64 (by omega) (by omega)
    have em : (if d > m then d else m) = max m d := by split <;> omega
    have hd : (dep (.mk nm tx lf ks) : Int) = 1 + deps ks := by simp only [dep]; omega
    have hc : (cnt (.mk nm tx lf ks) : Int) = 1 + cnts ks := by simp only [cnt]; omega
    by_cases g1 : 1000 < n + 1
    · refine ⟨n + 1, max m d, ui_measure _ _ _ _ _ _ _ ?_, fun h => by omega⟩
      have : ¬ n + (cnt (.mk nm tx lf ks) : Int) ≤ 1000 := by omega
      simp only [ew, em, g1, this, decide_true, decide_false, cond_true, Bool.false_and]
    by_cases g2 : 60 < d
    · refine ⟨n + 1, max m d, ui_measure _ _ _ _ _ _ _ ?_, fun _ h => by omega⟩
      have : ¬ d + (dep (.mk nm tx lf ks) : Int) ≤ 61 := by omega
      simp only [ew, em, g1, g2, this, decide_true, decide_false, cond_true, cond_false, Bool.false_and, Bool.and_false]
    by_cases g3 : nmOK nm = true
    · cases lf
      · by_cases g4 : tx = ByteArray.mk #[]
        · subst g4
          obtain ⟨a, b, z, e, e2⟩ := s68_0 [] ks d (n + 1) (max m d) (by simp; omega) (by omega) h1 (by omega) (by omega) (by omega) (by omega) (by omega)
          simp only [List.nil_append, List.length_nil, Int.natCast_zero] at e
          by_cases g5 : n + 1 + (cnts ks : Int) ≤ 1000 ∧ d + 1 + (deps ks : Int) ≤ 61 ∧ rgts ks = true
          · rw [if_pos g5] at e
            obtain ⟨x1, x2, x3⟩ := g5
            refine ⟨n + 1 + cnts ks, max (max m d) (d + deps ks), ui_measure _ _ _ _ _ _ _ ?_, fun _ _ _ => ⟨by omega, by omega⟩⟩
            have y1 : n + (cnt (.mk nm (ByteArray.mk #[]) false ks) : Int) ≤ 1000 := by omega
            have y2 : d + (dep (.mk nm (ByteArray.mk #[]) false ks) : Int) ≤ 61 := by omega
            simp only [ew, em, g1, g2, y1, y2, decide_true, decide_false, cond_true, cond_false, Tr.name, Tr.text, Tr.leaf, Tr.kids, s87, Option.bind_some, g3, Bool.not_true, avs_len, e, Sum.elim_inr, rgt, x3, Bool.and_self]
          · rw [if_neg g5] at e
            refine ⟨a, b, ui_measure _ _ _ _ _ _ _ ?_, fun y1 y2 y3 => ?_⟩
            · have : (decide (n + (cnt (.mk nm (ByteArray.mk #[]) false ks) : Int) ≤ 1000) && (decide (d + (dep (.mk nm (ByteArray.mk #[]) false ks) : Int) ≤ 61) && rgt (.mk nm (ByteArray.mk #[]) false ks))) = false := by
                rw [Bool.eq_false_iff]
                intro h
                simp only [Bool.and_eq_true, decide_eq_true_eq, rgt] at h
                exact g5 ⟨by omega, by omega, h.2.2.2.2⟩
              simp only [ew, em, g1, g2, this, decide_true, decide_false, cond_true, cond_false, Tr.name, Tr.text, Tr.leaf, Tr.kids, s87, Option.bind_some, g3, Bool.not_true, avs_len, e, Sum.elim_inl]
            · simp only [rgt, Bool.and_eq_true] at y3
              exact absurd ⟨by omega, by omega, y3.2.2⟩ g5
        · refine ⟨n + 1, max m d, ui_measure _ _ _ _ _ _ _ ?_, fun _ _ h => by simp [rgt, g4] at h⟩
          simp [ew, em, g1, g2, Tr.name, Tr.text, Tr.leaf, s87, g3, g4, rgt]
      · by_cases g4 : ks.length = 0
        · obtain rfl := List.length_eq_zero_iff.1 g4
          refine ⟨n + 1, max m d, ui_measure _ _ _ _ _ _ _ ?_, fun _ _ _ => ⟨by simp only [cnts] at hc; omega, by simp only [deps] at hd; omega⟩⟩
          have y1 : n + (cnt (.mk nm tx true []) : Int) ≤ 1000 := by simp only [cnts] at hc; omega
          have y2 : d + (dep (.mk nm tx true []) : Int) ≤ 61 := by simp only [deps] at hd; omega
          have y3 : ((tx.size : Int) ≤ 200) ↔ tx.size ≤ 200 := by omega
          simp [ew, em, g1, g2, y1, y2, y3, Tr.name, Tr.text, Tr.leaf, Tr.kids, avs, s87, g3, rgt, rgts]
        · refine ⟨n + 1, max m d, ui_measure _ _ _ _ _ _ _ ?_, fun _ _ h => by simp [rgt, g4] at h⟩
          have y3 : ¬ (ks.length : Int) = 0 := by omega
          simp only [ew, em, g1, g2, Tr.name, Tr.text, Tr.leaf, Tr.kids, avs_len, s87, g3, g4, rgt, y3, decide_false, cond_false, cond_true, Option.bind_some, Bool.not_true, Bool.false_and, Bool.and_false]
    · refine ⟨n + 1, max m d, ui_measure _ _ _ _ _ _ _ ?_, fun _ _ h => by simp [rgt, g3] at h⟩
      simp [ew, em, g1, g2, Tr.name, s87, g3, rgt]
theorem s68_0 : ∀ (pre ks : List Tr) (d n m : Int), (pre ++ ks).length ≤ 9000000000000 → szs ks ≤ 9000000000000 → 1 ≤ d → d ≤ 60 → 0 ≤ n → n ≤ 1000 → d ≤ m → m ≤ 60 →
    ∃ a b z, Li_measure_0 d (avs (pre ++ ks)) ((pre ++ ks).length : Int) (pre.length : Int) n m = some (if n + cnts ks ≤ 1000 ∧ d + 1 + deps ks ≤ 61 ∧ rgts ks = true then .inr (n + cnts ks, max m (d + deps ks)) else .inl (false, a, b)) ∧ z = ()
  | pre, [], d, n, m, hl, hs, h1, h2, h3, h4, h5, h6 => by
    refine ⟨0, 0, (), li_measure_0 _ _ _ _ _ _ ?_, rfl⟩
    have : n + ((cnts [] : Nat) : Int) ≤ 1000 ∧ d + 1 + ((deps [] : Nat) : Int) ≤ 61 ∧ rgts [] = true := ⟨by simp only [cnts]; omega, by simp only [deps]; omega, rfl⟩
    have e : max m (d + ((deps [] : Nat) : Int)) = m := by simp only [deps]; omega
    rw [if_pos this, e]
    simp [cnts]
  | pre, k :: ks, d, n, m, hl, hs, h1, h2, h3, h4, h5, h6 => by
    simp only [szs] at hs
    have hm := mid_lt pre ks k
    have hp := cnt_pos k
    have hq := dep_pos k
    have ew : IntKind.wrap .i64 (d + 1) = d + 1 := wrap64 (by omega) (by omega)
    have hc : (cnts (k :: ks) : Int) = cnt k + cnts ks := by simp only [cnts]; omega
    have hd : (deps (k :: ks) : Int) = max (dep k : Int) (deps ks : Int) := by simp only [deps]; omega
    obtain ⟨a1, b1, e1, f1⟩ := s68 k (d + 1) n m (by omega) (by omega) (by omega) h3 h4 (by omega) h6
    by_cases g : n + (cnt k : Int) ≤ 1000 ∧ d + 1 + (dep k : Int) ≤ 61 ∧ rgt k = true
    · obtain ⟨x1, x2, x3⟩ := g
      obtain ⟨rfl, rfl⟩ := f1 x1 x2 x3
      obtain ⟨a, b, z, e, _⟩ := s68_0 (pre ++ [k]) ks d (n + cnt k) (max m (d + 1 + dep k - 1)) (by simpa using hl) (by omega) h1 h2 (by omega) x1 (by omega) (by omega)
      simp only [List.append_assoc, List.cons_append, List.nil_append, List.length_append, List.length_cons, List.length_nil, Nat.zero_add] at e hm
      refine ⟨a, b, (), li_measure_0 _ _ _ _ _ _ ?_, rfl⟩
      simp only [List.length_append, List.length_cons, Int.toNat_natCast, avs_get, av_shape, av_0, av_1, av_2, av_3, avs_len, dlt_true hm, d0_true, Bool.and_self, wrap_succ hm (by simp at hl; omega), cond_true, cond_false, ew, e1, Option.bind_some, x1, x2, x3, decide_true, Bool.not_true, e]
      by_cases q : n + (cnt k : Int) + (cnts ks : Int) ≤ 1000 ∧ d + 1 + (deps ks : Int) ≤ 61 ∧ rgts ks = true
      · have q2 : n + (cnts (k :: ks) : Int) ≤ 1000 ∧ d + 1 + (deps (k :: ks) : Int) ≤ 61 ∧ rgts (k :: ks) = true := ⟨by omega, by omega, by simp only [rgts, x3, q.2.2, Bool.and_self]⟩
        rw [if_pos q, if_pos q2]
        simp only [Option.some.injEq, Sum.inr.injEq, Prod.mk.injEq]
        omega
      · have q2 : ¬ (n + (cnts (k :: ks) : Int) ≤ 1000 ∧ d + 1 + (deps (k :: ks) : Int) ≤ 61 ∧ rgts (k :: ks) = true) := by
          rintro ⟨y1, y2, y3⟩
          simp only [rgts, Bool.and_eq_true] at y3
          exact q ⟨by omega, by omega, y3.2⟩
        rw [if_neg q, if_neg q2]
    · have g2 : (decide (n + (cnt k : Int) ≤ 1000) && (decide (d + 1 + (dep k : Int) ≤ 61) && rgt k)) = false := by
        rw [Bool.eq_false_iff]
        intro h
        simp only [Bool.and_eq_true, decide_eq_true_eq] at h
        exact g h
      refine ⟨a1, b1, (), li_measure_0 _ _ _ _ _ _ ?_, rfl⟩
      have q2 : ¬ (n + (cnts (k :: ks) : Int) ≤ 1000 ∧ d + 1 + (deps (k :: ks) : Int) ≤ 61 ∧ rgts (k :: ks) = true) := by
        rintro ⟨y1, y2, y3⟩
        simp only [rgts, Bool.and_eq_true] at y3
        exact g ⟨by omega, by omega, y3.1⟩
      rw [if_neg q2]
      simp only [Int.toNat_natCast, avs_get, av_shape, av_0, av_1, av_2, av_3, avs_len, dlt_true hm, d0_true, Bool.and_self, cond_true, ew, e1, Option.bind_some, g2, Bool.not_false]
end
end Go.Proofs.Ytnbpmjfemeeecaa
