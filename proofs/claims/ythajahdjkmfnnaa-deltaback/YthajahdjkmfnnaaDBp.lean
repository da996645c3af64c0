import Derived.Test.YthajahdjkmfnnaaDBx10
import Derived.Test.YthajahdjkmfnnaaDBo
import Derived.Deep.DeepMust
import Derived.Deep.DeepFit
import Derived.Outline
import Derived.Deep.Slices
import Derived.Deep.OwnShut
import Derived.ProofKit
import Derived.OpenShut
import Derived.SizedLaws
import Derived.StillTailTactics
import Derived.Deep.QuietTactic
import Derived.BigQuiet
namespace Go.Proofs.Ythajahdjkmfnnaa.DB
open Go.RowKit Go.Proofs.YthajahdjkmfnnaaW.PrintWords Go.Proofs.YthajahdjkmfnnaaW.PrintLast Go.Proofs.YthajahdjkmfnnaaW.PrintMore
attribute [local go_sem] max2_int min2_int max_two min_two max_three min_three max_four min_four   -- for this text's walks alone
set_option linter.unusedVariables false
set_option linter.unusedSimpArgs false
theorem wrap64_id (n : Int) (h : -9223372036854775808 ≤ n ∧ n ≤ 9223372036854775807) : wrap64 n = n := by unfold wrap64; omega
theorem few06_l (l : List S332) (hg : ∀ x ∈ l, x.f1.length * 1 < 140737488355328) : ∀ (m n k : Nat) (s : Int), l.length = n + m → l.length ≤ 40 → 0 ≤ s → s ≤ 5000 → m < k → ∃ b, polyglotlaw06_Few.l0 k l s (n : Int) = some b
  | m, n, 0, s, _, _, _, _, hk => by omega
  | 0, n, k + 1, s, hl, hc, h0, h1, hk => by
    refine ⟨true, ?_⟩
    unfold polyglotlaw06_Few.l0
    rw [if_neg (by omega)]
  | m + 1, n, k + 1, s, hl, hc, h0, h1, hk => by
    have hlt : n < l.length := by omega
    have hx : ((rd_T332 l (n : Int)).f1).length * 1 < 140737488355328 := by
      apply hg
      simp only [rd_T332, Int.toNat_natCast, List.getD_eq_getElem?_getD, List.getElem?_eq_getElem hlt, Option.getD_some]
      exact List.getElem_mem hlt
    unfold polyglotlaw06_Few.l0
    rw [if_pos (by omega), if_pos (by omega)]
    have e1 : wrap64 (s + (((rd_T332 l (n : Int)).f1).length : Int)) = s + (((rd_T332 l (n : Int)).f1).length : Int) := wrap64_id _ ⟨by omega, by omega⟩
    have e2 : wrap64 ((n : Int) + 1) = ((n + 1 : Nat) : Int) := by rw [wrap64_id _ ⟨by omega, by omega⟩]; omega
    rw [e1, e2]
    by_cases hb : s + (((rd_T332 l (n : Int)).f1).length : Int) > 5000
    · exact ⟨false, by rw [if_pos hb]⟩
    · rw [if_neg hb]
      exact few06_l l hg m (n + 1) k _ (by omega) hc (by omega) (by omega) (by omega)
theorem few06 (l : List S332) (hg : ∀ x ∈ l, x.f1.length * 1 < 140737488355328) (k : Nat) (hk : 41 ≤ k) : ∃ b, polyglotlaw06_Few.f k l = some b := by
  unfold polyglotlaw06_Few.f
  by_cases h : (l.length : Int) > 40
  · exact ⟨false, by rw [if_pos h]⟩
  · rw [if_neg h]
    exact few06_l l hg l.length 0 k 0 (by omega) (by omega) (by omega) (by omega) (by omega)
theorem few08_l (l : List S31) (hg : ∀ x ∈ l, ∀ y ∈ x.f5, y.f1.length * 1 < 140737488355328) : ∀ (m n k : Nat), l.length = n + m → l.length ≤ 20 → m + 41 < k → ∃ b, polyglotlaw08_Few.l0 k l (n : Int) = some b
  | m, n, 0, _, _, hk => by omega
  | 0, n, k + 1, hl, hc, hk => by
    refine ⟨true, ?_⟩
    unfold polyglotlaw08_Few.l0
    rw [if_neg (by omega)]
  | m + 1, n, k + 1, hl, hc, hk => by
    have hlt : n < l.length := by omega
    have hx : rd_T31 l (n : Int) ∈ l := by
      simp only [rd_T31, Int.toNat_natCast, List.getD_eq_getElem?_getD, List.getElem?_eq_getElem hlt, Option.getD_some]
      exact List.getElem_mem hlt
    unfold polyglotlaw08_Few.l0
    rw [if_pos (by omega), if_pos (by omega)]
    obtain ⟨b, hb⟩ := few06 (rd_T31 l (n : Int)).f5 (hg _ hx) k (by omega)
    have e2 : wrap64 ((n : Int) + 1) = ((n + 1 : Nat) : Int) := by rw [wrap64_id _ ⟨by omega, by omega⟩]; omega
    rw [hb, Option.bind_some, e2]
    by_cases hbt : b = true
    · rw [if_pos hbt]
      exact few08_l l hg m (n + 1) k (by omega) hc (by omega)
    · exact ⟨false, by rw [if_neg hbt]⟩
theorem few08 (l : List S31) (hg : ∀ x ∈ l, ∀ y ∈ x.f5, y.f1.length * 1 < 140737488355328) (k : Nat) (hk : 63 ≤ k) : ∃ b, polyglotlaw08_Few.f k l = some b := by
  unfold polyglotlaw08_Few.f
  by_cases h : (l.length : Int) > 20
  · exact ⟨false, by rw [if_pos h]⟩
  · rw [if_neg h]
    exact few08_l l hg l.length 0 k (by omega) (by omega) (by omega)
theorem small_of {l : List S332} (hg : good29 l) : smallB l = true := by
  obtain ⟨h1, h2⟩ := hg
  simp only [smallB, Bool.and_eq_true, decide_eq_true_eq, List.all_eq_true]
  exact ⟨by omega, fun x hx => by have := (h2 x hx).2.1; omega⟩
/-! what laws share -/
theorem few08_len {k : Nat} {l : List S31} (h : polyglotlaw08_Few.f k l = some true) : l.length ≤ 20 := by
  unfold polyglotlaw08_Few.f at h
  split at h
  · simp at h
  · omega
theorem smallR_of {l : List S31} (hg : good22 l) (hl : l.length < 1954687338268) : smallR l = true := by
  simp only [smallR, Bool.and_eq_true, decide_eq_true_eq, List.all_eq_true]
  exact ⟨hl, fun x hx => small_of (hg.2 x hx).2.2.2.2.2⟩
theorem sorted_rising : ∀ (l : List S31) (last : Int), whr stepS last l = l.length → (∀ x ∈ l, last < x.f0 ∧ recV x = true) ∧ Rising l
  | [], _, _ => ⟨(fun x hx => by cases hx), List.Pairwise.nil⟩
  | x :: xs, last, h => by
    rw [whr] at h
    cases hb : (stepS last x).1
    · rw [if_neg (by simp [hb])] at h
      have hn := hb
      simp only [stepS, Bool.or_eq_false_iff, Bool.not_eq_false', decide_eq_false_iff_not] at hn
      obtain ⟨h1, h2⟩ := sorted_rising xs x.f0 (by simpa [stepS] using h)
      refine ⟨fun y hy => ?_, List.pairwise_cons.2 ⟨fun y hy => (h1 y hy).1, h2⟩⟩
      rcases List.mem_cons.1 hy with rfl | hy
      · exact ⟨by omega, hn.1⟩
      · exact ⟨by have := (h1 y hy).1; omega, (h1 y hy).2⟩
    · rw [if_pos hb] at h
      simp at h
theorem rising_of {l : List S31} (h : sortedB l = true) : Rising l := (sorted_rising l (-1) (of_decide_eq_true h)).2
/-- Rounds that are enough to compare. -/
def bigQ (l : List S31) : Nat := l.foldr (fun x n => max (2 * x.f5.length + bigB x.f5 + 2) n) 0
theorem bigQ_le {l : List S31} : ∀ x ∈ l, 2 * x.f5.length + bigB x.f5 + 2 ≤ bigQ l := by
  induction l with
  | nil => intro x hx; cases hx
  | cons y l ih =>
    intro x hx
    simp only [bigQ, List.foldr_cons]
    rcases List.mem_cons.1 hx with rfl | hx
    · exact Nat.le_max_left _ _
    · exact Nat.le_trans (ih x hx) (Nat.le_max_right _ _)
theorem alike_f (x y : S31) (hx : smallB x.f5 = true) (k : Nat) (hk : 2 * x.f5.length + bigB x.f5 + 2 ≤ k) : polyglotlaw08_Alike.f k x.f0 x.f1 x.f2 x.f3.f0 x.f3.f1 x.f4 x.f5 y.f0 y.f1 y.f2 y.f3.f0 y.f3.f1 y.f4 y.f5 = some (decide (x = y)) := by
  cases x with | mk a0 a1 a2 a3 a4 a5 => cases y with | mk b0 b1 b2 b3 b4 b5 =>
  cases a3 with | mk a30 a31 => cases b3 with | mk b30 b31 =>
  unfold polyglotlaw08_Alike.f
  dsimp only at hx hk ⊢
  rw [bag_Same_f a5 b5 hx k hk]
  simp only [S31.mk.injEq, S28.mk.injEq]
  by_cases h0 : a0 = b0
  · by_cases h1 : a1 = b1
    · by_cases h2 : a2 = b2
      · by_cases h3 : a30 = b30
        · by_cases h4 : a31 = b31
          · by_cases h5 : a4 = b4
            · simp [h0, h1, h2, h3, h4, h5]
            · simp [h0, h1, h2, h3, h4, h5]
          · simp [h0, h1, h2, h3, h4]
        · simp [h0, h1, h2, h3]
      · simp [h0, h1, h2]
    · simp [h0, h1]
  · simp [h0]
theorem rdT31_get {l : List S31} {i : Nat} (h : i < l.length) : rd_T31 l (i : Int) = l[i] := by simp [rd_T31, List.getD_eq_getElem?_getD, List.getElem?_eq_getElem h]
theorem allalike_l0 (a b : List S31) (ha : smallR a = true) (hlen : a.length = b.length) : ∀ (d i : Nat) (k : Nat), i + d = a.length → d + bigQ a + 1 ≤ k → polyglotlaw08_AllAlike.l0 k a b (i : Int) = some (decide (a.drop i = b.drop i)) := by
  have hl : a.length < 1954687338268 := by simp only [smallR, Bool.and_eq_true, decide_eq_true_eq] at ha; exact ha.1
  intro d
  induction d with
  | zero =>
    intro i k hi hk
    obtain ⟨k, rfl⟩ : ∃ m, k = m + 1 := ⟨k - 1, by omega⟩
    simp only [polyglotlaw08_AllAlike.l0]
    rw [if_neg (by omega), List.drop_eq_nil_of_le (by omega), List.drop_eq_nil_of_le (by omega)]
    rfl
  | succ d ih =>
    intro i k hi hk
    obtain ⟨k, rfl⟩ : ∃ m, k = m + 1 := ⟨k - 1, by omega⟩
    have hm : rd_T31 a (i : Int) ∈ a := by rw [rdT31_get (show i < a.length by omega)]; exact List.getElem_mem _
    have hq := bigQ_le _ hm
    simp only [polyglotlaw08_AllAlike.l0]
    rw [if_pos (by omega), if_pos (by omega), if_pos (by omega), alike_f _ _ (smallR_mem ha _ hm) k (by omega)]
    have hw : wrap64 ((i : Int) + 1) = ((i + 1 : Nat) : Int) := by rw [w64 (by omega) (by omega)]; omega
    rw [hw, drop_rd a i (by omega), drop_rd b i (by omega)]
    simp only [Option.bind_some, List.cons.injEq]
    by_cases h : rd_T31 a (i : Int) = rd_T31 b (i : Int)
    · rw [if_pos (decide_eq_true h), ih (i + 1) k (by omega) (by omega)]
      simp [h]
    · rw [if_neg (by simpa using h)]
      simp [h]
theorem allalike_f (a b : List S31) (ha : smallR a = true) (k : Nat) (hk : a.length + bigQ a + 1 ≤ k) : polyglotlaw08_AllAlike.f k a b = some (decide (a = b)) := by
  unfold polyglotlaw08_AllAlike.f
  by_cases h : a.length = b.length
  · rw [if_pos (by omega)]
    have := allalike_l0 a b ha h a.length 0 k (by omega) (by omega)
    simpa using this
  · rw [if_neg (by omega)]
    have : ¬ a = b := fun e => h (by rw [e])
    simp [this]
theorem pairsF_len : ∀ (k : Nat) (a b : List S31), (pairsF k a b).length ≤ k
  | 0, _, _ => by simp [pairsF]
  | k + 1, a, b => by
    unfold pairsF
    split
    · simp
    · have := pairsF_len k (tlIf (xOf a b) a) (tlIf (yOf a b) b)
      simp; omega
theorem side_len {τ : Type} (E : Option S31 → Option S31 → Option τ) (a b : List S31) : (sideP E a b).length ≤ a.length + b.length :=
  Nat.le_trans (List.length_filterMap_le _ _) (pairsF_len _ _ _)
theorem smallR_mk {l : List S31} (hl : l.length < 1954687338268) (h : ∀ x ∈ l, smallB x.f5 = true) : smallR l = true := by
  simp only [smallR, Bool.and_eq_true, decide_eq_true_eq, List.all_eq_true]
  exact ⟨hl, h⟩
theorem over_small {a d : List S31} (ha : Rising a) (hd : Rising d) (sa : smallR a = true) (sd : smallR d = true) (hl : a.length + d.length < 1954687338268) : smallR (sideP overE a d) = true :=
  smallR_mk (by have := side_len overE a d; omega) (fun x hx => by
    rcases (over_mem ha hd x).1 hx with h | h
    · exact smallR_mem sd x h
    · exact smallR_mem sa x h.1)
theorem diff_small {a n : List S31} (ha : Rising a) (hn : Rising n) (sn : smallR n = true) (hl : a.length + n.length < 1954687338268) : smallR (sideP diffE a n) = true :=
  smallR_mk (by have := side_len diffE a n; omega) (fun x hx => smallR_mem sn x ((diff_mem ha hn x).1 hx).1)
theorem gone_eq {a n : List S31} (ha : sortedB a = true) (hn : sortedB n = true) (hl : a.length + n.length < 1954687338268) : delta_Gone.f a n = some (sideP goneE a n, true) := by
  unfold delta_Gone.f; rw [ha, hn]; simp [hl]
theorem diff_eq {a n : List S31} (ha : sortedB a = true) (hn : sortedB n = true) (sa : smallR a = true) (sn : smallR n = true) (hl : a.length + n.length < 1954687338268) : delta_Diff.f a n = some (sideP diffE a n, true) := by
  have h := diff_small (rising_of ha) (rising_of hn) sn hl
  unfold delta_Diff.f; rw [ha, hn]; simp [hl, sa, sn, h]
theorem over_eq {a n : List S31} (ha : sortedB a = true) (hn : sortedB n = true) (sa : smallR a = true) (sn : smallR n = true) (hl : a.length + n.length < 1954687338268) : delta_Over.f a n = some (sideP overE a n, true) := by
  have h := over_small (rising_of ha) (rising_of hn) sa sn hl
  unfold delta_Over.f; rw [ha, hn]; simp [hl, sa, sn, h]
/-- Rising records that may be are sorted. -/
theorem sorted_mk : ∀ (l : List S31) (last : Int), Rising l → (∀ x ∈ l, last < x.f0 ∧ recV x = true) → whr stepS last l = l.length
  | [], _, _, _ => rfl
  | x :: xs, last, h, hv => by
    obtain ⟨h1, h2⟩ := rising_head h
    obtain ⟨h3, h4⟩ := hv x List.mem_cons_self
    have h5 : ¬ x.f0 ≤ last := by omega
    have hb : (stepS last x).1 = false := by simp [stepS, h4, h5]
    rw [whr, if_neg (by simp [hb]), show (stepS last x).2 = x.f0 from rfl, sorted_mk xs x.f0 h1 (fun y hy => ⟨h2 y hy, (hv y (List.mem_cons_of_mem _ hy)).2⟩)]
    rfl
theorem sorted_sub {l m : List S31} (hl : sortedB l = true) (hm : Rising m) (h : ∀ x ∈ m, x ∈ l) : sortedB m = true := by
  have := (sorted_rising l (-1) (of_decide_eq_true hl)).1
  exact decide_eq_true (sorted_mk m (-1) hm (fun x hx => this x (h x hx)))
theorem awake14 : polyglotlaw14_awake.f = some true := by decide +kernel
theorem j0_true (k : Nat) (hk : 1 ≤ k) (a b : List S31) (i : Int) : polyglotlaw14_DeltaBack.j0 k a b i true = some true := by
  obtain ⟨k, rfl⟩ : ∃ j, k = j + 1 := ⟨k - 1, by omega⟩
  rw [polyglotlaw14_DeltaBack.j0]
  rw [if_pos rfl, awake14]; rfl
theorem j2_true (k : Nat) (hk : 1 ≤ k) (a b d : List S31) (i : Int) : polyglotlaw14_DeltaBack.j2 k a b i d true = some true := by
  obtain ⟨k, rfl⟩ : ∃ j, k = j + 1 := ⟨k - 1, by omega⟩
  rw [polyglotlaw14_DeltaBack.j2]
  rw [if_pos rfl, awake14]; rfl
theorem j2_short (k : Nat) (a n d o : List S31) (j : Nat) (hj : j < d.length) (hd : d.length ≤ 40) (hov : delta_Over.f a (d.eraseIdx j) = some (o, true)) (hal : polyglotlaw08_AllAlike.f k o n = some false) : polyglotlaw14_DeltaBack.j2 (k + 1) a n (j : Int) d false = some true := by
  have hw : wrap64 ((j : Int) + 1) = ((j + 1 : Nat) : Int) := by rw [w64 (by omega) (by omega)]; omega
  have e : d.take j ++ d.drop (j + 1) = d.eraseIdx j := (List.eraseIdx_eq_take_drop_succ _ _).symm
  have l1 : (d.take j).length ≤ 40 := by rw [List.length_take]; omega
  have l2 : (d.drop (j + 1)).length ≤ 40 := by rw [List.length_drop]; omega
  rw [polyglotlaw14_DeltaBack.j2, if_neg (by decide), hw]
  simp only [Option.bind_some, Int.toNat_natCast, List.nil_append, List.length_nil, Nat.zero_add]
  rw [if_pos (by omega), if_pos (by omega), if_pos (by omega), if_pos (by omega), if_pos (by omega), if_pos (by omega), e, hov, Option.bind_some]
  dsimp only
  rw [if_pos rfl, hal, Option.bind_some, if_neg (by decide), awake14]
  rfl
theorem Pure.DeltaBack (a n : List S31) (i : Int) (ga : good22 a) (gn : good22 n) (hi : (Lit.int .i64 i).wf = true) : ∃ k, polyglotlaw14_DeltaBack.f k a n i = some true := by
  obtain ⟨K, hK1, hK2, hK3⟩ : ∃ K, 100 ≤ K ∧ (sideP overE a (sideP diffE a n)).length + bigQ (sideP overE a (sideP diffE a n)) + 10 ≤ K ∧ (sideP overE a ((sideP diffE a n).eraseIdx i.toNat)).length + bigQ (sideP overE a ((sideP diffE a n).eraseIdx i.toNat)) + 10 ≤ K :=
    ⟨100 + ((sideP overE a (sideP diffE a n)).length + bigQ (sideP overE a (sideP diffE a n)) + 10) + ((sideP overE a ((sideP diffE a n).eraseIdx i.toNat)).length + bigQ (sideP overE a ((sideP diffE a n).eraseIdx i.toNat)) + 10), by omega, by omega, by omega⟩
  refine ⟨K, ?_⟩
  obtain ⟨f, hf⟩ := few08 a (fun x hx y hy => ((ga.2 x hx).2.2.2.2.2.2 y hy).2.1) K (by omega)
  obtain ⟨f2, hf2⟩ := few08 n (fun x hx y hy => ((gn.2 x hx).2.2.2.2.2.2 y hy).2.1) K (by omega)
  unfold polyglotlaw14_DeltaBack.f
  rw [hf, Option.bind_some]
  cases f
  · rw [if_neg (by decide), j0_true K (by omega)]
  rw [if_pos rfl, hf2, Option.bind_some]
  cases f2
  · rw [if_neg (by decide), j0_true K (by omega)]
  rw [if_pos rfl]
  simp only [rec_Sorted.f, Option.bind_some]
  cases sa : sortedB a
  · rw [if_neg (by decide), j0_true K (by omega)]
  rw [if_pos rfl]
  cases sn : sortedB n
  · rw [Bool.not_false, j0_true K (by omega)]
  have la := few08_len hf
  have ln := few08_len hf2
  have ra := rising_of sa
  have rn := rising_of sn
  have ma := smallR_of ga (by omega)
  have mn := smallR_of gn (by omega)
  have rd := diff_rising ra rn
  have md := diff_small ra rn mn (by omega)
  have ldl := side_len diffE a n
  have sd : sortedB (sideP diffE a n) = true := sorted_sub sn rd (fun x hx => ((diff_mem ra rn x).1 hx).1)
  have mo := over_small ra rd ma md (by omega)
  obtain ⟨k, rfl⟩ : ∃ j, K = j + 3 := ⟨K - 3, by omega⟩
  rw [polyglotlaw14_DeltaBack.j0]
  rw [Bool.not_true, if_neg (by decide), gone_eq sa sn (by omega), Option.bind_some]
  dsimp only
  rw [if_pos rfl]
  by_cases hg : (sideP goneE a n).length = 0
  rotate_left
  · rw [if_pos (by omega), awake14]; rfl
  rw [if_neg (by omega), diff_eq sa sn ma mn (by omega), Option.bind_some]
  dsimp only
  rw [over_eq sa sd ma md (by omega), Option.bind_some]
  dsimp only
  rw [if_pos rfl, if_pos rfl, allalike_f _ _ mo _ (by omega), Option.bind_some]
  rw [over_diff ra rn (List.eq_nil_of_length_eq_zero hg)]
  simp only [decide_true, Bool.not_true]
  rw [polyglotlaw14_DeltaBack.j1]
  rw [if_neg (by decide)]
  by_cases h0 : i < 0
  · rw [if_pos h0, j2_true _ (by omega)]
  rw [if_neg h0]
  by_cases h1 : i ≥ ((sideP diffE a n).length : Int)
  · rw [decide_eq_true h1, j2_true _ (by omega)]
  rw [decide_eq_false h1]
  obtain ⟨j, rfl⟩ : ∃ j : Nat, i = (j : Int) := ⟨i.toNat, by omega⟩
  simp only [Int.toNat_natCast] at hK3
  clear h0
  have hj : j < (sideP diffE a n).length := by omega
  have re : Rising ((sideP diffE a n).eraseIdx j) := rd.sublist (List.eraseIdx_sublist _ _)
  have le : ((sideP diffE a n).eraseIdx j).length ≤ (sideP diffE a n).length := (List.eraseIdx_sublist _ _).length_le
  have se : sortedB ((sideP diffE a n).eraseIdx j) = true := sorted_sub sd re (fun x hx => List.mem_of_mem_eraseIdx hx)
  have me : smallR ((sideP diffE a n).eraseIdx j) = true := smallR_mk (by omega) (fun x hx => smallR_mem md x (List.mem_of_mem_eraseIdx hx))
  have moe := over_small ra re ma me (by omega)
  refine j2_short _ a n _ _ j hj (by omega) (over_eq sa se ma me (by omega)) ?_
  rw [allalike_f _ _ moe _ (by omega), decide_eq_false (over_short ra rn j hj)]
end Go.Proofs.Ythajahdjkmfnnaa.DB
