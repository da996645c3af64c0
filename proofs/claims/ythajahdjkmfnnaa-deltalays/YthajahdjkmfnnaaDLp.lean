import Derived.Test.YthajahdjkmfnnaaDLx10
import Derived.Test.YthajahdjkmfnnaaDLo
import Derived.Deep.DeepMust
import Derived.Deep.DeepFit
import Derived.Outline
import Derived.Deep.Slices
import Derived.Deep.OwnShut
import Derived.ProofKit
import Derived.OpenShut
import Derived.SizedLaws
import Derived.StillTailTactics
import Derived.Deep.QuietTactic
import Derived.BigQuiet
namespace Go.Proofs.Ythajahdjkmfnnaa.DL
open Go.RowKit Go.Proofs.YthajahdjkmfnnaaW.PrintWords Go.Proofs.YthajahdjkmfnnaaW.PrintLast Go.Proofs.YthajahdjkmfnnaaW.PrintMore
attribute [local go_sem] max2_int min2_int max_two min_two max_three min_three max_four min_four   -- for this text's walks alone
set_option linter.unusedVariables false
set_option linter.unusedSimpArgs false
theorem wrap64_id (n : Int) (h : -9223372036854775808 ≤ n ∧ n ≤ 9223372036854775807) : wrap64 n = n := by unfold wrap64; omega
theorem few06_l (l : List S332) (hg : ∀ x ∈ l, x.f1.length * 1 < 140737488355328) : ∀ (m n k : Nat) (s : Int), l.length = n + m → l.length ≤ 40 → 0 ≤ s → s ≤ 5000 → m < k → ∃ b, polyglotlaw06_Few.l0 k l s (n : Int) = some b
  | m, n, 0, s, _, _, _, _, hk => by omega
  | 0, n, k + 1, s, hl, hc, h0, h1, hk => by
    refine ⟨true, ?_⟩
    unfold polyglotlaw06_Few.l0
    rw [if_neg (by omega)]
  | m + 1, n, k + 1, s, hl, hc, h0, h1, hk => by
    have hlt : n < l.length := by omega
    have hx : ((rd_T332 l (n : Int)).f1).length * 1 < 140737488355328 := by
      apply hg
      simp only [rd_T332, Int.toNat_natCast, List.getD_eq_getElem?_getD, List.getElem?_eq_getElem hlt, Option.getD_some]
      exact List.getElem_mem hlt
    unfold polyglotlaw06_Few.l0
    rw [if_pos (by omega), if_pos (by omega)]
    have e1 : wrap64 (s + (((rd_T332 l (n : Int)).f1).length : Int)) = s + (((rd_T332 l (n : Int)).f1).length : Int) := wrap64_id _ ⟨by omega, by omega⟩
    have e2 : wrap64 ((n : Int) + 1) = ((n + 1 : Nat) : Int) := by rw [wrap64_id _ ⟨by omega, by omega⟩]; omega
    rw [e1, e2]
    by_cases hb : s + (((rd_T332 l (n : Int)).f1).length : Int) > 5000
    · exact ⟨false, by rw [if_pos hb]⟩
    · rw [if_neg hb]
      exact few06_l l hg m (n + 1) k _ (by omega) hc (by omega) (by omega) (by omega)
theorem few06 (l : List S332) (hg : ∀ x ∈ l, x.f1.length * 1 < 140737488355328) (k : Nat) (hk : 41 ≤ k) : ∃ b, polyglotlaw06_Few.f k l = some b := by
  unfold polyglotlaw06_Few.f
  by_cases h : (l.length : Int) > 40
  · exact ⟨false, by rw [if_pos h]⟩
  · rw [if_neg h]
    exact few06_l l hg l.length 0 k 0 (by omega) (by omega) (by omega) (by omega) (by omega)
theorem few08_l (l : List S31) (hg : ∀ x ∈ l, ∀ y ∈ x.f5, y.f1.length * 1 < 140737488355328) : ∀ (m n k : Nat), l.length = n + m → l.length ≤ 20 → m + 41 < k → ∃ b, polyglotlaw08_Few.l0 k l (n : Int) = some b
  | m, n, 0, _, _, hk => by omega
  | 0, n, k + 1, hl, hc, hk => by
    refine ⟨true, ?_⟩
    unfold polyglotlaw08_Few.l0
    rw [if_neg (by omega)]
  | m + 1, n, k + 1, hl, hc, hk => by
    have hlt : n < l.length := by omega
    have hx : rd_T31 l (n : Int) ∈ l := by
      simp only [rd_T31, Int.toNat_natCast, List.getD_eq_getElem?_getD, List.getElem?_eq_getElem hlt, Option.getD_some]
      exact List.getElem_mem hlt
    unfold polyglotlaw08_Few.l0
    rw [if_pos (by omega), if_pos (by omega)]
    obtain ⟨b, hb⟩ := few06 (rd_T31 l (n : Int)).f5 (hg _ hx) k (by omega)
    have e2 : wrap64 ((n : Int) + 1) = ((n + 1 : Nat) : Int) := by rw [wrap64_id _ ⟨by omega, by omega⟩]; omega
    rw [hb, Option.bind_some, e2]
    by_cases hbt : b = true
    · rw [if_pos hbt]
      exact few08_l l hg m (n + 1) k (by omega) hc (by omega)
    · exact ⟨false, by rw [if_neg hbt]⟩
theorem few08 (l : List S31) (hg : ∀ x ∈ l, ∀ y ∈ x.f5, y.f1.length * 1 < 140737488355328) (k : Nat) (hk : 63 ≤ k) : ∃ b, polyglotlaw08_Few.f k l = some b := by
  unfold polyglotlaw08_Few.f
  by_cases h : (l.length : Int) > 20
  · exact ⟨false, by rw [if_pos h]⟩
  · rw [if_neg h]
    exact few08_l l hg l.length 0 k (by omega) (by omega) (by omega)
theorem small_of {l : List S332} (hg : good29 l) : smallB l = true := by
  obtain ⟨h1, h2⟩ := hg
  simp only [smallB, Bool.and_eq_true, decide_eq_true_eq, List.all_eq_true]
  exact ⟨by omega, fun x hx => by have := (h2 x hx).2.1; omega⟩
/-! what laws share -/
theorem few08_len {k : Nat} {l : List S31} (h : polyglotlaw08_Few.f k l = some true) : l.length ≤ 20 := by
  unfold polyglotlaw08_Few.f at h
  split at h
  · simp at h
  · omega
theorem smallR_of {l : List S31} (hg : good22 l) (hl : l.length < 1954687338268) : smallR l = true := by
  simp only [smallR, Bool.and_eq_true, decide_eq_true_eq, List.all_eq_true]
  exact ⟨hl, fun x hx => small_of (hg.2 x hx).2.2.2.2.2⟩
theorem sorted_rising : ∀ (l : List S31) (last : Int), whr stepS last l = l.length → (∀ x ∈ l, last < x.f0 ∧ recV x = true) ∧ Rising l
  | [], _, _ => ⟨(fun x hx => by cases hx), List.Pairwise.nil⟩
  | x :: xs, last, h => by
    rw [whr] at h
    cases hb : (stepS last x).1
    · rw [if_neg (by simp [hb])] at h
      have hn := hb
      simp only [stepS, Bool.or_eq_false_iff, Bool.not_eq_false', decide_eq_false_iff_not] at hn
      obtain ⟨h1, h2⟩ := sorted_rising xs x.f0 (by simpa [stepS] using h)
      refine ⟨fun y hy => ?_, List.pairwise_cons.2 ⟨fun y hy => (h1 y hy).1, h2⟩⟩
      rcases List.mem_cons.1 hy with rfl | hy
      · exact ⟨by omega, hn.1⟩
      · exact ⟨by have := (h1 y hy).1; omega, (h1 y hy).2⟩
    · rw [if_pos hb] at h
      simp at h
theorem rising_of {l : List S31} (h : sortedB l = true) : Rising l := (sorted_rising l (-1) (of_decide_eq_true h)).2
/-- Rounds that are enough to compare. -/
def bigQ (l : List S31) : Nat := l.foldr (fun x n => max (2 * x.f5.length + bigB x.f5 + 2) n) 0
theorem bigQ_le {l : List S31} : ∀ x ∈ l, 2 * x.f5.length + bigB x.f5 + 2 ≤ bigQ l := by
  induction l with
  | nil => intro x hx; cases hx
  | cons y l ih =>
    intro x hx
    simp only [bigQ, List.foldr_cons]
    rcases List.mem_cons.1 hx with rfl | hx
    · exact Nat.le_max_left _ _
    · exact Nat.le_trans (ih x hx) (Nat.le_max_right _ _)
theorem alike_f (x y : S31) (hx : smallB x.f5 = true) (k : Nat) (hk : 2 * x.f5.length + bigB x.f5 + 2 ≤ k) : polyglotlaw08_Alike.f k x.f0 x.f1 x.f2 x.f3.f0 x.f3.f1 x.f4 x.f5 y.f0 y.f1 y.f2 y.f3.f0 y.f3.f1 y.f4 y.f5 = some (decide (x = y)) := by
  cases x with | mk a0 a1 a2 a3 a4 a5 => cases y with | mk b0 b1 b2 b3 b4 b5 =>
  cases a3 with | mk a30 a31 => cases b3 with | mk b30 b31 =>
  unfold polyglotlaw08_Alike.f
  dsimp only at hx hk ⊢
  rw [bag_Same_f a5 b5 hx k hk]
  simp only [S31.mk.injEq, S28.mk.injEq]
  by_cases h0 : a0 = b0
  · by_cases h1 : a1 = b1
    · by_cases h2 : a2 = b2
      · by_cases h3 : a30 = b30
        · by_cases h4 : a31 = b31
          · by_cases h5 : a4 = b4
            · simp [h0, h1, h2, h3, h4, h5]
            · simp [h0, h1, h2, h3, h4, h5]
          · simp [h0, h1, h2, h3, h4]
        · simp [h0, h1, h2, h3]
      · simp [h0, h1, h2]
    · simp [h0, h1]
  · simp [h0]
theorem rdT31_get {l : List S31} {i : Nat} (h : i < l.length) : rd_T31 l (i : Int) = l[i] := by simp [rd_T31, List.getD_eq_getElem?_getD, List.getElem?_eq_getElem h]
theorem allalike_l0 (a b : List S31) (ha : smallR a = true) (hlen : a.length = b.length) : ∀ (d i : Nat) (k : Nat), i + d = a.length → d + bigQ a + 1 ≤ k → polyglotlaw08_AllAlike.l0 k a b (i : Int) = some (decide (a.drop i = b.drop i)) := by
  have hl : a.length < 1954687338268 := by simp only [smallR, Bool.and_eq_true, decide_eq_true_eq] at ha; exact ha.1
  intro d
  induction d with
  | zero =>
    intro i k hi hk
    obtain ⟨k, rfl⟩ : ∃ m, k = m + 1 := ⟨k - 1, by omega⟩
    simp only [polyglotlaw08_AllAlike.l0]
    rw [if_neg (by omega), List.drop_eq_nil_of_le (by omega), List.drop_eq_nil_of_le (by omega)]
    rfl
  | succ d ih =>
    intro i k hi hk
    obtain ⟨k, rfl⟩ : ∃ m, k = m + 1 := ⟨k - 1, by omega⟩
    have hm : rd_T31 a (i : Int) ∈ a := by rw [rdT31_get (show i < a.length by omega)]; exact List.getElem_mem _
    have hq := bigQ_le _ hm
    simp only [polyglotlaw08_AllAlike.l0]
    rw [if_pos (by omega), if_pos (by omega), if_pos (by omega), alike_f _ _ (smallR_mem ha _ hm) k (by omega)]
    have hw : wrap64 ((i : Int) + 1) = ((i + 1 : Nat) : Int) := by rw [w64 (by omega) (by omega)]; omega
    rw [hw, drop_rd a i (by omega), drop_rd b i (by omega)]
    simp only [Option.bind_some, List.cons.injEq]
    by_cases h : rd_T31 a (i : Int) = rd_T31 b (i : Int)
    · rw [if_pos (decide_eq_true h), ih (i + 1) k (by omega) (by omega)]
      simp [h]
    · rw [if_neg (by simpa using h)]
      simp [h]
theorem allalike_f (a b : List S31) (ha : smallR a = true) (k : Nat) (hk : a.length + bigQ a + 1 ≤ k) : polyglotlaw08_AllAlike.f k a b = some (decide (a = b)) := by
  unfold polyglotlaw08_AllAlike.f
  by_cases h : a.length = b.length
  · rw [if_pos (by omega)]
    have := allalike_l0 a b ha h a.length 0 k (by omega) (by omega)
    simpa using this
  · rw [if_neg (by omega)]
    have : ¬ a = b := fun e => h (by rw [e])
    simp [this]
theorem pairsF_len : ∀ (k : Nat) (a b : List S31), (pairsF k a b).length ≤ k
  | 0, _, _ => by simp [pairsF]
  | k + 1, a, b => by
    unfold pairsF
    split
    · simp
    · have := pairsF_len k (tlIf (xOf a b) a) (tlIf (yOf a b) b)
      simp; omega
theorem side_len {τ : Type} (E : Option S31 → Option S31 → Option τ) (a b : List S31) : (sideP E a b).length ≤ a.length + b.length :=
  Nat.le_trans (List.length_filterMap_le _ _) (pairsF_len _ _ _)
theorem smallR_mk {l : List S31} (hl : l.length < 1954687338268) (h : ∀ x ∈ l, smallB x.f5 = true) : smallR l = true := by
  simp only [smallR, Bool.and_eq_true, decide_eq_true_eq, List.all_eq_true]
  exact ⟨hl, h⟩
theorem over_small {a d : List S31} (ha : Rising a) (hd : Rising d) (sa : smallR a = true) (sd : smallR d = true) (hl : a.length + d.length < 1954687338268) : smallR (sideP overE a d) = true :=
  smallR_mk (by have := side_len overE a d; omega) (fun x hx => by
    rcases (over_mem ha hd x).1 hx with h | h
    · exact smallR_mem sd x h
    · exact smallR_mem sa x h.1)
theorem diff_small {a n : List S31} (ha : Rising a) (hn : Rising n) (sn : smallR n = true) (hl : a.length + n.length < 1954687338268) : smallR (sideP diffE a n) = true :=
  smallR_mk (by have := side_len diffE a n; omega) (fun x hx => smallR_mem sn x ((diff_mem ha hn x).1 hx).1)
theorem gone_eq {a n : List S31} (ha : sortedB a = true) (hn : sortedB n = true) (hl : a.length + n.length < 1954687338268) : delta_Gone.f a n = some (sideP goneE a n, true) := by
  unfold delta_Gone.f; rw [ha, hn]; simp [hl]
theorem diff_eq {a n : List S31} (ha : sortedB a = true) (hn : sortedB n = true) (sa : smallR a = true) (sn : smallR n = true) (hl : a.length + n.length < 1954687338268) : delta_Diff.f a n = some (sideP diffE a n, true) := by
  have h := diff_small (rising_of ha) (rising_of hn) sn hl
  unfold delta_Diff.f; rw [ha, hn]; simp [hl, sa, sn, h]
theorem over_eq {a n : List S31} (ha : sortedB a = true) (hn : sortedB n = true) (sa : smallR a = true) (sn : smallR n = true) (hl : a.length + n.length < 1954687338268) : delta_Over.f a n = some (sideP overE a n, true) := by
  have h := over_small (rising_of ha) (rising_of hn) sa sn hl
  unfold delta_Over.f; rw [ha, hn]; simp [hl, sa, sn, h]
/-- Rising records that may be are sorted. -/
theorem sorted_mk : ∀ (l : List S31) (last : Int), Rising l → (∀ x ∈ l, last < x.f0 ∧ recV x = true) → whr stepS last l = l.length
  | [], _, _, _ => rfl
  | x :: xs, last, h, hv => by
    obtain ⟨h1, h2⟩ := rising_head h
    obtain ⟨h3, h4⟩ := hv x List.mem_cons_self
    have h5 : ¬ x.f0 ≤ last := by omega
    have hb : (stepS last x).1 = false := by simp [stepS, h4, h5]
    rw [whr, if_neg (by simp [hb]), show (stepS last x).2 = x.f0 from rfl, sorted_mk xs x.f0 h1 (fun y hy => ⟨h2 y hy, (hv y (List.mem_cons_of_mem _ hy)).2⟩)]
    rfl
theorem sorted_sub {l m : List S31} (hl : sortedB l = true) (hm : Rising m) (h : ∀ x ∈ m, x ∈ l) : sortedB m = true := by
  have := (sorted_rising l (-1) (of_decide_eq_true hl)).1
  exact decide_eq_true (sorted_mk m (-1) hm (fun x hx => this x (h x hx)))
/-! rec.Put over rising lists -/
def insP : List S31 → S31 → List S31
  | [], r => [r]
  | x :: xs, r => if x.f0 = r.f0 then r :: xs else if r.f0 < x.f0 then r :: x :: xs else x :: insP xs r
theorem whrE_ge {l : List S31} {id : Int} (h : ∀ x ∈ l, x.f0 ≠ id) : whr (stepE id) () l = l.length := by
  induction l with
  | nil => rfl
  | cons x l ih =>
    have h0 := h x List.mem_cons_self
    rw [whr, if_neg (by simpa [stepE] using h0), ih (fun y hy => h y (List.mem_cons_of_mem _ hy))]
    rfl
theorem putP_ins : ∀ (l : List S31) (r : S31), Rising l → putP l r = insP l r
  | [], r, _ => rfl
  | x :: xs, r, h => by
    obtain ⟨h1, h2⟩ := rising_head h
    have ih := putP_ins xs r h1
    unfold insP
    by_cases he : x.f0 = r.f0
    · have w : whr (stepE r.f0) () (x :: xs) = 0 := by rw [whr, if_pos (by simp [stepE, he])]
      rw [if_pos he]
      unfold putP
      rw [w, if_pos (by simp)]
      rfl
    · rw [if_neg he]
      by_cases hg : r.f0 < x.f0
      · rw [if_pos hg]
        have w : whr (stepE r.f0) () (x :: xs) = (x :: xs).length := whrE_ge (fun y hy => by
          rcases List.mem_cons.1 hy with rfl | hy
          · exact he
          · have := h2 y hy; omega)
        have v : whr (stepG r.f0) () (x :: xs) = 0 := by rw [whr, if_pos (by simpa [stepG] using hg)]
        unfold putP
        rw [w, if_neg (by omega), v]
        rfl
      · rw [if_neg hg, ← ih]
        have w : whr (stepE r.f0) () (x :: xs) = whr (stepE r.f0) () xs + 1 := by rw [whr, if_neg (by simpa [stepE] using he)]
        have v : whr (stepG r.f0) () (x :: xs) = whr (stepG r.f0) () xs + 1 := by rw [whr, if_neg (by simp [stepG]; omega)]
        unfold putP
        rw [w, v]
        by_cases hl : whr (stepE r.f0) () xs < xs.length
        · rw [if_pos hl, if_pos (by simp; omega)]; rfl
        · rw [if_neg hl, if_neg (by simp; omega)]; rfl
theorem ins_mem : ∀ {l : List S31} {r : S31}, Rising l → ∀ x, x ∈ insP l r ↔ x = r ∨ (x ∈ l ∧ x.f0 ≠ r.f0)
  | [], r, _, x => by simp [insP]
  | y :: ys, r, h, x => by
    obtain ⟨h1, h2⟩ := rising_head h
    unfold insP
    by_cases he : y.f0 = r.f0
    · rw [if_pos he]
      constructor
      · intro hx
        rcases List.mem_cons.1 hx with hx | hx
        · exact .inl hx
        · exact .inr ⟨List.mem_cons_of_mem _ hx, by have := h2 x hx; omega⟩
      · rintro (hx | ⟨hx, hn⟩)
        · exact List.mem_cons.2 (.inl hx)
        · rcases List.mem_cons.1 hx with hx | hx
          · exact absurd (hx ▸ he) hn
          · exact List.mem_cons_of_mem _ hx
    · rw [if_neg he]
      by_cases hg : r.f0 < y.f0
      · rw [if_pos hg]
        constructor
        · intro hx
          rcases List.mem_cons.1 hx with hx | hx
          · exact .inl hx
          · refine .inr ⟨hx, ?_⟩
            rcases List.mem_cons.1 hx with hx | hx
            · rw [hx]; exact he
            · have := h2 x hx; omega
        · rintro (hx | ⟨hx, _⟩)
          · exact List.mem_cons.2 (.inl hx)
          · exact List.mem_cons_of_mem _ hx
      · rw [if_neg hg, List.mem_cons, ins_mem h1 x, List.mem_cons]
        constructor
        · rintro (hx | hx | ⟨hx, hn⟩)
          · exact .inr ⟨.inl hx, hx ▸ he⟩
          · exact .inl hx
          · exact .inr ⟨.inr hx, hn⟩
        · rintro (hx | ⟨hx | hx, hn⟩)
          · exact .inr (.inl hx)
          · exact .inl hx
          · exact .inr (.inr ⟨hx, hn⟩)
theorem ins_rising : ∀ {l : List S31} {r : S31}, Rising l → Rising (insP l r)
  | [], r, _ => List.pairwise_singleton _ _
  | y :: ys, r, h => by
    obtain ⟨h1, h2⟩ := rising_head h
    unfold insP
    by_cases he : y.f0 = r.f0
    · rw [if_pos he]
      exact List.pairwise_cons.2 ⟨fun z hz => by have := h2 z hz; omega, h1⟩
    · rw [if_neg he]
      by_cases hg : r.f0 < y.f0
      · rw [if_pos hg]
        refine List.pairwise_cons.2 ⟨fun z hz => ?_, h⟩
        rcases List.mem_cons.1 hz with hz | hz
        · rw [hz]; exact hg
        · have := h2 z hz; omega
      · rw [if_neg hg]
        refine List.pairwise_cons.2 ⟨fun z hz => ?_, ins_rising h1⟩
        rcases (ins_mem h1 z).1 hz with hz | ⟨hz, _⟩
        · rw [hz]; omega
        · exact h2 z hz
theorem put_mem {l : List S31} {r : S31} (h : Rising l) (x : S31) : x ∈ putP l r ↔ x = r ∨ (x ∈ l ∧ x.f0 ≠ r.f0) := by rw [putP_ins l r h]; exact ins_mem h x
theorem put_rising {l : List S31} {r : S31} (h : Rising l) : Rising (putP l r) := by rw [putP_ins l r h]; exact ins_rising h
theorem put_len (l : List S31) (r : S31) : (putP l r).length ≤ l.length + 1 := by
  unfold putP
  split
  · rw [List.length_set]; omega
  · rw [List.length_append, List.length_take, List.length_cons, List.length_drop]; omega
theorem foldput_rising : ∀ (d b : List S31), Rising b → Rising (d.foldl putP b)
  | [], _, h => h
  | _ :: d, _, h => foldput_rising d _ (put_rising h)
theorem foldput_mem : ∀ (d b : List S31), Rising b → Rising d → ∀ x, x ∈ d.foldl putP b ↔ x ∈ d ∨ (x ∈ b ∧ ∀ y ∈ d, y.f0 ≠ x.f0)
  | [], b, _, _, x => by simp
  | y :: d, b, hb, hd, x => by
    obtain ⟨h1, h2⟩ := rising_head hd
    rw [List.foldl_cons, foldput_mem d _ (put_rising hb) h1 x, put_mem hb, List.mem_cons]
    constructor
    · rintro (hx | ⟨hx | ⟨hx, hn⟩, hz⟩)
      · exact .inl (.inr hx)
      · exact .inl (.inl hx)
      · refine .inr ⟨hx, fun z hz' => ?_⟩
        rcases List.mem_cons.1 hz' with e | hz'
        · rw [e]; exact fun e => hn e.symm
        · exact hz z hz'
    · rintro ((hx | hx) | ⟨hx, hz⟩)
      · exact .inr ⟨.inl hx, fun z hz => by have := h2 z hz; rw [hx]; omega⟩
      · exact .inl hx
      · exact .inr ⟨.inr ⟨hx, fun e => hz y List.mem_cons_self e.symm⟩, fun z hz' => hz z (List.mem_cons_of_mem _ hz')⟩
theorem foldput_over {b d : List S31} (hb : Rising b) (hd : Rising d) : d.foldl putP b = sideP overE b d :=
  rising_ext (foldput_rising d b hb) (over_rising hb hd) (fun x => by rw [foldput_mem d b hb hd x, over_mem hb hd x])
theorem rec_Put_eq (l : List S31) (r : S31) (hl : smallR l = true) (hr : smallB r.f5 = true) (hn : l.length + 1 < 1954687338268) : rec_Put.f l r.f0 r.f1 r.f2 r.f3.f0 r.f3.f1 r.f4 r.f5 = some (putP l r) := by
  unfold rec_Put.f
  rw [if_pos ⟨hl, hr, hn⟩]
theorem put_small {l : List S31} {r : S31} (h : Rising l) (hl : smallR l = true) (hr : smallB r.f5 = true) (hn : l.length + 1 < 1954687338268) : smallR (putP l r) = true :=
  smallR_mk (by have := put_len l r; omega) (fun x hx => by
    rcases (put_mem h x).1 hx with rfl | ⟨hx, _⟩
    · exact hr
    · exact smallR_mem hl x hx)
theorem awake14 : polyglotlaw14_awake.f = some true := by decide +kernel
theorem lays_j0 (k : Nat) (hk : 1 ≤ k) (a b : List S31) : polyglotlaw14_DeltaLays.j0 k a b true = some true := by
  obtain ⟨k, rfl⟩ : ∃ j, k = j + 1 := ⟨k - 1, by omega⟩
  rw [polyglotlaw14_DeltaLays.j0, if_pos rfl, awake14]; rfl
theorem lays_l0 (o : List S31) (so : smallR o = true) : ∀ (n i k : Nat) (d w : List S31), i + n = d.length → d.length ≤ 20 → smallR d = true → Rising w → smallR w = true → w.length ≤ 20 + i → (d.drop i).foldl putP w = o → n + o.length + bigQ o + 2 ≤ k → polyglotlaw14_DeltaLays.l0 k d o true w (i : Int) = some true
  | 0, i, k, d, w, hi, hd, sd, rw_, sw, hl, hf, hk => by
    obtain ⟨k, rfl⟩ : ∃ j, k = j + 1 := ⟨k - 1, by omega⟩
    rw [List.drop_eq_nil_of_le (by omega)] at hf
    have e : w = o := hf
    rw [polyglotlaw14_DeltaLays.l0, if_neg (by omega), if_pos rfl, allalike_f o w so k (by omega), e]
    simp [awake14]
  | n + 1, i, k, d, w, hi, hd, sd, rw_, sw, hl, hf, hk => by
    obtain ⟨k, rfl⟩ : ∃ j, k = j + 1 := ⟨k - 1, by omega⟩
    have hm : rd_T31 d (i : Int) ∈ d := by rw [rdT31_get (show i < d.length by omega)]; exact List.getElem_mem _
    have hs := smallR_mem sd _ hm
    rw [drop_rd d i (by omega), List.foldl_cons] at hf
    have hw : wrap64 ((i : Int) + 1) = ((i + 1 : Nat) : Int) := by rw [w64 (by omega) (by omega)]; omega
    have hlen := put_len w (rd_T31 d (i : Int))
    rw [polyglotlaw14_DeltaLays.l0, if_pos (by omega), if_pos (by omega), rec_Put_eq w _ sw hs (by omega), Option.bind_some, hw]
    exact lays_l0 o so n (i + 1) k d _ (by omega) hd sd (put_rising rw_) (put_small rw_ sw hs (by omega)) (by omega) hf (by omega)
theorem Pure.DeltaLays (a d : List S31) (ga : good22 a) (gd : good22 d) : ∃ k, polyglotlaw14_DeltaLays.f k a d = some true := by
  obtain ⟨K, hK1, hK2, hK3⟩ : ∃ K, 100 ≤ K ∧ (sideP overE a d).length + bigQ (sideP overE a d) + 60 ≤ K ∧ a.length + bigR a + 60 ≤ K := ⟨100 + ((sideP overE a d).length + bigQ (sideP overE a d) + 60) + (a.length + bigR a + 60), by omega, by omega, by omega⟩
  refine ⟨K, ?_⟩
  obtain ⟨f, hf⟩ := few08 a (fun x hx y hy => ((ga.2 x hx).2.2.2.2.2.2 y hy).2.1) K (by omega)
  obtain ⟨f2, hf2⟩ := few08 d (fun x hx y hy => ((gd.2 x hx).2.2.2.2.2.2 y hy).2.1) K (by omega)
  unfold polyglotlaw14_DeltaLays.f
  rw [hf, Option.bind_some]
  cases f
  · rw [if_neg (by decide), lays_j0 K (by omega)]
  rw [if_pos rfl, hf2, Option.bind_some]
  cases f2
  · rw [Bool.not_false, lays_j0 K (by omega)]
  have la := few08_len hf
  have ld := few08_len hf2
  have ma := smallR_of ga (by omega)
  have md := smallR_of gd (by omega)
  obtain ⟨k, rfl⟩ : ∃ j, K = j + 2 := ⟨K - 2, by omega⟩
  rw [Bool.not_true, polyglotlaw14_DeltaLays.j0, if_neg (by decide)]
  simp only [rec_Sorted.f, Option.bind_some]
  cases sa : sortedB a
  · have : delta_Over.f a d = some ([], false) := by unfold delta_Over.f; rw [sa]; simp
    rw [this, Option.bind_some]
    dsimp only
    rw [if_neg (by decide), polyglotlaw14_DeltaLays.j1, if_pos rfl, if_neg (by decide), if_pos (by rfl), awake14]; rfl
  cases sd : sortedB d
  · have : delta_Over.f a d = some ([], false) := by unfold delta_Over.f; rw [sa, sd]; simp
    rw [this, Option.bind_some]
    dsimp only
    rw [if_pos rfl, Bool.not_false, polyglotlaw14_DeltaLays.j1, if_pos rfl, if_neg (by decide), if_pos (by rfl), awake14]; rfl
  have ra := rising_of sa
  have rd := rising_of sd
  have mo := over_small ra rd ma md (by omega)
  rw [over_eq sa sd ma md (by omega), Option.bind_some]
  dsimp only
  rw [if_pos rfl, Bool.not_true, polyglotlaw14_DeltaLays.j1, if_neg (by decide), rec_Copy_f a ma k (by omega), Option.bind_some]
  exact lays_l0 _ mo d.length 0 k d a (by omega) ld md ra ma (by omega) (by rw [List.drop_zero]; exact foldput_over ra rd) (by omega)
end Go.Proofs.Ythajahdjkmfnnaa.DL
