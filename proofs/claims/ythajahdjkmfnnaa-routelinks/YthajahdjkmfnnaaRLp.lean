import Derived.Test.YthajahdjkmfnnaaRLx7
import Derived.Test.YthajahdjkmfnnaaRLo
import Derived.Deep.DeepMust
import Derived.Deep.DeepFit
import Derived.Outline
import Derived.Deep.Slices
import Derived.Deep.OwnShut
import Derived.ProofKit
import Derived.OpenShut
import Derived.SizedLaws
namespace Go.Proofs.Ythajahdjkmfnnaa.RL
open Go.RowKit Go.Proofs.YthajahdjkmfnnaaW.PrintWords Go.Proofs.YthajahdjkmfnnaaW.PrintLast Go.Proofs.YthajahdjkmfnnaaW.PrintMore
attribute [local go_sem] max2_int min2_int max_two min_two max_three min_three max_four min_four   -- for this text's walks alone
set_option linter.unusedVariables false
set_option linter.unusedSimpArgs false
theorem wrap64_id (n : Int) (h : -9223372036854775808 ≤ n ∧ n ≤ 9223372036854775807) : wrap64 n = n := by unfold wrap64; omega
theorem few06_l (l : List S332) (hg : ∀ x ∈ l, x.f1.length * 1 < 140737488355328) : ∀ (m n k : Nat) (s : Int), l.length = n + m → l.length ≤ 40 → 0 ≤ s → s ≤ 5000 → m < k → ∃ b, polyglotlaw06_Few.l0 k l s (n : Int) = some b
  | m, n, 0, s, _, _, _, _, hk => by omega
  | 0, n, k + 1, s, hl, hc, h0, h1, hk => by
    refine ⟨true, ?_⟩
    unfold polyglotlaw06_Few.l0
    rw [if_neg (by omega)]
  | m + 1, n, k + 1, s, hl, hc, h0, h1, hk => by
    have hlt : n < l.length := by omega
    have hx : ((rd_T332 l (n : Int)).f1).length * 1 < 140737488355328 := by
      apply hg
      simp only [rd_T332, Int.toNat_natCast, List.getD_eq_getElem?_getD, List.getElem?_eq_getElem hlt, Option.getD_some]
      exact List.getElem_mem hlt
    unfold polyglotlaw06_Few.l0
    rw [if_pos (by omega), if_pos (by omega)]
    have e1 : wrap64 (s + (((rd_T332 l (n : Int)).f1).length : Int)) = s + (((rd_T332 l (n : Int)).f1).length : Int) := wrap64_id _ ⟨by omega, by omega⟩
    have e2 : wrap64 ((n : Int) + 1) = ((n + 1 : Nat) : Int) := by rw [wrap64_id _ ⟨by omega, by omega⟩]; omega
    rw [e1, e2]
    by_cases hb : s + (((rd_T332 l (n : Int)).f1).length : Int) > 5000
    · exact ⟨false, by rw [if_pos hb]⟩
    · rw [if_neg hb]
      exact few06_l l hg m (n + 1) k _ (by omega) hc (by omega) (by omega) (by omega)
theorem few06 (l : List S332) (hg : ∀ x ∈ l, x.f1.length * 1 < 140737488355328) (k : Nat) (hk : 41 ≤ k) : ∃ b, polyglotlaw06_Few.f k l = some b := by
  unfold polyglotlaw06_Few.f
  by_cases h : (l.length : Int) > 40
  · exact ⟨false, by rw [if_pos h]⟩
  · rw [if_neg h]
    exact few06_l l hg l.length 0 k 0 (by omega) (by omega) (by omega) (by omega) (by omega)
theorem few08_l (l : List S31) (hg : ∀ x ∈ l, ∀ y ∈ x.f5, y.f1.length * 1 < 140737488355328) : ∀ (m n k : Nat), l.length = n + m → l.length ≤ 20 → m + 41 < k → ∃ b, polyglotlaw08_Few.l0 k l (n : Int) = some b
  | m, n, 0, _, _, hk => by omega
  | 0, n, k + 1, hl, hc, hk => by
    refine ⟨true, ?_⟩
    unfold polyglotlaw08_Few.l0
    rw [if_neg (by omega)]
  | m + 1, n, k + 1, hl, hc, hk => by
    have hlt : n < l.length := by omega
    have hx : rd_T31 l (n : Int) ∈ l := by
      simp only [rd_T31, Int.toNat_natCast, List.getD_eq_getElem?_getD, List.getElem?_eq_getElem hlt, Option.getD_some]
      exact List.getElem_mem hlt
    unfold polyglotlaw08_Few.l0
    rw [if_pos (by omega), if_pos (by omega)]
    obtain ⟨b, hb⟩ := few06 (rd_T31 l (n : Int)).f5 (hg _ hx) k (by omega)
    have e2 : wrap64 ((n : Int) + 1) = ((n + 1 : Nat) : Int) := by rw [wrap64_id _ ⟨by omega, by omega⟩]; omega
    rw [hb, Option.bind_some, e2]
    by_cases hbt : b = true
    · rw [if_pos hbt]
      exact few08_l l hg m (n + 1) k (by omega) hc (by omega)
    · exact ⟨false, by rw [if_neg hbt]⟩
theorem few08 (l : List S31) (hg : ∀ x ∈ l, ∀ y ∈ x.f5, y.f1.length * 1 < 140737488355328) (k : Nat) (hk : 63 ≤ k) : ∃ b, polyglotlaw08_Few.f k l = some b := by
  unfold polyglotlaw08_Few.f
  by_cases h : (l.length : Int) > 20
  · exact ⟨false, by rw [if_pos h]⟩
  · rw [if_neg h]
    exact few08_l l hg l.length 0 k (by omega) (by omega) (by omega)
theorem small_of {l : List S332} (hg : good29 l) : smallB l = true := by
  obtain ⟨h1, h2⟩ := hg
  simp only [smallB, Bool.and_eq_true, decide_eq_true_eq, List.all_eq_true]
  exact ⟨by omega, fun x hx => by have := (h2 x hx).2.1; omega⟩
theorem find_of (l : List S31) (hg : good22 l) (a : Int) : ∃ x : S31, ∃ b : Bool, rec_Find.f l a = some (x.f0, x.f1, x.f2, x.f3.f0, x.f3.f1, x.f4, x.f5, b) ∧ (b = true → x.f0 = a) := by
  unfold rec_Find.f
  cases h : l.find? (fun x => decide (x.f0 = a)) with
  | none => exact ⟨⟨0, 0, 0, ⟨0, 0⟩, false, []⟩, false, rfl, fun h => by cases h⟩
  | some x =>
    have hm := List.mem_of_find?_eq_some h
    have hs := small_of (hg.2 x hm).2.2.2.2.2
    exact ⟨x, true, by simp only [hs, if_true], fun _ => by simpa using List.find?_some h⟩
theorem link47 (a b : S31) : polyglotlaw47_link.f a.f0 a.f1 a.f2 a.f3.f0 a.f3.f1 a.f4 a.f5 b.f0 b.f1 b.f2 b.f3.f0 b.f3.f1 b.f4 b.f5 = some (linkP a b) := by
  unfold polyglotlaw47_link.f linkP
  by_cases h0 : a.f0 = b.f0
  · rw [if_pos h0, if_pos (by omega)]
  by_cases h1 : a.f2 = 2
  · rw [if_neg h0, if_pos h1, if_pos (by omega)]
  by_cases h2 : a.f2 = 3
  · rw [if_neg h0, if_neg h1, if_pos h2, if_pos (by omega)]
  by_cases h3 : b.f2 = 2
  · rw [if_neg h0, if_neg h1, if_neg h2, if_pos h3, if_pos (by omega)]
  by_cases h4 : b.f2 = 3
  · rw [if_neg h0, if_neg h1, if_neg h2, if_neg h3, if_pos h4, if_pos (by omega)]
  rw [if_neg h0, if_neg h1, if_neg h2, if_neg h3, if_neg h4, if_neg (by omega), span_Best_f]
  rfl
theorem awake47 : ∀ k, 100 ≤ k → polyglotlaw47_awake.f k = some true := fun k hk => by
  have h : polyglotlaw47_awake.f 100 = some true := by decide +kernel
  obtain ⟨d, rfl⟩ : ∃ d, k = 100 + d := ⟨k - 100, by omega⟩
  clear hk
  induction d with
  | zero => exact h
  | succ d ih => exact polyglotlaw47_awake.mono _ _ ih
theorem j0_of (k : Nat) (w : Int) (ok : Bool) (x y : S31) (s : Bool) (hw : w = if s = true then linkP x y else 0) (hok : ok = decide (w > 0)) (hk : 101 ≤ k) :
    polyglotlaw47_RouteLinks.j0 k w ok 0 s x.f0 x.f1 x.f2 x.f3.f0 x.f3.f1 x.f4 x.f5 y.f0 y.f1 y.f2 y.f3.f0 y.f3.f1 y.f4 y.f5 = some true := by
  obtain ⟨k, rfl⟩ : ∃ j, k = j + 1 := ⟨k - 1, by omega⟩
  unfold polyglotlaw47_RouteLinks.j0
  dsimp only
  rw [awake47 k (by omega)]
  cases s
  · simp only [Bool.false_eq_true, if_false] at hw ⊢
    subst hw hok
    rfl
  · simp only [if_true] at hw ⊢
    rw [link47]
    subst hw hok
    simp
theorem Pure.RouteLinks (l : List S31) (a b : Int) (g : good22 l) (ha : (Lit.int .i64 a).wf = true) (hb : (Lit.int .i64 b).wf = true) : ∃ k, polyglotlaw47_RouteLinks.f k l a b = some true := by
  refine ⟨200, ?_⟩
  obtain ⟨f, hf⟩ := few08 l (fun x hx y hy => ((g.2 x hx).2.2.2.2.2.2 y hy).2.1) 200 (by omega)
  unfold polyglotlaw47_RouteLinks.f
  rw [hf, Option.bind_some]
  cases f
  · rw [if_neg (by decide), awake47 200 (by omega)]; rfl
  rw [if_pos rfl]
  obtain ⟨x, p, hx, -⟩ := find_of l g a
  obtain ⟨y, q, hy, -⟩ := find_of l g b
  have hL : route_Linked.f l a b = some (if p = true ∧ q = true ∧ sortedB l = true then linkP x y else 0, decide ((if p = true ∧ q = true ∧ sortedB l = true then linkP x y else 0) > 0)) := by
    unfold route_Linked.f
    rw [hx, hy]
    simp only [Option.bind_some, rec_Sorted.f, route_link_f]
    cases p <;> cases q <;> cases sortedB l <;> simp
  rw [hL, hx, hy]
  simp only [Option.bind_some, rec_Sorted.f]
  cases p <;> cases q <;> simp only [Bool.false_eq_true, if_false, if_true] <;> refine j0_of _ _ _ x y _ ?_ rfl (by omega) <;> simp
end Go.Proofs.Ythajahdjkmfnnaa.RL
