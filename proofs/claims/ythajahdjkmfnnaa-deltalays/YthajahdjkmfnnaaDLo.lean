import Derived.Test.YthajahdjkmfnnaaDLx10
import Derived.Deep.DeepMust
import Derived.Deep.DeepFit
import Derived.Outline
import Derived.Deep.Slices
import Derived.Deep.OwnShut
import Derived.ProofKit
import Derived.OpenShut
import Derived.SizedLaws
import Derived.StillTailTactics
import Derived.Deep.QuietTactic
import Derived.BigQuiet
namespace Go.Proofs.Ythajahdjkmfnnaa.DL
open Go.RowKit Go.Proofs.YthajahdjkmfnnaaW.PrintWords Go.Proofs.YthajahdjkmfnnaaW.PrintLast Go.Proofs.YthajahdjkmfnnaaW.PrintMore
attribute [local go_sem] max2_int min2_int max_two min_two max_three min_three max_four min_four   -- for this text's walks alone
set_option linter.unusedVariables false
set_option linter.unusedSimpArgs false
section opens
open Go.ChangeShapes Go.WideShapes Go.ChangeAt
/-- What a type's cells read as: a value of the kind, which is good. -/
def Opens {α : Type} (T : TypeId) (d : Kd α) (G : α → Prop) : Prop :=
  ∀ (H : Type) (enc : TypeId × Value → H) (W : World) (fuel : Nat) (cs : List Value) (x : DataW H × List MemPlace), DataW.trod enc Try.prog W 0 (fun _ => true) true fuel T cs = some x → (x.1.weights Try.prog T).all (· ≤ reachBytes) = true → ∃ p : α, d.K W p cs ∧ G p
theorem opens_int {T : TypeId} {k : IntKind} (hu : Try.prog.underlying T = some (.int k)) : Opens T (Kd.int k) (fun n => (Lit.int k n).wf = true) := fun H enc W fuel cs x h _ => by
  obtain ⟨n, rfl, _, hw⟩ := DataW.trod_int hu h
  exact ⟨n, rfl, hw⟩
theorem opens_bool {T : TypeId} (hu : Try.prog.underlying T = some .bool) : Opens T Kd.bool (fun _ => True) := fun H enc W fuel cs x h _ => by
  obtain ⟨n, rfl, _⟩ := DataW.trod_bool hu h
  exact ⟨n, rfl, trivial⟩
theorem list_of_fn {α : Type} (m : Nat) (q : Nat → α → Prop) (h : ∀ i, i < m → ∃ p, q i p) : ∃ l : List α, l.length = m ∧ ∀ i p, l[i]? = some p → q i p := by
  induction m with
  | zero => exact ⟨[], rfl, fun i p hi => by simp at hi⟩
  | succ m ih =>
    obtain ⟨l, hl, hq⟩ := ih (fun i hi => h i (by omega))
    obtain ⟨p, hp⟩ := h m (by omega)
    refine ⟨l ++ [p], by simp [hl], fun i r hi => ?_⟩
    by_cases hlt : i < m
    · rw [List.getElem?_append_left (by omega)] at hi; exact hq i r hi
    · have : i = m := by
        have := (List.getElem?_eq_some_iff.1 hi).1
        simp at this; omega
      subst this
      rw [List.getElem?_append_right (by omega)] at hi
      simp [hl] at hi; subst hi; exact hp
theorem weighs_all {H : Type} {P : Program} {e : TypeId} {ds : List (DataW H)} (h : (DataW.weightsAll P e ds).all (· ≤ reachBytes) = true) {d : DataW H} (hd : d ∈ ds) : (d.weights P e).all (· ≤ reachBytes) = true := by
  induction ds with
  | nil => simp at hd
  | cons x xs ih =>
    simp only [DataW.weightsAll, List.all_append, Bool.and_eq_true] at h
    rcases List.mem_cons.1 hd with rfl | hd
    · exact h.1
    · exact ih h.2 hd
theorem weighs_each {H : Type} {P : Program} {t : TypeId} {fs : Array Field} {xs : List (DataW H × List MemPlace)} (hu : P.underlying t = some (.struct fs)) (h : (DataW.weights P t (.agg (xs.map (·.1)))).all (· ≤ reachBytes) = true) (hl : xs.length = fs.size) (j : Nat) (f : Field) (hf : fs[j]? = some f) (hj : j < xs.length) :
    (xs[j].1.weights P f.type).all (· ≤ reachBytes) = true := by
  simp only [DataW.weights, hu] at h
  refine List.all_eq_true.2 fun n hn => List.all_eq_true.1 h n (DataW.weights_mem_each (j := j) (t := f.type) (d := xs[j].1) ?_ ?_ n hn)
  · simp [hf]
  · simp [List.getElem?_eq_getElem hj]
theorem opens_slice {α : Type} {T e : TypeId} {d : Kd α} {G : α → Prop} {B : Nat} (hu : Try.prog.underlying T = some (.slice e)) (hB : Try.prog.bytesOf e = B) (hc : Try.prog.cellsOf e = d.sz) (ho : Opens e d G) :
    Opens T (Kd.slice e d) (fun l => l.length * B < 140737488355328 ∧ ∀ x ∈ l, G x) := fun H enc W fuel cs x h hz => by
  rcases Go.Deep.open_slice hu h with ⟨rfl, _⟩ | ⟨a, len, cap, m, n, D, Pl, rfl, _, hl, hm, hmm, rfl, hx⟩
  · exact ⟨[], ⟨none, 0, rfl, Nat.le_refl _, ⟨rfl, Nat.zero_le _, fun h => absurd h (by simp)⟩⟩, by simp⟩
  · have hlm : len ≤ m := by rw [hmm]; split <;> omega
    simp only [DataW.weights, hu, List.all_cons, List.all_append, Bool.and_eq_true, decide_eq_true_eq, List.length_map, List.length_range] at hz
    obtain ⟨hz0, hza, _⟩ := hz
    have hlB : len * B < 140737488355328 := by
      have h1 : len * B ≤ (len + (m - len)) * B := Nat.mul_le_mul_right _ (by omega)
      have h2 := reachBytes_lt
      rw [hB] at hz0
      have h3 : (2 : Nat) ^ 47 = 140737488355328 := by decide
      omega
    obtain ⟨l, hll, hq⟩ := list_of_fn len (fun i p => G p ∧ ∃ cs', W.cells? 0 (a.add (i * Try.prog.cellsOf e)) (Try.prog.cellsOf e) = some cs' ∧ d.K W p cs') (fun i hi => by
      obtain ⟨cs', h1, h2⟩ := hx i (by omega)
      obtain ⟨p, hp, hg⟩ := ho H enc W n cs' _ h2 (weighs_all hza (by simp only [List.mem_map, List.mem_range]; exact ⟨i, hi, rfl⟩))
      exact ⟨p, hg, cs', h1, hp⟩)
    have hml : len ≤ 9223372036854775807 := by simp only [maxLen] at hm; omega
    refine ⟨l, ⟨some a, cap, by rw [hll], by omega, ⟨by omega, by omega, fun _ => ⟨a, rfl, fun j p hj => ?_⟩⟩⟩, by rw [hll]; exact hlB, fun y hy => ?_⟩
    · obtain ⟨_, cs', h1, hp⟩ := hq j p hj
      obtain ⟨_, hlen, hcell⟩ := World.cells?_some h1
      refine ⟨cs', by rw [hlen, hc], hp, fun i u hi => ?_⟩
      have hil := (List.getElem?_eq_some_iff.1 hi).1
      have := hcell i (by omega)
      rw [add_add, hc] at this
      rw [this, hi]
    · obtain ⟨i, hi, rfl⟩ := List.mem_iff_getElem.1 hy
      exact (hq i _ (List.getElem?_eq_getElem hi)).1
theorem split_take (cs : List Value) (o s : Nat) : cs.drop o = (cs.drop o).take s ++ cs.drop (o + s) := by
  rw [← List.drop_drop, List.take_append_drop]
theorem opens_3 : Opens 3 (Kd.int .i64) (fun n => (Lit.int .i64 n).wf = true) := opens_int Try.underlying3
def good28 (x : S28) : Prop := (Lit.int .i64 x.f0).wf = true ∧ (Lit.int .i64 x.f1).wf = true
theorem opens_28 : Opens 28 k28 good28 := fun H enc W fuel cs x h hz => by
  obtain ⟨xs, n, rfl, hx, hlen, hxs, hf⟩ := DataW.trod_struct Try.underlying28 h
  have hc : Try.prog.cellsOf 28 = 2 := by kernel_rfl
  rw [hc] at hlen
  rw [hx] at hz
  have w0 := weighs_each Try.underlying28 hz hxs 0 _ rfl (by rw [hxs]; decide)
  obtain ⟨p0, h0, g0⟩ := opens_3 H enc W n _ _ ((hf 0 _ rfl).trans (List.getElem?_eq_getElem (by rw [hxs]; decide))) w0
  replace h0 : (Kd.int .i64).K W p0 ((cs.drop 0).take (Try.prog.cellsOf 3)) := h0
  rw [show Try.prog.cellsOf 3 = 1 by kernel_rfl] at h0
  have w1 := weighs_each Try.underlying28 hz hxs 1 _ rfl (by rw [hxs]; decide)
  obtain ⟨p1, h1, g1⟩ := opens_3 H enc W n _ _ ((hf 1 _ rfl).trans (List.getElem?_eq_getElem (by rw [hxs]; decide))) w1
  replace h1 : (Kd.int .i64).K W p1 ((cs.drop 1).take (Try.prog.cellsOf 3)) := h1
  rw [show Try.prog.cellsOf 3 = 1 by kernel_rfl] at h1
  refine ⟨⟨p0, p1⟩, ?_, g0, g1⟩
  have hk : cs.drop 0 = cs := rfl
  exact ⟨(cs.drop 0).take 1, cs.drop 1, split_take cs 0 1, h0, (by have e := List.take_of_length_le (l := cs.drop 1) (i := 1) (by simp [hlen]); exact e ▸ h1)⟩
theorem opens_4 : Opens 4 Kd.bool (fun _ => True) := opens_bool Try.underlying4
theorem opens_5 : Opens 5 (Kd.int .u8) (fun n => (Lit.int .u8 n).wf = true) := opens_int Try.underlying5
def good330 (l : (List Int)) : Prop := l.length * 1 < 140737488355328 ∧ ∀ x ∈ l, (Lit.int .u8 x).wf = true
theorem opens_330 : Opens 330 (Kd.slice 5 (Kd.int .u8)) good330 := opens_slice (B := 1) Try.underlying330 (by kernel_rfl) (by kernel_rfl) opens_5
def good332 (x : S332) : Prop := (Lit.int .i64 x.f0).wf = true ∧ good330 x.f1
theorem opens_332 : Opens 332 k332 good332 := fun H enc W fuel cs x h hz => by
  obtain ⟨xs, n, rfl, hx, hlen, hxs, hf⟩ := DataW.trod_struct Try.underlying332 h
  have hc : Try.prog.cellsOf 332 = 2 := by kernel_rfl
  rw [hc] at hlen
  rw [hx] at hz
  have w0 := weighs_each Try.underlying332 hz hxs 0 _ rfl (by rw [hxs]; decide)
  obtain ⟨p0, h0, g0⟩ := opens_3 H enc W n _ _ ((hf 0 _ rfl).trans (List.getElem?_eq_getElem (by rw [hxs]; decide))) w0
  replace h0 : (Kd.int .i64).K W p0 ((cs.drop 0).take (Try.prog.cellsOf 3)) := h0
  rw [show Try.prog.cellsOf 3 = 1 by kernel_rfl] at h0
  have w1 := weighs_each Try.underlying332 hz hxs 1 _ rfl (by rw [hxs]; decide)
  obtain ⟨p1, h1, g1⟩ := opens_330 H enc W n _ _ ((hf 1 _ rfl).trans (List.getElem?_eq_getElem (by rw [hxs]; decide))) w1
  replace h1 : (Kd.slice 5 (Kd.int .u8)).K W p1 ((cs.drop 1).take (Try.prog.cellsOf 330)) := h1
  rw [show Try.prog.cellsOf 330 = 1 by kernel_rfl] at h1
  refine ⟨⟨p0, p1⟩, ?_, g0, g1⟩
  have hk : cs.drop 0 = cs := rfl
  exact ⟨(cs.drop 0).take 1, cs.drop 1, split_take cs 0 1, h0, (by have e := List.take_of_length_le (l := cs.drop 1) (i := 1) (by simp [hlen]); exact e ▸ h1)⟩
def good29 (l : (List S332)) : Prop := l.length * 32 < 140737488355328 ∧ ∀ x ∈ l, good332 x
theorem opens_29 : Opens 29 (Kd.slice 332 k332) good29 := opens_slice (B := 32) Try.underlying29 (by kernel_rfl) (by kernel_rfl) opens_332
def good31 (x : S31) : Prop := (Lit.int .i64 x.f0).wf = true ∧ (Lit.int .i64 x.f1).wf = true ∧ (Lit.int .i64 x.f2).wf = true ∧ good28 x.f3 ∧ True ∧ good29 x.f5
theorem opens_31 : Opens 31 k31 good31 := fun H enc W fuel cs x h hz => by
  obtain ⟨xs, n, rfl, hx, hlen, hxs, hf⟩ := DataW.trod_struct Try.underlying31 h
  have hc : Try.prog.cellsOf 31 = 7 := by kernel_rfl
  rw [hc] at hlen
  rw [hx] at hz
  have w0 := weighs_each Try.underlying31 hz hxs 0 _ rfl (by rw [hxs]; decide)
  obtain ⟨p0, h0, g0⟩ := opens_3 H enc W n _ _ ((hf 0 _ rfl).trans (List.getElem?_eq_getElem (by rw [hxs]; decide))) w0
  replace h0 : (Kd.int .i64).K W p0 ((cs.drop 0).take (Try.prog.cellsOf 3)) := h0
  rw [show Try.prog.cellsOf 3 = 1 by kernel_rfl] at h0
  have w1 := weighs_each Try.underlying31 hz hxs 1 _ rfl (by rw [hxs]; decide)
  obtain ⟨p1, h1, g1⟩ := opens_3 H enc W n _ _ ((hf 1 _ rfl).trans (List.getElem?_eq_getElem (by rw [hxs]; decide))) w1
  replace h1 : (Kd.int .i64).K W p1 ((cs.drop 1).take (Try.prog.cellsOf 3)) := h1
  rw [show Try.prog.cellsOf 3 = 1 by kernel_rfl] at h1
  have w2 := weighs_each Try.underlying31 hz hxs 2 _ rfl (by rw [hxs]; decide)
  obtain ⟨p2, h2, g2⟩ := opens_3 H enc W n _ _ ((hf 2 _ rfl).trans (List.getElem?_eq_getElem (by rw [hxs]; decide))) w2
  replace h2 : (Kd.int .i64).K W p2 ((cs.drop 2).take (Try.prog.cellsOf 3)) := h2
  rw [show Try.prog.cellsOf 3 = 1 by kernel_rfl] at h2
  have w3 := weighs_each Try.underlying31 hz hxs 3 _ rfl (by rw [hxs]; decide)
  obtain ⟨p3, h3, g3⟩ := opens_28 H enc W n _ _ ((hf 3 _ rfl).trans (List.getElem?_eq_getElem (by rw [hxs]; decide))) w3
  replace h3 : k28.K W p3 ((cs.drop 3).take (Try.prog.cellsOf 28)) := h3
  rw [show Try.prog.cellsOf 28 = 2 by kernel_rfl] at h3
  have w4 := weighs_each Try.underlying31 hz hxs 4 _ rfl (by rw [hxs]; decide)
  obtain ⟨p4, h4, g4⟩ := opens_4 H enc W n _ _ ((hf 4 _ rfl).trans (List.getElem?_eq_getElem (by rw [hxs]; decide))) w4
  replace h4 : Kd.bool.K W p4 ((cs.drop 5).take (Try.prog.cellsOf 4)) := h4
  rw [show Try.prog.cellsOf 4 = 1 by kernel_rfl] at h4
  have w5 := weighs_each Try.underlying31 hz hxs 5 _ rfl (by rw [hxs]; decide)
  obtain ⟨p5, h5, g5⟩ := opens_29 H enc W n _ _ ((hf 5 _ rfl).trans (List.getElem?_eq_getElem (by rw [hxs]; decide))) w5
  replace h5 : (Kd.slice 332 k332).K W p5 ((cs.drop 6).take (Try.prog.cellsOf 29)) := h5
  rw [show Try.prog.cellsOf 29 = 1 by kernel_rfl] at h5
  refine ⟨⟨p0, p1, p2, p3, p4, p5⟩, ?_, g0, g1, g2, g3, g4, g5⟩
  have hk : cs.drop 0 = cs := rfl
  exact ⟨(cs.drop 0).take 1, cs.drop 1, split_take cs 0 1, h0, ⟨(cs.drop 1).take 1, cs.drop 2, split_take cs 1 1, h1, ⟨(cs.drop 2).take 1, cs.drop 3, split_take cs 2 1, h2, ⟨(cs.drop 3).take 2, cs.drop 5, split_take cs 3 2, h3, ⟨(cs.drop 5).take 1, cs.drop 6, split_take cs 5 1, h4, (by have e := List.take_of_length_le (l := cs.drop 6) (i := 1) (by simp [hlen]); exact e ▸ h5)⟩⟩⟩⟩⟩
def good22 (l : (List S31)) : Prop := l.length * 72 < 140737488355328 ∧ ∀ x ∈ l, good31 x
theorem opens_22 : Opens 22 (Kd.slice 31 k31) good22 := opens_slice (B := 72) Try.underlying22 (by kernel_rfl) (by kernel_rfl) opens_31
end opens
end Go.Proofs.Ythajahdjkmfnnaa.DL
