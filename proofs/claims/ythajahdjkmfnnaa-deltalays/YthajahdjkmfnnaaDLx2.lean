-- Printed by a program of this session (wip/pp.py) over the kit's printer, with functions proved by hand among them.
import Derived.Test.YthajahdjkmfnnaaDLx0
namespace Go.Proofs.Ythajahdjkmfnnaa.DL
open Go.RowKit Go.Proofs.YthajahdjkmfnnaaW.PrintWords Go.Proofs.YthajahdjkmfnnaaW.PrintLast Go.Proofs.YthajahdjkmfnnaaW.PrintMore
attribute [local go_sem] max2_int min2_int max_two min_two max_three min_three max_four min_four   -- for this text's walks alone
set_option linter.unusedVariables false
set_option linter.unusedSimpArgs false

theorem beq_cast (a b : Nat) : ((a : Int) == (b : Int)) = decide (a = b) := by
  by_cases h : a = b
  · simp [h]
  · have h2 : ¬ (a : Int) = (b : Int) := by omega
    simp [h, h2]
theorem w64 {n : Int} (h0 : -9223372036854775808 ≤ n) (h : n ≤ 9223372036854775807) : wrap64 n = n := by unfold wrap64; omega
theorem below_alloc_of {w0 w : World} (h : Below w0.heap.size w0 w) (o : Obj) : Below w0.heap.size w0 (w.alloc o) := h.alloc h.size o
theorem keep3 {w wr w2 : World} {g : Nat} {o : Obj} (h : KeepBut w wr g none) (k : KeepBut (wr.alloc o) w2 g none) : KeepBut w w2 g none :=
  (h.trans (KeepBut.of_below (below_alloc (Below.refl _ _) o) g none) (.inl rfl)).trans k (.inl rfl)
theorem keep_after {W w2 : World} {o : Obj} {g : Nat} (hb : Below (W.alloc o).heap.size (W.alloc o) w2) : KeepBut W w2 g none :=
  (KeepBut.of_below (below_alloc (Below.refl _ _) o) g none).trans (KeepBut.of_below hb g none) (.inl rfl)
/-- The first place at which a step says yes; the length: nowhere. -/
def whr {σ α : Type} (step : σ → α → Bool × σ) : σ → List α → Nat
  | _, [] => 0
  | s, x :: xs => if (step s x).1 then 0 else whr step (step s x).2 xs + 1
theorem whr_le {σ α : Type} (step : σ → α → Bool × σ) : ∀ (s : σ) (l : List α), whr step s l ≤ l.length
  | _, [] => Nat.le_refl _
  | s, x :: xs => by
    unfold whr
    split
    · exact Nat.zero_le _
    · have := whr_le step (step s x).2 xs
      simp only [List.length_cons]; omega
theorem drop_rd (l : List S31) (k : Nat) (h : k < l.length) : l.drop k = rd_T31 l (k : Int) :: l.drop (k + 1) := by
  rw [List.drop_eq_getElem_cons h]
  simp [rd_T31, List.getD_eq_getElem?_getD, List.getElem?_eq_getElem h]
theorem drop_rd332 (l : List S332) (k : Nat) (h : k < l.length) : l.drop k = rd_T332 l (k : Int) :: l.drop (k + 1) := by
  rw [List.drop_eq_getElem_cons h]
  simp [rd_T332, List.getD_eq_getElem?_getD, List.getElem?_eq_getElem h]
theorem drop_rd28 (l : List S28) (k : Nat) (h : k < l.length) : l.drop k = rd_T28 l (k : Int) :: l.drop (k + 1) := by
  rw [List.drop_eq_getElem_cons h]
  simp [rd_T28, List.getD_eq_getElem?_getD, List.getElem?_eq_getElem h]
theorem S_set1 {α : Type} {d : Kd α} {e : Nat} {w : World} {base : Nat} {v : Value} {xs : List α} (h : Kd.S d e w base (fun _ => True) v xs) {p : Addr} (hp : p.block < base) (u : Value) : Kd.S d e (w.setCell p u) base (fun _ => True) v xs :=
  Kd.S_mono (Kd.S_far (Kd.S_bound h) (fun k hk => by have := hk.2.1; omega) u) (fun _ _ => trivial)
theorem R_set1 {α : Type} {d : Kd α} {e : Nat} {w : World} {base : Nat} {v : Value} {xs : List α} (h : Kd.R d e w base (fun _ => True) v xs) {p : Addr} (hp : p.block < base) (u : Value) : Kd.R d e (w.setCell p u) base (fun _ => True) v xs :=
  Kd.R_mono (Kd.R_far (Kd.R_bound h) (fun k hk => by have := hk.2.1; omega) u) (fun _ _ => trivial)
theorem sz31 : (Try.prog.info? 31).map (·.size) = some 7 := by kernel_rfl
theorem sz28 : (Try.prog.info? 28).map (·.size) = some 2 := by kernel_rfl
/-- A bag that make and append have room for. -/
def smallB (l : List S332) : Bool := decide (l.length < 4398046511104) && l.all (fun f => decide (f.f1.length < 140737488355328))
theorem smallB_rd {l : List S332} (h : smallB l = true) (i : Nat) (hi : i < l.length) : (rd_T332 l (i : Int)).f1.length < 140737488355328 := by
  simp only [smallB, Bool.and_eq_true, List.all_eq_true, decide_eq_true_eq] at h
  have : rd_T332 l (i : Int) = l[i] := by simp [rd_T332, List.getD_eq_getElem?_getD, List.getElem?_eq_getElem hi]
  rw [this]; exact h.2 _ (List.getElem_mem hi)
/-- Nothing that was there has turned. -/
def Blw (w w' : World) : Prop := Below w.heap.size w w'
@[simp] theorem Blw_drew (a w : World) : Blw a w.drew = Blw a w := propext ⟨fun h => ⟨h.os, h.tape, h.output, h.size, h.block⟩, fun h => Below.drew h⟩
theorem below_of_drew {w w2 : World} (h : Below w.drew.heap.size w.drew w2) : Below w.heap.size w w2 := ⟨h.os, h.tape, h.output, h.size, h.block⟩
theorem Blw.out {a w : World} (h : Blw a w) : Below a.heap.size a w := h
theorem Blw.step {a w w2 : World} (h : Blw a w) (k : Below w.heap.size w w2) : Blw a w2 := below_then h h.size k
def ints (xs : List Int) : Array Value := (xs.map (Value.int .i64)).toArray
theorem ints_cell {w : World} {g : Nat} {xs : List Int} (h : w.heap[g]? = some (.cells (ints xs) 3 (0, 0))) (k : Nat) (hk : k < xs.length) : w.cell? ⟨g, k, none⟩ = some (.int .i64 (rd xs (k : Int))) := by
  rw [blk_cell h k]
  simp [ints, rd, List.getElem?_eq_getElem hk, List.getD_eq_getElem?_getD]
theorem ints_set {w : World} {g : Nat} {xs : List Int} (h : w.heap[g]? = some (.cells (ints xs) 3 (0, 0))) (k : Nat) (v : Int) : (w.setCell ⟨g, k, none⟩ (.int .i64 v)).heap[g]? = some (.cells (ints (xs.set k v)) 3 (0, 0)) := by
  rw [blk_set h k]
  simp [ints]
def natsI (xs : List Nat) : List Int := xs.map (fun n : Nat => (n : Int))
theorem natsI_snoc (xs : List Nat) (k : Nat) : natsI (xs ++ [k]) = natsI xs ++ [(k : Int)] := by simp [natsI]
theorem natsI_len (xs : List Nat) : (natsI xs).length = xs.length := by simp [natsI]

/-! delta in plain Lean: two sorted lists side by side -/
instance : DecidableEq S332 := fun a b => decidable_of_iff (a.f0 = b.f0 ∧ a.f1 = b.f1) (by cases a; cases b; simp)
instance : DecidableEq S28 := fun a b => decidable_of_iff (a.f0 = b.f0 ∧ a.f1 = b.f1) (by cases a; cases b; simp)
instance : DecidableEq S31 := fun a b => decidable_of_iff (a.f0 = b.f0 ∧ a.f1 = b.f1 ∧ a.f2 = b.f2 ∧ a.f3 = b.f3 ∧ a.f4 = b.f4 ∧ a.f5 = b.f5) (by cases a; cases b; simp)
def xOf : List S31 → List S31 → Option S31
  | x :: _, [] => some x
  | x :: _, y :: _ => if x.f0 ≤ y.f0 then some x else none
  | [], _ => none
def yOf : List S31 → List S31 → Option S31
  | [], y :: _ => some y
  | x :: _, y :: _ => if y.f0 ≤ x.f0 then some y else none
  | _, [] => none
def tlIf (o : Option S31) (l : List S31) : List S31 := if o.isSome then l.tail else l
def pairsF : Nat → List S31 → List S31 → List (Option S31 × Option S31)
  | 0, _, _ => []
  | k + 1, a, b => if a.isEmpty && b.isEmpty then [] else (xOf a b, yOf a b) :: pairsF k (tlIf (xOf a b) a) (tlIf (yOf a b) b)
def pairsP (a b : List S31) : List (Option S31 × Option S31) := pairsF (a.length + b.length) a b
def goneE : Option S31 → Option S31 → Option Int
  | some x, none => some x.f0
  | _, _ => none
def overE : Option S31 → Option S31 → Option S31
  | _, some y => some y
  | x, none => x
def diffE : Option S31 → Option S31 → Option S31
  | _, none => none
  | none, some y => some y
  | some x, some y => if x = y then none else some y
def sideP {τ : Type} (E : Option S31 → Option S31 → Option τ) (a b : List S31) : List τ := (pairsP a b).filterMap fun p => E p.1 p.2
def Rising (l : List S31) : Prop := l.Pairwise (fun x y => x.f0 < y.f0)
/-- One round: by cases. -/
theorem pairsF_step (k : Nat) (a b : List S31) (hk : a.length + b.length ≤ k) : pairsF k a b = match a, b with
    | [], [] => []
    | x :: xs, [] => (some x, none) :: pairsF (k - 1) xs []
    | [], y :: ys => (none, some y) :: pairsF (k - 1) [] ys
    | x :: xs, y :: ys => if x.f0 < y.f0 then (some x, none) :: pairsF (k - 1) xs (y :: ys) else if y.f0 < x.f0 then (none, some y) :: pairsF (k - 1) (x :: xs) ys else (some x, some y) :: pairsF (k - 1) xs ys := by
  cases k with
  | zero =>
    have h1 : a = [] := List.eq_nil_of_length_eq_zero (by omega)
    have h2 : b = [] := List.eq_nil_of_length_eq_zero (by omega)
    subst h1 h2; rfl
  | succ k =>
    match a, b with
    | [], [] => rfl
    | x :: xs, [] => simp [pairsF, xOf, yOf, tlIf]
    | [], y :: ys => simp [pairsF, xOf, yOf, tlIf]
    | x :: xs, y :: ys =>
      by_cases h1 : x.f0 < y.f0
      · have h2 : ¬ y.f0 ≤ x.f0 := by omega
        have h3 : x.f0 ≤ y.f0 := by omega
        simp [pairsF, xOf, yOf, tlIf, h1, h2, h3]
      · by_cases h2 : y.f0 < x.f0
        · have h4 : ¬ x.f0 ≤ y.f0 := by omega
          have h3 : y.f0 ≤ x.f0 := by omega
          simp [pairsF, xOf, yOf, tlIf, h1, h2, h3, h4]
        · have h4 : x.f0 ≤ y.f0 := by omega
          have h3 : y.f0 ≤ x.f0 := by omega
          simp [pairsF, xOf, yOf, tlIf, h1, h2, h3, h4]
/-- What stands in the pairs of two rising lists. -/
def InP (a b : List S31) (p : Option S31 × Option S31) : Prop := match p with
  | (some x, none) => x ∈ a ∧ ∀ y ∈ b, y.f0 ≠ x.f0
  | (none, some y) => y ∈ b ∧ ∀ x ∈ a, x.f0 ≠ y.f0
  | (some x, some y) => x ∈ a ∧ y ∈ b ∧ x.f0 = y.f0
  | (none, none) => False
def idP (p : Option S31 × Option S31) : Int := match p with
  | (some x, _) => x.f0
  | (none, some y) => y.f0
  | (none, none) => 0
theorem rising_head {x : S31} {l : List S31} (h : Rising (x :: l)) : Rising l ∧ ∀ y ∈ l, x.f0 < y.f0 := ⟨(List.pairwise_cons.1 h).2, (List.pairwise_cons.1 h).1⟩
theorem pairs_mem : ∀ (k : Nat) (a b : List S31), a.length + b.length ≤ k → Rising a → Rising b → ∀ p, p ∈ pairsF k a b ↔ InP a b p := by
  intro k
  induction k with
  | zero =>
    intro a b hk _ _ p
    have h1 : a = [] := List.eq_nil_of_length_eq_zero (by omega)
    have h2 : b = [] := List.eq_nil_of_length_eq_zero (by omega)
    subst h1 h2
    obtain ⟨p1, p2⟩ := p
    cases p1 <;> cases p2 <;> simp [pairsF, InP]
  | succ k ih =>
    intro a b hk ha hb p
    rw [pairsF_step _ _ _ hk]
    match a, b, hk, ha, hb with
    | [], [], _, _, _ => obtain ⟨p1, p2⟩ := p; cases p1 <;> cases p2 <;> simp [InP]
    | x :: xs, [], hk, ha, hb =>
      obtain ⟨h1, h2⟩ := rising_head ha
      simp only [List.mem_cons, Nat.add_sub_cancel, ih xs [] (by simp at hk ⊢; omega) h1 hb]
      obtain ⟨p1, p2⟩ := p
      cases p1 <;> cases p2 <;> simp [InP]
    | [], y :: ys, hk, ha, hb =>
      obtain ⟨h1, h2⟩ := rising_head hb
      simp only [List.mem_cons, Nat.add_sub_cancel, ih [] ys (by simp at hk ⊢; omega) ha h1]
      obtain ⟨p1, p2⟩ := p
      cases p1 <;> cases p2 <;> simp [InP]
    | x :: xs, y :: ys, hk, ha, hb =>
      obtain ⟨h1, h2⟩ := rising_head ha
      obtain ⟨h3, h4⟩ := rising_head hb
      by_cases hl : x.f0 < y.f0
      · simp only [if_pos hl, List.mem_cons, Nat.add_sub_cancel, ih xs (y :: ys) (by simp at hk ⊢; omega) h1 hb]
        have e1 : ∀ z ∈ ys, z.f0 ≠ x.f0 := fun z hz => by have := h4 z hz; omega
        have e2 : y.f0 ≠ x.f0 := by omega
        obtain ⟨p1, p2⟩ := p
        cases p1 with
        | none =>
          cases p2 with
          | none => simp [InP]
          | some v =>
            simp only [InP, Prod.mk.injEq, reduceCtorEq, false_and, false_or, List.mem_cons, forall_eq_or_imp]
            constructor
            · rintro ⟨hv, hn⟩
              refine ⟨hv, ?_, hn⟩
              rcases hv with rfl | hv
              · omega
              · have := h4 v hv; omega
            · rintro ⟨hv, _, hn⟩; exact ⟨hv, hn⟩
        | some u =>
          cases p2 with
          | none =>
            simp only [InP, Prod.mk.injEq, Option.some.injEq, and_true, List.mem_cons, forall_eq_or_imp]
            constructor
            · rintro (rfl | ⟨hu, hn⟩)
              · exact ⟨.inl rfl, e2, e1⟩
              · exact ⟨.inr hu, hn⟩
            · rintro ⟨rfl | hu, hn⟩
              · exact .inl rfl
              · exact .inr ⟨hu, hn⟩
          | some v =>
            simp only [InP, Prod.mk.injEq, Option.some.injEq, reduceCtorEq, and_false, false_or, List.mem_cons]
            constructor
            · rintro ⟨hu, hv, he⟩; exact ⟨.inr hu, hv, he⟩
            · rintro ⟨rfl | hu, hv, he⟩
              · rcases hv with rfl | hv
                · omega
                · have := h4 v hv; omega
              · exact ⟨hu, hv, he⟩
      · by_cases hg : y.f0 < x.f0
        · simp only [if_neg hl, if_pos hg, List.mem_cons, Nat.add_sub_cancel, ih (x :: xs) ys (by simp at hk ⊢; omega) ha h3]
          have e1 : ∀ z ∈ xs, z.f0 ≠ y.f0 := fun z hz => by have := h2 z hz; omega
          have e2 : x.f0 ≠ y.f0 := by omega
          obtain ⟨p1, p2⟩ := p
          cases p1 with
          | none =>
            cases p2 with
            | none => simp [InP]
            | some v =>
              simp only [InP, Prod.mk.injEq, Option.some.injEq, true_and, List.mem_cons, forall_eq_or_imp]
              constructor
              · rintro (rfl | ⟨hv, hn⟩)
                · exact ⟨.inl rfl, e2, e1⟩
                · exact ⟨.inr hv, hn⟩
              · rintro ⟨rfl | hv, hn⟩
                · exact .inl rfl
                · exact .inr ⟨hv, hn⟩
          | some u =>
            cases p2 with
            | none =>
              simp only [InP, Prod.mk.injEq, reduceCtorEq, false_and, false_or, List.mem_cons, forall_eq_or_imp]
              constructor
              · rintro ⟨hu, hn⟩
                refine ⟨hu, ?_, hn⟩
                rcases hu with rfl | hu
                · omega
                · have := h2 u hu; omega
              · rintro ⟨hu, _, hn⟩; exact ⟨hu, hn⟩
            | some v =>
              simp only [InP, Prod.mk.injEq, Option.some.injEq, reduceCtorEq, false_and, false_or, List.mem_cons]
              constructor
              · rintro ⟨hu, hv, he⟩; exact ⟨hu, .inr hv, he⟩
              · rintro ⟨hu, rfl | hv, he⟩
                · rcases hu with rfl | hu
                  · omega
                  · have := h2 u hu; omega
                · exact ⟨hu, hv, he⟩
        · have he : x.f0 = y.f0 := by omega
          simp only [if_neg hl, if_neg hg, List.mem_cons, Nat.add_sub_cancel, ih xs ys (by simp at hk ⊢; omega) h1 h3]
          have e1 : ∀ z ∈ xs, z.f0 ≠ y.f0 := fun z hz => by have := h2 z hz; omega
          have e2 : ∀ z ∈ ys, z.f0 ≠ x.f0 := fun z hz => by have := h4 z hz; omega
          obtain ⟨p1, p2⟩ := p
          cases p1 with
          | none =>
            cases p2 with
            | none => simp [InP]
            | some v =>
              simp only [InP, Prod.mk.injEq, reduceCtorEq, false_and, false_or, List.mem_cons, forall_eq_or_imp]
              constructor
              · rintro ⟨hv, hn⟩; exact ⟨.inr hv, by have := h4 v hv; omega, hn⟩
              · rintro ⟨rfl | hv, h0, hn⟩
                · omega
                · exact ⟨hv, hn⟩
          | some u =>
            cases p2 with
            | none =>
              simp only [InP, Prod.mk.injEq, reduceCtorEq, and_false, false_or, List.mem_cons, forall_eq_or_imp]
              constructor
              · rintro ⟨hu, hn⟩; exact ⟨.inr hu, by have := h2 u hu; omega, hn⟩
              · rintro ⟨rfl | hu, h0, hn⟩
                · omega
                · exact ⟨hu, hn⟩
            | some v =>
              simp only [InP, Prod.mk.injEq, Option.some.injEq, List.mem_cons]
              constructor
              · rintro (⟨rfl, rfl⟩ | ⟨hu, hv, hq⟩)
                · exact ⟨.inl rfl, .inl rfl, he⟩
                · exact ⟨.inr hu, .inr hv, hq⟩
              · rintro ⟨rfl | hu, rfl | hv, hq⟩
                · exact .inl ⟨rfl, rfl⟩
                · have := e2 v hv; omega
                · have := e1 u hu; omega
                · exact .inr ⟨hu, hv, hq⟩
theorem idP_mem {a b : List S31} {p : Option S31 × Option S31} (h : InP a b p) : (∃ x ∈ a, x.f0 = idP p) ∨ ∃ y ∈ b, y.f0 = idP p := by
  obtain ⟨p1, p2⟩ := p
  cases p1 with
  | none =>
    cases p2 with
    | none => exact h.elim
    | some v => exact .inr ⟨v, h.1, rfl⟩
  | some u =>
    cases p2 with
    | none => exact .inl ⟨u, h.1, rfl⟩
    | some v => exact .inl ⟨u, h.1, rfl⟩
theorem pairs_rising : ∀ (k : Nat) (a b : List S31), a.length + b.length ≤ k → Rising a → Rising b → (pairsF k a b).Pairwise (fun p q => idP p < idP q) := by
  intro k
  induction k with
  | zero => intro a b _ _ _; exact List.Pairwise.nil
  | succ k ih =>
    intro a b hk ha hb
    rw [pairsF_step _ _ _ hk]
    match a, b, hk, ha, hb with
    | [], [], _, _, _ => exact List.Pairwise.nil
    | x :: xs, [], hk, ha, hb =>
      obtain ⟨h1, h2⟩ := rising_head ha
      refine List.pairwise_cons.2 ⟨fun q hq => ?_, ih xs [] (by simp at hk ⊢; omega) h1 hb⟩
      rcases idP_mem ((pairs_mem k xs [] (by simp at hk ⊢; omega) h1 hb q).1 hq) with ⟨z, hz, e⟩ | ⟨z, hz, e⟩
      · have := h2 z hz; show x.f0 < _; omega
      · cases hz
    | [], y :: ys, hk, ha, hb =>
      obtain ⟨h1, h2⟩ := rising_head hb
      refine List.pairwise_cons.2 ⟨fun q hq => ?_, ih [] ys (by simp at hk ⊢; omega) ha h1⟩
      rcases idP_mem ((pairs_mem k [] ys (by simp at hk ⊢; omega) ha h1 q).1 hq) with ⟨z, hz, e⟩ | ⟨z, hz, e⟩
      · cases hz
      · have := h2 z hz; show y.f0 < _; omega
    | x :: xs, y :: ys, hk, ha, hb =>
      obtain ⟨h1, h2⟩ := rising_head ha
      obtain ⟨h3, h4⟩ := rising_head hb
      by_cases hl : x.f0 < y.f0
      · simp only [if_pos hl]
        refine List.pairwise_cons.2 ⟨fun q hq => ?_, ih xs (y :: ys) (by simp at hk ⊢; omega) h1 hb⟩
        rcases idP_mem ((pairs_mem k xs (y :: ys) (by simp at hk ⊢; omega) h1 hb q).1 hq) with ⟨z, hz, e⟩ | ⟨z, hz, e⟩
        · have := h2 z hz; show x.f0 < _; omega
        · rcases List.mem_cons.1 hz with rfl | hz
          · show x.f0 < _; omega
          · have := h4 z hz; show x.f0 < _; omega
      · by_cases hg : y.f0 < x.f0
        · simp only [if_neg hl, if_pos hg]
          refine List.pairwise_cons.2 ⟨fun q hq => ?_, ih (x :: xs) ys (by simp at hk ⊢; omega) ha h3⟩
          rcases idP_mem ((pairs_mem k (x :: xs) ys (by simp at hk ⊢; omega) ha h3 q).1 hq) with ⟨z, hz, e⟩ | ⟨z, hz, e⟩
          · rcases List.mem_cons.1 hz with rfl | hz
            · show y.f0 < _; omega
            · have := h2 z hz; show y.f0 < _; omega
          · have := h4 z hz; show y.f0 < _; omega
        · simp only [if_neg hl, if_neg hg]
          refine List.pairwise_cons.2 ⟨fun q hq => ?_, ih xs ys (by simp at hk ⊢; omega) h1 h3⟩
          rcases idP_mem ((pairs_mem k xs ys (by simp at hk ⊢; omega) h1 h3 q).1 hq) with ⟨z, hz, e⟩ | ⟨z, hz, e⟩
          · have := h2 z hz; show x.f0 < _; omega
          · have := h4 z hz; show x.f0 < _; omega
theorem rising_inj {l : List S31} (h : Rising l) : ∀ x ∈ l, ∀ y ∈ l, x.f0 = y.f0 → x = y := by
  induction l with
  | nil => intro x hx; cases hx
  | cons z l ih =>
    obtain ⟨h1, h2⟩ := rising_head h
    intro x hx y hy e
    rcases List.mem_cons.1 hx with hx | hx <;> rcases List.mem_cons.1 hy with hy | hy
    · rw [hx, hy]
    · have := h2 y hy; rw [hx] at e; omega
    · have := h2 x hx; rw [hy] at e; omega
    · exact ih h1 x hx y hy e
theorem rising_ext : ∀ {a b : List S31}, Rising a → Rising b → (∀ x, x ∈ a ↔ x ∈ b) → a = b
  | [], [], _, _, _ => rfl
  | [], y :: b, _, _, h => by have := (h y).2 List.mem_cons_self; cases this
  | x :: a, [], _, _, h => by have := (h x).1 List.mem_cons_self; cases this
  | x :: a, y :: b, ha, hb, h => by
    obtain ⟨h1, h2⟩ := rising_head ha
    obtain ⟨h3, h4⟩ := rising_head hb
    have e : x = y := by
      rcases List.mem_cons.1 ((h x).1 List.mem_cons_self) with e | hx
      · exact e
      · rcases List.mem_cons.1 ((h y).2 List.mem_cons_self) with e | hy
        · exact e.symm
        · have := h2 y hy; have := h4 x hx; omega
    subst e
    rw [rising_ext h1 h3 (fun z => ?_)]
    constructor
    · intro hz
      rcases List.mem_cons.1 ((h z).1 (List.mem_cons_of_mem _ hz)) with rfl | hz'
      · have := h2 z hz; omega
      · exact hz'
    · intro hz
      rcases List.mem_cons.1 ((h z).2 (List.mem_cons_of_mem _ hz)) with rfl | hz'
      · have := h4 z hz; omega
      · exact hz'
theorem side_mem {τ : Type} (E : Option S31 → Option S31 → Option τ) {a b : List S31} (ha : Rising a) (hb : Rising b) (t : τ) : t ∈ sideP E a b ↔ ∃ p, InP a b p ∧ E p.1 p.2 = some t := by
  unfold sideP pairsP
  simp only [List.mem_filterMap]
  exact ⟨fun ⟨p, hp, e⟩ => ⟨p, (pairs_mem _ a b (Nat.le_refl _) ha hb p).1 hp, e⟩, fun ⟨p, hp, e⟩ => ⟨p, (pairs_mem _ a b (Nat.le_refl _) ha hb p).2 hp, e⟩⟩
theorem over_mem {a d : List S31} (ha : Rising a) (hd : Rising d) (x : S31) : x ∈ sideP overE a d ↔ x ∈ d ∨ (x ∈ a ∧ ∀ y ∈ d, y.f0 ≠ x.f0) := by
  rw [side_mem overE ha hd]
  constructor
  · rintro ⟨⟨p1, p2⟩, hp, e⟩
    cases p1 <;> cases p2 <;> simp [overE] at e
    · subst e; exact .inl hp.1
    · subst e; exact .inr hp
    · subst e; exact .inl hp.2.1
  · rintro (h | h)
    · by_cases hx : ∃ u ∈ a, u.f0 = x.f0
      · obtain ⟨u, hu, e⟩ := hx; exact ⟨(some u, some x), ⟨hu, h, e⟩, rfl⟩
      · exact ⟨(none, some x), ⟨h, fun u hu e => hx ⟨u, hu, e⟩⟩, rfl⟩
    · exact ⟨(some x, none), h, rfl⟩
theorem diff_mem {a n : List S31} (ha : Rising a) (hn : Rising n) (y : S31) : y ∈ sideP diffE a n ↔ y ∈ n ∧ y ∉ a := by
  rw [side_mem diffE ha hn]
  constructor
  · rintro ⟨⟨p1, p2⟩, hp, e⟩
    cases p1 with
    | none =>
      cases p2 with
      | none => exact hp.elim
      | some v => simp [diffE] at e; subst e; exact ⟨hp.1, fun h => hp.2 v h rfl⟩
    | some u =>
      cases p2 with
      | none => simp [diffE] at e
      | some v =>
        simp only [diffE] at e
        split at e
        · cases e
        · rename_i hne
          obtain rfl := Option.some.inj e
          exact ⟨hp.2.1, fun h => hne (rising_inj ha u hp.1 v h hp.2.2)⟩
  · rintro ⟨h, hx⟩
    by_cases hu : ∃ u ∈ a, u.f0 = y.f0
    · obtain ⟨u, hu, e⟩ := hu
      refine ⟨(some u, some y), ⟨hu, h, e⟩, ?_⟩
      have : ¬ u = y := fun he => hx (he ▸ hu)
      simp [diffE, this]
    · exact ⟨(none, some y), ⟨h, fun u hu' e => hu ⟨u, hu', e⟩⟩, rfl⟩
theorem gone_mem {a n : List S31} (ha : Rising a) (hn : Rising n) (i : Int) : i ∈ sideP goneE a n ↔ ∃ x ∈ a, x.f0 = i ∧ ∀ y ∈ n, y.f0 ≠ i := by
  rw [side_mem goneE ha hn]
  constructor
  · rintro ⟨⟨p1, p2⟩, hp, e⟩
    cases p1 <;> cases p2 <;> simp [goneE] at e
    subst e; exact ⟨_, hp.1, rfl, hp.2⟩
  · rintro ⟨x, hx, rfl, hy⟩
    exact ⟨(some x, none), ⟨hx, hy⟩, rfl⟩
theorem side_rising (E : Option S31 → Option S31 → Option S31) (hE : ∀ p t, E p.1 p.2 = some t → (∃ a b, InP a b p) → t.f0 = idP p) {a b : List S31} (ha : Rising a) (hb : Rising b) : Rising (sideP E a b) := by
  unfold Rising sideP pairsP
  have hm := pairs_mem _ a b (Nat.le_refl _) ha hb
  have hr := pairs_rising _ a b (Nat.le_refl _) ha hb
  refine List.Pairwise.filterMap _ ?_ (hr.imp_of_mem (S := fun p q => (∃ a b, InP a b p) ∧ (∃ a b, InP a b q) ∧ idP p < idP q) (fun {p q} hp hq h => ⟨⟨a, b, (hm p).1 hp⟩, ⟨a, b, (hm q).1 hq⟩, h⟩))
  intro p q ⟨h1, h2, h3⟩ t ht u hu
  rw [hE p t ht h1, hE q u hu h2]
  exact h3
theorem over_rising {a d : List S31} (ha : Rising a) (hd : Rising d) : Rising (sideP overE a d) := by
  refine side_rising overE ?_ ha hd
  rintro ⟨p1, p2⟩ t e ⟨a, b, hp⟩
  cases p1 <;> cases p2 <;> simp [overE] at e
  · subst e; rfl
  · subst e; rfl
  · subst e; exact hp.2.2.symm
theorem diff_rising {a n : List S31} (ha : Rising a) (hn : Rising n) : Rising (sideP diffE a n) := by
  refine side_rising diffE ?_ ha hn
  rintro ⟨p1, p2⟩ t e ⟨a, b, hp⟩
  cases p1 <;> cases p2 <;> simp [diffE] at e
  · subst e; rfl
  · obtain ⟨_, e⟩ := e; subst e; exact hp.2.2.symm
/-- If no id is gone, the delta laid over the base is what is now. -/
theorem over_diff {a n : List S31} (ha : Rising a) (hn : Rising n) (hg : sideP goneE a n = []) : sideP overE a (sideP diffE a n) = n := by
  have hd := diff_rising ha hn
  refine rising_ext (over_rising ha hd) hn (fun x => ?_)
  rw [over_mem ha hd]
  constructor
  · rintro (h | ⟨h, hy⟩)
    · exact ((diff_mem ha hn x).1 h).1
    · by_cases hx : ∃ y ∈ n, y.f0 = x.f0
      · obtain ⟨y, hyn, e⟩ := hx
        by_cases hya : y ∈ a
        · have := rising_inj ha y hya x h e; subst this; exact hyn
        · exact absurd e (hy y ((diff_mem ha hn y).2 ⟨hyn, hya⟩))
      · have : x.f0 ∈ sideP goneE a n := (gone_mem ha hn _).2 ⟨x, h, rfl, fun y hy e => hx ⟨y, hy, e⟩⟩
        rw [hg] at this; cases this
  · intro h
    by_cases hx : x ∈ a
    · refine .inr ⟨hx, fun y hy e => ?_⟩
      obtain ⟨h1, h2⟩ := (diff_mem ha hn y).1 hy
      have := rising_inj hn y h1 x h e
      subst this; exact h2 hx
    · exact .inl ((diff_mem ha hn x).2 ⟨h, hx⟩)
/-- Each record of the delta is needed. -/
theorem over_short {a n : List S31} (ha : Rising a) (hn : Rising n) (i : Nat) (hi : i < (sideP diffE a n).length) : sideP overE a ((sideP diffE a n).eraseIdx i) ≠ n := by
  have hd := diff_rising ha hn
  have hs : Rising ((sideP diffE a n).eraseIdx i) := hd.sublist (List.eraseIdx_sublist _ _)
  intro he
  have hx : (sideP diffE a n)[i] ∈ sideP diffE a n := List.getElem_mem hi
  obtain ⟨h1, h2⟩ := (diff_mem ha hn _).1 hx
  rcases (over_mem ha hs _).1 ((congrArg (fun l => (sideP diffE a n)[i] ∈ l) he).mpr h1) with h | h
  · obtain ⟨j, hj, hji, e⟩ := List.mem_eraseIdx_iff_getElem.1 h
    rcases Nat.lt_or_gt_of_ne hji with hl | hl
    · have := (List.pairwise_iff_getElem.1 hd) j i hj hi hl; rw [e] at this; omega
    · have := (List.pairwise_iff_getElem.1 hd) i j hi hj hl; rw [e] at this; omega
  · exact h2 h.1
def PtrTo (w : World) (o : Option S31) (p : Option Addr) : Prop := match o with
  | none => p = none
  | some x => ∃ ad A6 c6, p = some ad ∧ x.f5.length ≤ c6 ∧ k332.C w A6 x.f5.length x.f5 ∧ ∀ j u, [Value.int .i64 x.f0, .int .i64 x.f1, .int .i64 x.f2, .int .i64 x.f3.f0, .int .i64 x.f3.f1, .bool x.f4, .slice A6 x.f5.length c6][j]? = some u → w.cell? (ad.add j) = some u
theorem addr_add0 (ad : Addr) : ad.add 0 = ad := by unfold Addr.add; split <;> simp_all
theorem head31 {w : World} {A : Option Addr} {x : S31} {xs : List S31} (h : Kd.C k31 w A (x :: xs).length (x :: xs)) : ∃ ad, A = some ad ∧ PtrTo w (some x) (some ad) ∧ w.cell? ad = some (.int .i64 x.f0) := by
  obtain ⟨ad, c, e, _, hK, hc0⟩ := Kd.C_get h z31 0 (by omega) (by simp)
  obtain ⟨A6, c6, rfl, l6, g6⟩ := k31_open hK
  have h0 := hc0 0 _ rfl
  refine ⟨ad, e, ⟨ad, A6, c6, rfl, l6, g6, fun j u hu => ?_⟩, ?_⟩
  · have := hc0 j u hu
    simpa using this
  · simpa [addr_add0] using h0
theorem PtrTo.nil (w : World) : PtrTo w none none := rfl
theorem ptr_open {w W : World} {x : S31} {p : Option Addr} (h : PtrTo w (some x) p) (hB : Below w.heap.size w W) : ∃ ad A6 c6, p = some ad ∧ W.cell? ad = some (.int .i64 x.f0) ∧ W.cell? ⟨ad.block, ad.off + 1, none⟩ = some (.int .i64 x.f1) ∧ W.cell? ⟨ad.block, ad.off + 2, none⟩ = some (.int .i64 x.f2) ∧ W.cell? ⟨ad.block, ad.off + 3, none⟩ = some (.int .i64 x.f3.f0) ∧ W.cell? ⟨ad.block, ad.off + 4, none⟩ = some (.int .i64 x.f3.f1) ∧ W.cell? ⟨ad.block, ad.off + 5, none⟩ = some (.bool x.f4) ∧ W.cell? ⟨ad.block, ad.off + 6, none⟩ = some (.slice A6 x.f5.length c6) ∧ x.f5.length ≤ c6 ∧ k332.C w A6 x.f5.length x.f5 := by
  obtain ⟨ad, A6, c6, rfl, hl, hC, hc⟩ := h
  have key : ∀ j u, [Value.int .i64 x.f0, .int .i64 x.f1, .int .i64 x.f2, .int .i64 x.f3.f0, .int .i64 x.f3.f1, .bool x.f4, .slice A6 x.f5.length c6][j]? = some u → W.cell? (ad.add j) = some u := fun j u hu => (hB.cell (World.block_lt_of_cell? w _ (hc j u hu))).trans (hc j u hu)
  have af : ∀ j, 0 < j → ad.add j = ⟨ad.block, ad.off + j, none⟩ := fun j hj => by have := add_field ad 0 j hj; simpa [addr_add0] using this
  exact ⟨ad, A6, c6, rfl, by simpa [addr_add0] using key 0 _ rfl, by rw [← af 1 (by omega)]; exact key 1 _ rfl, by rw [← af 2 (by omega)]; exact key 2 _ rfl, by rw [← af 3 (by omega)]; exact key 3 _ rfl, by rw [← af 4 (by omega)]; exact key 4 _ rfl, by rw [← af 5 (by omega)]; exact key 5 _ rfl, by rw [← af 6 (by omega)]; exact key 6 _ rfl, hl, hC⟩
def ClosR (E : Option S31 → Option S31 → Option S31) (w0 : World) (x y : Option S31) (W : World) (e : Ending) (W' : World) : Prop :=
  ∃ (t : S31) (A6 : Option Addr) (c6 : Nat), e = .returned (.tuple #[.agg #[.int .i64 t.f0, .int .i64 t.f1, .int .i64 t.f2, .int .i64 t.f3.f0, .int .i64 t.f3.f1, .bool t.f4, .slice A6 t.f5.length c6], .bool (E x y).isSome]) ∧ (∀ u, E x y = some u → u = t) ∧ t.f5.length ≤ c6 ∧ k332.C w0 A6 t.f5.length t.f5 ∧ Below W.heap.size W W'
theorem set7 {W : World} {g t : Nat} {a0 a1 a2 a3 a4 a5 a6 v0 v1 v2 v3 v4 v5 v6 : Value} (h : W.heap[g]? = some (.cells #[a0, a1, a2, a3, a4, a5, a6] t (0, 0))) : (((((((W.setCell ⟨g, 0, none⟩ v0).setCell ⟨g, 1, none⟩ v1).setCell ⟨g, 2, none⟩ v2).setCell ⟨g, 3, none⟩ v3).setCell ⟨g, 4, none⟩ v4).setCell ⟨g, 5, none⟩ v5).setCell ⟨g, 6, none⟩ v6).heap[g]? = some (.cells #[v0, v1, v2, v3, v4, v5, v6] t (0, 0)) := by
  simpa using (blk_set (blk_set (blk_set (blk_set (blk_set (blk_set (blk_set h 0 v0) 1 v1) 2 v2) 3 v3) 4 v4) 5 v5) 6 v6)
theorem below7 {B : Nat} {w W : World} {g : Nat} {v0 v1 v2 v3 v4 v5 v6 : Value} (h : Below B w W) (hg : B ≤ g) : Below B w (((((((W.setCell ⟨g, 0, none⟩ v0).setCell ⟨g, 1, none⟩ v1).setCell ⟨g, 2, none⟩ v2).setCell ⟨g, 3, none⟩ v3).setCell ⟨g, 4, none⟩ v4).setCell ⟨g, 5, none⟩ v5).setCell ⟨g, 6, none⟩ v6) :=
  ((((((h.setCell hg _).setCell hg _).setCell hg _).setCell hg _).setCell hg _).setCell hg _).setCell hg _
def ClosI (E : Option S31 → Option S31 → Option Int) (x y : Option S31) (W : World) (e : Ending) (W' : World) : Prop :=
  ∃ (t : Int), e = .returned (.tuple #[.int .i64 t, .bool (E x y).isSome]) ∧ (∀ u, E x y = some u → u = t) ∧ Below W.heap.size W W'

/-! ### polyglotlaw06_Few: function 132 -/
def polyglotlaw06_Few.l0 : Nat → List (S332) → Int → Int → Option (Bool)
  | 0, _, _, _ => none
  | k + 1, x0, x3, x4 => if x4 < (x0.length : Int) then (if 0 ≤ x4 then (if (wrap64 (x3 + (((rd_T332 x0 x4).f1).length : Int))) > 5000 then (some false) else (polyglotlaw06_Few.l0 k x0 (wrap64 (x3 + (((rd_T332 x0 x4).f1).length : Int))) (wrap64 (x4 + 1)))) else (none)) else (some true)
def polyglotlaw06_Few.f (k : Nat) (l0 : List (S332)) : Option (Bool) := if (l0.length : Int) > 40 then (some false) else (polyglotlaw06_Few.l0 k l0 0 0)
theorem polyglotlaw06_Few.mono_l : ∀ k, (∀ y0 y1 y2, LeO (polyglotlaw06_Few.l0 k y0 y1 y2) (polyglotlaw06_Few.l0 (k + 1) y0 y1 y2))
  | 0 => fun _ _ _ r h => by simp [polyglotlaw06_Few.l0] at h
  | k + 1 => by
    have ih0 := polyglotlaw06_Few.mono_l k
    · intro y0 y1 y2
      unfold polyglotlaw06_Few.l0
      repeat' first
      | (with_reducible exact ih0 _ _ _)
      | (with_reducible exact LeO.refl _)
      | (with_reducible exact LeO.none _)
      | (with_reducible refine LeO.ite ?_ ?_)
      | (with_reducible refine LeO.bind ?_ (fun _ => ?_))
      | exact ih0 _ _ _
      | exact LeO.none _
      | refine LeO.ite ?_ ?_
      | refine LeO.bind ?_ (fun _ => ?_)
theorem polyglotlaw06_Few.mono : ∀ a0 k, LeO (polyglotlaw06_Few.f k a0) (polyglotlaw06_Few.f (k + 1) a0) := by
  intro a0 k
  have ih0 := polyglotlaw06_Few.mono_l k
  unfold polyglotlaw06_Few.f
  repeat' first
      | (with_reducible exact ih0 _ _ _)
      | (with_reducible exact LeO.refl _)
      | (with_reducible exact LeO.none _)
      | (with_reducible refine LeO.ite ?_ ?_)
      | (with_reducible refine LeO.bind ?_ (fun _ => ?_))
      | exact ih0 _ _ _
      | exact LeO.none _
      | refine LeO.ite ?_ ?_
      | refine LeO.bind ?_ (fun _ => ?_)
set_option maxHeartbeats 8000000 in
set_option maxRecDepth 100000 in
theorem polyglotlaw06_Few.calls (k : Nat) (A0 : Option Addr) (c0 : Nat) (l0 : List (S332)) (r : Bool) (w : World) (hr0 : Kd.C k332 w A0 l0.length l0) (hc0 : l0.length ≤ c0) (h : polyglotlaw06_Few.f k l0 = some r) :
    Calls Try.prog 132 #[.slice A0 l0.length c0] w fun e w' => e = .returned (.bool r) ∧ Drawn0 w w' := by
  have HR0 := Aside0.mk hr0
  have HC0 := Aside0.mk hc0
  clear hr0 hc0
  have H : (if (l0.length : Int) > 40 then (some false) else (polyglotlaw06_Few.l0 k l0 0 0)) = some r := h
  clear h
  by_cases c2 : (l0.length : Int) > 40
  · rw [if_pos c2] at H
    have c2b0 : decide (40 < (l0.length : Int)) = true := decide_eq_true c2
    have c2b1 : decide (40 < l0.length) = true := decide_eq_true (by omega)
    clear c2
    obtain rfl := Option.some.inj H
    go_enter Try.func132, Try.ntmps132
    go_wp2
    go_ret
    exact ⟨by first | rfl | (simp; done) | (simp [*]; done), by repeat (first | exact Drawn0.refl _ | apply Drawn0.step)⟩
  · rw [if_neg c2] at H
    have c2b0 : decide (40 < (l0.length : Int)) = false := decide_eq_false c2
    have c2b1 : decide (40 < l0.length) = false := decide_eq_false (by omega)
    clear c2
    have H' := Aside0.mk H
    clear H
    go_enter Try.func132, Try.ntmps132
    go_wp2
    go_loopg [3, 4] k (fun kq v3 v4 w' => ∃ (x3_1 : Int) (x4_1 : Int), v3 = .int .i64 x3_1 ∧ v4 = .int .i64 x4_1 ∧ Aside0 (polyglotlaw06_Few.l0 kq l0 x3_1 x4_1 = some r) ∧ Aside0 (kq ≤ k) ∧ Drawn0 w w')
    case atStart => exact ⟨(0), (0), (by first | rfl | (simp; done) | (simp [*]; done)), (by first | rfl | (simp; done) | (simp [*]; done)), H', ⟨Nat.le_refl _⟩, by repeat (first | exact Drawn0.refl _ | apply Drawn0.step)⟩
    case round =>
      clear H'
      try clear c1
      try clear c2
      try clear c2b0
      try clear c2b1
      try clear p2
      obtain ⟨x3_1, x4_1, rfl, rfl, HA, HK1, ⟨m1, rfl⟩⟩ := hrel
      cases gk with
      | zero => exact absurd HA.out (by simp [polyglotlaw06_Few.l0])
      | succ k1 =>
        have H := HA.out
        clear HA
        simp only [polyglotlaw06_Few.l0] at H
        by_cases c3 : x4_1 < (l0.length : Int)
        · rw [if_pos c3] at H
          have c3b0 : decide (x4_1 < (l0.length : Int)) = true := decide_eq_true c3
          clear c3
          by_cases c4 : 0 ≤ x4_1
          · rw [if_pos c4] at H
            have c4b0 : decide (0 ≤ x4_1) = true := decide_eq_true c4
            clear c4
            by_cases c5 : (wrap64 (x3_1 + (((rd_T332 l0 x4_1).f1).length : Int))) > 5000
            · rw [if_pos c5] at H
              have c5b0 : decide (5000 < (wrap64 (x3_1 + (((rd_T332 l0 x4_1).f1).length : Int)))) = true := decide_eq_true c5
              clear c5
              obtain rfl := Option.some.inj H
              have p101 : 0 ≤ (x4_1 : Int) := of_decide_eq_true (by first | (with_reducible assumption) | assumption)
              have q101 : x4_1 < (l0.length : Int) := of_decide_eq_true (by first | (with_reducible assumption) | assumption)
              obtain ⟨ad101, A101_1, c101_1, e101, hx101_0, hx101_1, hl101_1, hi101_1⟩ := at_T332 HR0.out x4_1 p101 q101
              cases e101
              have HR101_1 := Aside0.mk hi101_1
              have HC101_1 := Aside0.mk hl101_1
              clear hi101_1 hl101_1
              replace p101 := eq_true p101
              replace q101 := eq_true q101
              go_wp2
              go_ret
              exact ⟨by first | rfl | (simp; done) | (simp [*]; done), by repeat (first | exact Drawn0.refl _ | apply Drawn0.step)⟩
            · rw [if_neg c5] at H
              have c5b0 : decide (5000 < (wrap64 (x3_1 + (((rd_T332 l0 x4_1).f1).length : Int)))) = false := decide_eq_false c5
              clear c5
              have H' := Aside0.mk H
              clear H
              have p101 : 0 ≤ (x4_1 : Int) := of_decide_eq_true (by first | (with_reducible assumption) | assumption)
              have q101 : x4_1 < (l0.length : Int) := of_decide_eq_true (by first | (with_reducible assumption) | assumption)
              obtain ⟨ad101, A101_1, c101_1, e101, hx101_0, hx101_1, hl101_1, hi101_1⟩ := at_T332 HR0.out x4_1 p101 q101
              cases e101
              have HR101_1 := Aside0.mk hi101_1
              have HC101_1 := Aside0.mk hl101_1
              clear hi101_1 hl101_1
              replace p101 := eq_true p101
              replace q101 := eq_true q101
              go_wp2
              go_roundg k1
              case measure => have := HK1.out; omega
              case rel => exact ⟨(wrap64 (x3_1 + (((rd_T332 l0 x4_1).f1).length : Int))), (wrap64 (x4_1 + 1)), (by first | rfl | (simp; done) | (simp [*]; done)), (by first | rfl | (simp; done) | (simp [*]; done)), H', ⟨by have := HK1.out; omega⟩, by repeat (first | exact Drawn0.refl _ | apply Drawn0.step)⟩
          · rw [if_neg c4] at H
            exact absurd H (by simp)
        · rw [if_neg c3] at H
          have c3b0 : decide (x4_1 < (l0.length : Int)) = false := decide_eq_false c3
          clear c3
          obtain rfl := Option.some.inj H
          go_wp2
          go_ret
          exact ⟨by first | rfl | (simp; done) | (simp [*]; done), by repeat (first | exact Drawn0.refl _ | apply Drawn0.step)⟩

/-! ### polyglotlaw08_Few: function 26 -/
def polyglotlaw08_Few.l0 : Nat → List (S31) → Int → Option (Bool)
  | 0, _, _ => none
  | k + 1, x0, x3 => if x3 < (x0.length : Int) then (if 0 ≤ x3 then ((polyglotlaw06_Few.f k ((rd_T31 x0 x3).f5)).bind fun t103 => (if t103 = true then (polyglotlaw08_Few.l0 k x0 (wrap64 (x3 + 1))) else (some false))) else (none)) else (some true)
def polyglotlaw08_Few.f (k : Nat) (l0 : List (S31)) : Option (Bool) := if (l0.length : Int) > 20 then (some false) else (polyglotlaw08_Few.l0 k l0 0)
theorem polyglotlaw08_Few.mono_l : ∀ k, (∀ y0 y1, LeO (polyglotlaw08_Few.l0 k y0 y1) (polyglotlaw08_Few.l0 (k + 1) y0 y1))
  | 0 => fun _ _ r h => by simp [polyglotlaw08_Few.l0] at h
  | k + 1 => by
    have ih0 := polyglotlaw08_Few.mono_l k
    · intro y0 y1
      unfold polyglotlaw08_Few.l0
      repeat' first
      | (with_reducible exact ih0 _ _)
      | (with_reducible exact polyglotlaw06_Few.mono _ _)
      | (with_reducible exact LeO.refl _)
      | (with_reducible exact LeO.none _)
      | (with_reducible refine LeO.ite ?_ ?_)
      | (with_reducible refine LeO.bind ?_ (fun _ => ?_))
      | exact ih0 _ _
      | exact polyglotlaw06_Few.mono _ _
      | exact LeO.none _
      | refine LeO.ite ?_ ?_
      | refine LeO.bind ?_ (fun _ => ?_)
theorem polyglotlaw08_Few.mono : ∀ a0 k, LeO (polyglotlaw08_Few.f k a0) (polyglotlaw08_Few.f (k + 1) a0) := by
  intro a0 k
  have ih0 := polyglotlaw08_Few.mono_l k
  unfold polyglotlaw08_Few.f
  repeat' first
      | (with_reducible exact ih0 _ _)
      | (with_reducible exact polyglotlaw06_Few.mono _ _)
      | (with_reducible exact LeO.refl _)
      | (with_reducible exact LeO.none _)
      | (with_reducible refine LeO.ite ?_ ?_)
      | (with_reducible refine LeO.bind ?_ (fun _ => ?_))
      | exact ih0 _ _
      | exact polyglotlaw06_Few.mono _ _
      | exact LeO.none _
      | refine LeO.ite ?_ ?_
      | refine LeO.bind ?_ (fun _ => ?_)
set_option maxHeartbeats 8000000 in
set_option maxRecDepth 100000 in
theorem polyglotlaw08_Few.calls (k : Nat) (A0 : Option Addr) (c0 : Nat) (l0 : List (S31)) (r : Bool) (w : World) (hr0 : Kd.C k31 w A0 l0.length l0) (hc0 : l0.length ≤ c0) (h : polyglotlaw08_Few.f k l0 = some r) :
    Calls Try.prog 26 #[.slice A0 l0.length c0] w fun e w' => e = .returned (.bool r) ∧ Drawn0 w w' := by
  have HR0 := Aside0.mk hr0
  have HC0 := Aside0.mk hc0
  clear hr0 hc0
  have H : (if (l0.length : Int) > 20 then (some false) else (polyglotlaw08_Few.l0 k l0 0)) = some r := h
  clear h
  by_cases c2 : (l0.length : Int) > 20
  · rw [if_pos c2] at H
    have c2b0 : decide (20 < (l0.length : Int)) = true := decide_eq_true c2
    have c2b1 : decide (20 < l0.length) = true := decide_eq_true (by omega)
    clear c2
    obtain rfl := Option.some.inj H
    go_enter Try.func26, Try.ntmps26
    go_wp2
    go_ret
    exact ⟨by first | rfl | (simp; done) | (simp [*]; done), by repeat (first | exact Drawn0.refl _ | apply Drawn0.step)⟩
  · rw [if_neg c2] at H
    have c2b0 : decide (20 < (l0.length : Int)) = false := decide_eq_false c2
    have c2b1 : decide (20 < l0.length) = false := decide_eq_false (by omega)
    clear c2
    have H' := Aside0.mk H
    clear H
    go_enter Try.func26, Try.ntmps26
    go_wp2
    go_loopg [3] k (fun kq v3 w' => ∃ (x3_1 : Int), v3 = .int .i64 x3_1 ∧ Aside0 (polyglotlaw08_Few.l0 kq l0 x3_1 = some r) ∧ Aside0 (kq ≤ k) ∧ Drawn0 w w')
    case atStart => exact ⟨(0), (by first | rfl | (simp; done) | (simp [*]; done)), H', ⟨Nat.le_refl _⟩, by repeat (first | exact Drawn0.refl _ | apply Drawn0.step)⟩
    case round =>
      clear H'
      try clear c2
      try clear c2b0
      try clear c2b1
      try clear p2
      obtain ⟨x3_1, rfl, HA, HK1, ⟨m1, rfl⟩⟩ := hrel
      cases gk with
      | zero => exact absurd HA.out (by simp [polyglotlaw08_Few.l0])
      | succ k1 =>
        have H := HA.out
        clear HA
        simp only [polyglotlaw08_Few.l0] at H
        by_cases c3 : x3_1 < (l0.length : Int)
        · rw [if_pos c3] at H
          have c3b0 : decide (x3_1 < (l0.length : Int)) = true := decide_eq_true c3
          clear c3
          by_cases c4 : 0 ≤ x3_1
          · rw [if_pos c4] at H
            have c4b0 : decide (0 ≤ x3_1) = true := decide_eq_true c4
            clear c4
            replace H := Option.bind_eq_some_iff.mp H
            obtain ⟨t103, A50, H⟩ := H
            replace H : (if t103 = true then (polyglotlaw08_Few.l0 k1 l0 (wrap64 (x3_1 + 1))) else (some false)) = some r := H
            have A5 := Aside0.mk A50
            clear A50
            by_cases c6 : t103 = true
            · subst c6
              have H1 : (polyglotlaw08_Few.l0 k1 l0 (wrap64 (x3_1 + 1))) = some r := by rw [if_pos rfl] at H; exact H
              clear H
              have H := H1
              clear H1
              have H' := Aside0.mk H
              clear H
              have p102 : 0 ≤ (x3_1 : Int) := of_decide_eq_true (by first | (with_reducible assumption) | assumption)
              have q102 : x3_1 < (l0.length : Int) := of_decide_eq_true (by first | (with_reducible assumption) | assumption)
              obtain ⟨ad102, A102_6, c102_6, e102, hx102_0, hx102_1, hx102_2, hx102_3, hx102_4, hx102_5, hx102_6, hl102_6, hi102_6⟩ := at_T31 HR0.out x3_1 p102 q102
              cases e102
              have HR102_6 := Aside0.mk hi102_6
              have HC102_6 := Aside0.mk hl102_6
              clear hi102_6 hl102_6
              replace p102 := eq_true p102
              replace q102 := eq_true q102
              go_wp2_with (first | ((with_reducible refine gate_callee (f := 132) rfl ?_); refine goesL_ (some 18) rfl rfl Try.func132 (by kernel_rfl) rfl #[.slice A102_6 ((rd_T31 l0 x3_1).f5).length c102_6] rfl (by (try simp only [List.map_toArray, List.map_cons, List.map_nil]); first | done | rfl | (simp only [List.length_drop, List.length_take]; rfl)) ?_; (with_reducible refine (polyglotlaw06_Few.calls k1 _ _ ((rd_T31 l0 x3_1).f5) true _ ?side1 ?side2 A5.out).mono ?_); (case side1 => repeat (first | exact HR102_6.out | (with_reducible refine Kd.C_alloc ?_ _) | (with_reducible refine Kd.C_drewN ?_ _) | (with_reducible refine Kd.C_drew ?_))); (case side2 => exact HC102_6.out); rintro e w' ⟨rfl, ⟨nd, rfl⟩⟩; refine ⟨_, rfl, ?_⟩))
              go_roundg k1
              case measure => have := HK1.out; omega
              case rel => exact ⟨(wrap64 (x3_1 + 1)), (by first | rfl | (simp; done) | (simp [*]; done)), H', ⟨by have := HK1.out; omega⟩, by repeat (first | exact Drawn0.refl _ | apply Drawn0.step)⟩
            · replace c6 := Bool.eq_false_iff.mpr c6
              subst c6
              have H1 : (some false) = some r := by rw [if_neg (show ¬ (false = true) by decide)] at H; exact H
              clear H
              have H := H1
              clear H1
              obtain rfl := Option.some.inj H
              have p102 : 0 ≤ (x3_1 : Int) := of_decide_eq_true (by first | (with_reducible assumption) | assumption)
              have q102 : x3_1 < (l0.length : Int) := of_decide_eq_true (by first | (with_reducible assumption) | assumption)
              obtain ⟨ad102, A102_6, c102_6, e102, hx102_0, hx102_1, hx102_2, hx102_3, hx102_4, hx102_5, hx102_6, hl102_6, hi102_6⟩ := at_T31 HR0.out x3_1 p102 q102
              cases e102
              have HR102_6 := Aside0.mk hi102_6
              have HC102_6 := Aside0.mk hl102_6
              clear hi102_6 hl102_6
              replace p102 := eq_true p102
              replace q102 := eq_true q102
              go_wp2_with (first | ((with_reducible refine gate_callee (f := 132) rfl ?_); refine goesL_ (some 18) rfl rfl Try.func132 (by kernel_rfl) rfl #[.slice A102_6 ((rd_T31 l0 x3_1).f5).length c102_6] rfl (by (try simp only [List.map_toArray, List.map_cons, List.map_nil]); first | done | rfl | (simp only [List.length_drop, List.length_take]; rfl)) ?_; (with_reducible refine (polyglotlaw06_Few.calls k1 _ _ ((rd_T31 l0 x3_1).f5) false _ ?side1 ?side2 A5.out).mono ?_); (case side1 => repeat (first | exact HR102_6.out | (with_reducible refine Kd.C_alloc ?_ _) | (with_reducible refine Kd.C_drewN ?_ _) | (with_reducible refine Kd.C_drew ?_))); (case side2 => exact HC102_6.out); rintro e w' ⟨rfl, ⟨nd, rfl⟩⟩; refine ⟨_, rfl, ?_⟩))
              go_ret
              exact ⟨by first | rfl | (simp; done) | (simp [*]; done), by repeat (first | exact Drawn0.refl _ | apply Drawn0.step)⟩
          · rw [if_neg c4] at H
            exact absurd H (by simp)
        · rw [if_neg c3] at H
          have c3b0 : decide (x3_1 < (l0.length : Int)) = false := decide_eq_false c3
          clear c3
          obtain rfl := Option.some.inj H
          go_wp2
          go_ret
          exact ⟨by first | rfl | (simp; done) | (simp [*]; done), by repeat (first | exact Drawn0.refl _ | apply Drawn0.step)⟩

/-! ### api_Rec_135: function 135 -/
set_option maxHeartbeats 2000000 in
set_option maxRecDepth 100000 in
/-- rec.where over records, with whatever closure over one variable that goes by a step. -/
theorem where31.calls {σ : Type} (F : FuncId) (enc : σ → Array Value) (t : TypeId) (step : σ → S31 → Bool × σ) (g : Nat) (w0 : World) (hg0 : w0.heap.size ≤ g) (l : List S31)
    (hF : ∀ (args : Array Value) (W : World), (callFunc F args).run Try.prog W = .ok (.enter F args) W)
    (hclos : ∀ (s : σ) (x : S31) (A : Option Addr) (c : Nat) (W : World), x ∈ l → x.f5.length ≤ c → k332.C w0 A x.f5.length x.f5 → Below w0.heap.size w0 W → W.heap[g]? = some (.cells (enc s) t (0, 0)) →
      Calls Try.prog F #[.agg #[.int .i64 x.f0, .int .i64 x.f1, .int .i64 x.f2, .int .i64 x.f3.f0, .int .i64 x.f3.f1, .bool x.f4, .slice A x.f5.length c], .pointer (some ⟨g, 0, none⟩)] W fun e W' => e = .returned (.bool (step s x).1) ∧ W'.heap[g]? = some (.cells (enc (step s x).2) t (0, 0)) ∧ Below w0.heap.size w0 W' ∧ KeepBut W W' g none)
    (A : Option Addr) (c : Nat) (hl : Kd.C k31 w0 A l.length l) (hc : l.length ≤ c) (hlen : l.length ≤ 9223372036854775807) (s0 : σ) (w : World) (hB : Below w0.heap.size w0 w) (hs : w.heap[g]? = some (.cells (enc s0) t (0, 0))) :
    Calls Try.prog 135 #[.slice A l.length c, .func (.func F) #[] #[.pointer (some ⟨g, 0, none⟩)]] w fun e w' => e = .returned (.int .i64 (whr step s0 l : Nat)) ∧ (∃ s, w'.heap[g]? = some (.cells (enc s) t (0, 0))) ∧ Below w0.heap.size w0 w' ∧ KeepBut w w' g none := by
  have HL := Aside0.mk hl
  have HC := Aside0.mk hclos
  have HB := Aside0.mk hB
  have HS := Aside0.mk hs
  clear hl hclos hB hs
  have hu31 := Try.underlying31
  go_enter Try.func135, Try.ntmps135
  go_wp2
  go_loopw [9] (fun v9 wr => ∃ (k : Nat) (s : σ), k ≤ l.length ∧ v9 = .int .i64 k ∧ Aside0 (whr step s0 l = k + whr step s (l.drop k)) ∧ Aside0 (wr.heap[g]? = some (.cells (enc s) t (0, 0))) ∧ Aside0 (Below w0.heap.size w0 wr) ∧ Aside0 (KeepBut w wr g none)) (fun v9 _ => l.length - (intOf v9).toNat)
  case atStart => exact ⟨0, s0, Nat.zero_le _, rfl, ⟨by simp⟩, HS, HB, ⟨KeepBut.refl _ _ _⟩⟩
  case round =>
    obtain ⟨k, s, hk, rfl, HW, HS1, HB1, HK1⟩ := hrel
    clear HS HB
    by_cases hlt : k < l.length
    · obtain ⟨ad, A6, c6, e, x0, x1, x2, x3, x4, x5, x6, hl6, hi6⟩ := at_T31 HL.out (k : Int) (by omega) (by omega)
      cases e
      replace x0 := (HB1.out.cell (World.block_lt_of_cell? w0 _ x0)).trans x0
      replace x1 := (HB1.out.cell (World.block_lt_of_cell? w0 _ x1)).trans x1
      replace x2 := (HB1.out.cell (World.block_lt_of_cell? w0 _ x2)).trans x2
      replace x3 := (HB1.out.cell (World.block_lt_of_cell? w0 _ x3)).trans x3
      replace x4 := (HB1.out.cell (World.block_lt_of_cell? w0 _ x4)).trans x4
      replace x5 := (HB1.out.cell (World.block_lt_of_cell? w0 _ x5)).trans x5
      replace x6 := (HB1.out.cell (World.block_lt_of_cell? w0 _ x6)).trans x6
      have H6 := Aside0.mk hl6
      have I6 := Aside0.mk hi6
      clear hl6 hi6
      simp only [Int.toNat_natCast] at x0 x1 x2 x3 x4 x5 x6
      have hmem : rd_T31 l (k : Int) ∈ l := by
        have : rd_T31 l (k : Int) = l[k] := by simp [rd_T31, List.getD_eq_getElem?_getD, List.getElem?_eq_getElem hlt]
        rw [this]; exact List.getElem_mem hlt
      have HM := Aside0.mk hmem
      clear hmem
      have hd := drop_rd l k hlt
      cases hst : (step s (rd_T31 l (k : Int))).1
      · have HW2 := Aside0.mk (show whr step s0 l = (k + 1) + whr step (step s (rd_T31 l (k : Int))).2 (l.drop (k + 1)) by
          rw [HW.out, hd, whr, hst]; simp; omega)
        clear hd
        go_wp2_with ((with_reducible refine (HC.out s (rd_T31 l (k : Int)) A6 c6 _ HM.out H6.out I6.out ?hB ?hS).mono ?_); (case hB => exact below_alloc_of HB1.out _); (case hS => exact blk_alloc HS1.out _); rintro e w2 ⟨rfl, hs2, hB2, hK2⟩; (have HS2 := Aside0.mk hs2); (have HB2 := Aside0.mk hB2); (have HK2 := Aside0.mk hK2); clear hs2 hB2 hK2)
        go_roundw
        case rel => exact ⟨k + 1, _, hlt, by go_num, HW2, HS2, HB2, ⟨keep3 HK1.out HK2.out⟩⟩
        case measure => simp [intOf]; omega
      · have HW2 := Aside0.mk (show whr step s0 l = k by rw [HW.out, hd, whr, hst]; simp)
        clear hd
        go_wp2_with ((with_reducible refine (HC.out s (rd_T31 l (k : Int)) A6 c6 _ HM.out H6.out I6.out ?hB ?hS).mono ?_); (case hB => exact below_alloc_of HB1.out _); (case hS => exact blk_alloc HS1.out _); rintro e w2 ⟨rfl, hs2, hB2, hK2⟩; (have HS2 := Aside0.mk hs2); (have HB2 := Aside0.mk hB2); (have HK2 := Aside0.mk hK2); clear hs2 hB2 hK2)
        go_ret
        exact ⟨by rw [HW2.out]; rfl, ⟨_, HS2.out⟩, HB2.out, keep3 HK1.out HK2.out⟩
    · have HW2 := Aside0.mk (show whr step s0 l = l.length by
        rw [HW.out, List.drop_eq_nil_of_le (by omega)]; simp [whr]; omega)
      go_wp2
      go_ret
      exact ⟨by rw [HW2.out]; rfl, ⟨_, HS1.out⟩, HB1.out, HK1.out⟩


/-! ### span_Valid: function 51 -/
def span_Valid.f (a0_0 : Int) (a0_1 : Int) : Option (Bool) := if a0_0 ≥ 1 then (if a0_0 ≤ a0_1 then (some (decide (a0_1 ≤ 3))) else (some false)) else (some false)
set_option maxHeartbeats 8000000 in
set_option maxRecDepth 100000 in
theorem span_Valid.calls (a0_0 : Int) (a0_1 : Int) (r : Bool) (w : World) (h : span_Valid.f a0_0 a0_1 = some r) :
    Calls Try.prog 51 #[.agg #[.int .i64 a0_0, .int .i64 a0_1]] w fun e w' => e = .returned (.bool r) ∧ Below w.heap.size w w' := by
  have hu28 := Try.underlying28
  have HB := Aside0.mk (Below.refl w.heap.size w)
  have H : (if a0_0 ≥ 1 then (if a0_0 ≤ a0_1 then (some (decide (a0_1 ≤ 3))) else (some false)) else (some false)) = some r := h
  clear h
  by_cases c2 : a0_0 ≥ 1
  · rw [if_pos c2] at H
    have c2b0 : decide (1 ≤ a0_0) = true := decide_eq_true c2
    clear c2
    by_cases c3 : a0_0 ≤ a0_1
    · rw [if_pos c3] at H
      have c3b0 : decide (a0_0 ≤ a0_1) = true := decide_eq_true c3
      clear c3
      obtain rfl := Option.some.inj H
      go_enter Try.func51, Try.ntmps51
      go_wp2_with (first | ((with_reducible refine gate_dst (N := 1) rfl ?_); refine box_event ?hg (N := 1) ?hd (cs := #[.int .i64 a0_0, .int .i64 a0_1]) (t := 28) ?hr ?_; (case hd => rfl); (case hg => rfl); (case hr => first | (go_simp; done) | (go_simp; rfl)); intro gb104 hg w4 hbox hb; have n0_ := Aside0.mk (below_step (by repeat (first | (with_reducible first | exact HB.out | apply below_alloc | apply pw_below_drewN | apply below_drew1) | exact HB.out)) hb); have n1_ := Aside0.mk (hbox); have n2_ := Aside0.mk ((by rw [hg]; exact (below_size (by repeat (first | (with_reducible first | exact HB.out | apply below_alloc | apply pw_below_drewN | apply below_drew1) | exact HB.out))) : w.heap.size ≤ gb104)); have n3_ := Aside0.mk ((by rw [hg]; exact (below_size (by repeat (first | (with_reducible first | exact HB.out | apply below_alloc | apply pw_below_drewN | apply below_drew1) | exact HB.out))) : w.heap.size ≤ gb104)); clear HB; have HB := n0_; have BK104 := n1_; have GW104 := n2_; have GE104 := n3_; clear n0_ n1_ n2_ n3_; clear hb hbox hg; have hcz5_0 : w4.cell? ⟨gb104, 0, none⟩ = some (.int .i64 a0_0) := (blk_cell BK104.out 0).trans rfl; have hcz5_1 : w4.cell? ⟨gb104, 1, none⟩ = some (.int .i64 a0_1) := (blk_cell BK104.out 1).trans rfl; have hfz5_0 := blk_frozen BK104.out 0; have hfz5_1 := blk_frozen BK104.out 1))
      go_ret
      exact ⟨by first | rfl | (simp [errW_none, errW_some] <;> rfl) | (simp [*, errW_none, errW_some] <;> rfl), by repeat (first | (with_reducible first | exact HB.out | apply below_alloc | apply pw_below_drewN | apply below_drew1 | refine below_set ?_ GE104.out) | exact HB.out)⟩
    · rw [if_neg c3] at H
      have c3b0 : decide (a0_0 ≤ a0_1) = false := decide_eq_false c3
      clear c3
      obtain rfl := Option.some.inj H
      go_enter Try.func51, Try.ntmps51
      go_wp2_with (first | ((with_reducible refine gate_dst (N := 1) rfl ?_); refine box_event ?hg (N := 1) ?hd (cs := #[.int .i64 a0_0, .int .i64 a0_1]) (t := 28) ?hr ?_; (case hd => rfl); (case hg => rfl); (case hr => first | (go_simp; done) | (go_simp; rfl)); intro gb104 hg w6 hbox hb; have n0_ := Aside0.mk (below_step (by repeat (first | (with_reducible first | exact HB.out | apply below_alloc | apply pw_below_drewN | apply below_drew1) | exact HB.out)) hb); have n1_ := Aside0.mk (hbox); have n2_ := Aside0.mk ((by rw [hg]; exact (below_size (by repeat (first | (with_reducible first | exact HB.out | apply below_alloc | apply pw_below_drewN | apply below_drew1) | exact HB.out))) : w.heap.size ≤ gb104)); have n3_ := Aside0.mk ((by rw [hg]; exact (below_size (by repeat (first | (with_reducible first | exact HB.out | apply below_alloc | apply pw_below_drewN | apply below_drew1) | exact HB.out))) : w.heap.size ≤ gb104)); clear HB; have HB := n0_; have BK104 := n1_; have GW104 := n2_; have GE104 := n3_; clear n0_ n1_ n2_ n3_; clear hb hbox hg; have hcz7_0 : w6.cell? ⟨gb104, 0, none⟩ = some (.int .i64 a0_0) := (blk_cell BK104.out 0).trans rfl; have hcz7_1 : w6.cell? ⟨gb104, 1, none⟩ = some (.int .i64 a0_1) := (blk_cell BK104.out 1).trans rfl; have hfz7_0 := blk_frozen BK104.out 0; have hfz7_1 := blk_frozen BK104.out 1))
      go_ret
      exact ⟨by first | rfl | (simp [errW_none, errW_some] <;> rfl) | (simp [*, errW_none, errW_some] <;> rfl), by repeat (first | (with_reducible first | exact HB.out | apply below_alloc | apply pw_below_drewN | apply below_drew1 | refine below_set ?_ GE104.out) | exact HB.out)⟩
  · rw [if_neg c2] at H
    have c2b0 : decide (1 ≤ a0_0) = false := decide_eq_false c2
    clear c2
    obtain rfl := Option.some.inj H
    go_enter Try.func51, Try.ntmps51
    go_wp2_with (first | ((with_reducible refine gate_dst (N := 1) rfl ?_); refine box_event ?hg (N := 1) ?hd (cs := #[.int .i64 a0_0, .int .i64 a0_1]) (t := 28) ?hr ?_; (case hd => rfl); (case hg => rfl); (case hr => first | (go_simp; done) | (go_simp; rfl)); intro gb104 hg w8 hbox hb; have n0_ := Aside0.mk (below_step (by repeat (first | (with_reducible first | exact HB.out | apply below_alloc | apply pw_below_drewN | apply below_drew1) | exact HB.out)) hb); have n1_ := Aside0.mk (hbox); have n2_ := Aside0.mk ((by rw [hg]; exact (below_size (by repeat (first | (with_reducible first | exact HB.out | apply below_alloc | apply pw_below_drewN | apply below_drew1) | exact HB.out))) : w.heap.size ≤ gb104)); have n3_ := Aside0.mk ((by rw [hg]; exact (below_size (by repeat (first | (with_reducible first | exact HB.out | apply below_alloc | apply pw_below_drewN | apply below_drew1) | exact HB.out))) : w.heap.size ≤ gb104)); clear HB; have HB := n0_; have BK104 := n1_; have GW104 := n2_; have GE104 := n3_; clear n0_ n1_ n2_ n3_; clear hb hbox hg; have hcz9_0 : w8.cell? ⟨gb104, 0, none⟩ = some (.int .i64 a0_0) := (blk_cell BK104.out 0).trans rfl; have hcz9_1 : w8.cell? ⟨gb104, 1, none⟩ = some (.int .i64 a0_1) := (blk_cell BK104.out 1).trans rfl; have hfz9_0 := blk_frozen BK104.out 0; have hfz9_1 := blk_frozen BK104.out 1))
    go_ret
    exact ⟨by first | rfl | (simp [errW_none, errW_some] <;> rfl) | (simp [*, errW_none, errW_some] <;> rfl), by repeat (first | (with_reducible first | exact HB.out | apply below_alloc | apply pw_below_drewN | apply below_drew1 | refine below_set ?_ GE104.out) | exact HB.out)⟩

def spanV (lo hi : Int) : Bool := decide (1 ≤ lo ∧ lo ≤ hi ∧ hi ≤ 3)
theorem span_Valid_f (lo hi : Int) : span_Valid.f lo hi = some (spanV lo hi) := by
  unfold span_Valid.f spanV
  by_cases h1 : lo ≥ 1 <;> by_cases h2 : lo ≤ hi <;> simp [h1, h2] <;> omega

end Go.Proofs.Ythajahdjkmfnnaa.DL
