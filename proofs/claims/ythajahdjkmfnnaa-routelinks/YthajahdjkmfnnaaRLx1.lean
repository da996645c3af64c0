-- Printed by a program of this session (wip/pp.py) over the kit's printer, with functions proved by hand among them.
import Derived.Test.YthajahdjkmfnnaaRLx0
namespace Go.Proofs.Ythajahdjkmfnnaa.RL
open Go.RowKit Go.Proofs.YthajahdjkmfnnaaW.PrintWords Go.Proofs.YthajahdjkmfnnaaW.PrintLast Go.Proofs.YthajahdjkmfnnaaW.PrintMore
attribute [local go_sem] max2_int min2_int max_two min_two max_three min_three max_four min_four   -- for this text's walks alone
set_option linter.unusedVariables false
set_option linter.unusedSimpArgs false

theorem beq_cast (a b : Nat) : ((a : Int) == (b : Int)) = decide (a = b) := by
  by_cases h : a = b
  · simp [h]
  · have h2 : ¬ (a : Int) = (b : Int) := by omega
    simp [h, h2]
theorem w64 {n : Int} (h0 : -9223372036854775808 ≤ n) (h : n ≤ 9223372036854775807) : wrap64 n = n := by unfold wrap64; omega
theorem below_alloc_of {w0 w : World} (h : Below w0.heap.size w0 w) (o : Obj) : Below w0.heap.size w0 (w.alloc o) := h.alloc h.size o
theorem keep3 {w wr w2 : World} {g : Nat} {o : Obj} (h : KeepBut w wr g none) (k : KeepBut (wr.alloc o) w2 g none) : KeepBut w w2 g none :=
  (h.trans (KeepBut.of_below (below_alloc (Below.refl _ _) o) g none) (.inl rfl)).trans k (.inl rfl)
theorem keep_after {W w2 : World} {o : Obj} {g : Nat} (hb : Below (W.alloc o).heap.size (W.alloc o) w2) : KeepBut W w2 g none :=
  (KeepBut.of_below (below_alloc (Below.refl _ _) o) g none).trans (KeepBut.of_below hb g none) (.inl rfl)
/-- The first place at which a step says yes; the length: nowhere. -/
def whr {σ α : Type} (step : σ → α → Bool × σ) : σ → List α → Nat
  | _, [] => 0
  | s, x :: xs => if (step s x).1 then 0 else whr step (step s x).2 xs + 1
theorem whr_le {σ α : Type} (step : σ → α → Bool × σ) : ∀ (s : σ) (l : List α), whr step s l ≤ l.length
  | _, [] => Nat.le_refl _
  | s, x :: xs => by
    unfold whr
    split
    · exact Nat.zero_le _
    · have := whr_le step (step s x).2 xs
      simp only [List.length_cons]; omega
theorem drop_rd (l : List S31) (k : Nat) (h : k < l.length) : l.drop k = rd_T31 l (k : Int) :: l.drop (k + 1) := by
  rw [List.drop_eq_getElem_cons h]
  simp [rd_T31, List.getD_eq_getElem?_getD, List.getElem?_eq_getElem h]
theorem drop_rd332 (l : List S332) (k : Nat) (h : k < l.length) : l.drop k = rd_T332 l (k : Int) :: l.drop (k + 1) := by
  rw [List.drop_eq_getElem_cons h]
  simp [rd_T332, List.getD_eq_getElem?_getD, List.getElem?_eq_getElem h]
theorem drop_rd28 (l : List S28) (k : Nat) (h : k < l.length) : l.drop k = rd_T28 l (k : Int) :: l.drop (k + 1) := by
  rw [List.drop_eq_getElem_cons h]
  simp [rd_T28, List.getD_eq_getElem?_getD, List.getElem?_eq_getElem h]
theorem S_set1 {α : Type} {d : Kd α} {e : Nat} {w : World} {base : Nat} {v : Value} {xs : List α} (h : Kd.S d e w base (fun _ => True) v xs) {p : Addr} (hp : p.block < base) (u : Value) : Kd.S d e (w.setCell p u) base (fun _ => True) v xs :=
  Kd.S_mono (Kd.S_far (Kd.S_bound h) (fun k hk => by have := hk.2.1; omega) u) (fun _ _ => trivial)
theorem R_set1 {α : Type} {d : Kd α} {e : Nat} {w : World} {base : Nat} {v : Value} {xs : List α} (h : Kd.R d e w base (fun _ => True) v xs) {p : Addr} (hp : p.block < base) (u : Value) : Kd.R d e (w.setCell p u) base (fun _ => True) v xs :=
  Kd.R_mono (Kd.R_far (Kd.R_bound h) (fun k hk => by have := hk.2.1; omega) u) (fun _ _ => trivial)
theorem sz31 : (Try.prog.info? 31).map (·.size) = some 7 := by kernel_rfl
theorem sz28 : (Try.prog.info? 28).map (·.size) = some 2 := by kernel_rfl
/-- A bag that make and append have room for. -/
def smallB (l : List S332) : Bool := decide (l.length < 4398046511104) && l.all (fun f => decide (f.f1.length < 140737488355328))
theorem smallB_rd {l : List S332} (h : smallB l = true) (i : Nat) (hi : i < l.length) : (rd_T332 l (i : Int)).f1.length < 140737488355328 := by
  simp only [smallB, Bool.and_eq_true, List.all_eq_true, decide_eq_true_eq] at h
  have : rd_T332 l (i : Int) = l[i] := by simp [rd_T332, List.getD_eq_getElem?_getD, List.getElem?_eq_getElem hi]
  rw [this]; exact h.2 _ (List.getElem_mem hi)
/-- Nothing that was there has turned. -/
def Blw (w w' : World) : Prop := Below w.heap.size w w'
@[simp] theorem Blw_drew (a w : World) : Blw a w.drew = Blw a w := propext ⟨fun h => ⟨h.os, h.tape, h.output, h.size, h.block⟩, fun h => Below.drew h⟩
theorem below_of_drew {w w2 : World} (h : Below w.drew.heap.size w.drew w2) : Below w.heap.size w w2 := ⟨h.os, h.tape, h.output, h.size, h.block⟩
theorem Blw.out {a w : World} (h : Blw a w) : Below a.heap.size a w := h
theorem Blw.step {a w w2 : World} (h : Blw a w) (k : Below w.heap.size w w2) : Blw a w2 := below_then h h.size k
def ints (xs : List Int) : Array Value := (xs.map (Value.int .i64)).toArray
theorem ints_cell {w : World} {g : Nat} {xs : List Int} (h : w.heap[g]? = some (.cells (ints xs) 3 (0, 0))) (k : Nat) (hk : k < xs.length) : w.cell? ⟨g, k, none⟩ = some (.int .i64 (rd xs (k : Int))) := by
  rw [blk_cell h k]
  simp [ints, rd, List.getElem?_eq_getElem hk, List.getD_eq_getElem?_getD]
theorem ints_set {w : World} {g : Nat} {xs : List Int} (h : w.heap[g]? = some (.cells (ints xs) 3 (0, 0))) (k : Nat) (v : Int) : (w.setCell ⟨g, k, none⟩ (.int .i64 v)).heap[g]? = some (.cells (ints (xs.set k v)) 3 (0, 0)) := by
  rw [blk_set h k]
  simp [ints]
def natsI (xs : List Nat) : List Int := xs.map (fun n : Nat => (n : Int))
theorem natsI_snoc (xs : List Nat) (k : Nat) : natsI (xs ++ [k]) = natsI xs ++ [(k : Int)] := by simp [natsI]
theorem natsI_len (xs : List Nat) : (natsI xs).length = xs.length := by simp [natsI]

/-! ### polyglotlaw06_Few: function 132 -/
def polyglotlaw06_Few.l0 : Nat → List (S332) → Int → Int → Option (Bool)
  | 0, _, _, _ => none
  | k + 1, x0, x3, x4 => if x4 < (x0.length : Int) then (if 0 ≤ x4 then (if (wrap64 (x3 + (((rd_T332 x0 x4).f1).length : Int))) > 5000 then (some false) else (polyglotlaw06_Few.l0 k x0 (wrap64 (x3 + (((rd_T332 x0 x4).f1).length : Int))) (wrap64 (x4 + 1)))) else (none)) else (some true)
def polyglotlaw06_Few.f (k : Nat) (l0 : List (S332)) : Option (Bool) := if (l0.length : Int) > 40 then (some false) else (polyglotlaw06_Few.l0 k l0 0 0)
theorem polyglotlaw06_Few.mono_l : ∀ k, (∀ y0 y1 y2, LeO (polyglotlaw06_Few.l0 k y0 y1 y2) (polyglotlaw06_Few.l0 (k + 1) y0 y1 y2))
  | 0 => fun _ _ _ r h => by simp [polyglotlaw06_Few.l0] at h
  | k + 1 => by
    have ih0 := polyglotlaw06_Few.mono_l k
    · intro y0 y1 y2
      unfold polyglotlaw06_Few.l0
      repeat' first
      | (with_reducible exact ih0 _ _ _)
      | (with_reducible exact LeO.refl _)
      | (with_reducible exact LeO.none _)
      | (with_reducible refine LeO.ite ?_ ?_)
      | (with_reducible refine LeO.bind ?_ (fun _ => ?_))
      | exact ih0 _ _ _
      | exact LeO.none _
      | refine LeO.ite ?_ ?_
      | refine LeO.bind ?_ (fun _ => ?_)
theorem polyglotlaw06_Few.mono : ∀ a0 k, LeO (polyglotlaw06_Few.f k a0) (polyglotlaw06_Few.f (k + 1) a0) := by
  intro a0 k
  have ih0 := polyglotlaw06_Few.mono_l k
  unfold polyglotlaw06_Few.f
  repeat' first
      | (with_reducible exact ih0 _ _ _)
      | (with_reducible exact LeO.refl _)
      | (with_reducible exact LeO.none _)
      | (with_reducible refine LeO.ite ?_ ?_)
      | (with_reducible refine LeO.bind ?_ (fun _ => ?_))
      | exact ih0 _ _ _
      | exact LeO.none _
      | refine LeO.ite ?_ ?_
      | refine LeO.bind ?_ (fun _ => ?_)
set_option maxHeartbeats 8000000 in
set_option maxRecDepth 100000 in
theorem polyglotlaw06_Few.calls (k : Nat) (A0 : Option Addr) (c0 : Nat) (l0 : List (S332)) (r : Bool) (w : World) (hr0 : Kd.C k332 w A0 l0.length l0) (hc0 : l0.length ≤ c0) (h : polyglotlaw06_Few.f k l0 = some r) :
    Calls Try.prog 132 #[.slice A0 l0.length c0] w fun e w' => e = .returned (.bool r) ∧ Drawn0 w w' := by
  have HR0 := Aside0.mk hr0
  have HC0 := Aside0.mk hc0
  clear hr0 hc0
  have H : (if (l0.length : Int) > 40 then (some false) else (polyglotlaw06_Few.l0 k l0 0 0)) = some r := h
  clear h
  by_cases c2 : (l0.length : Int) > 40
  · rw [if_pos c2] at H
    have c2b0 : decide (40 < (l0.length : Int)) = true := decide_eq_true c2
    have c2b1 : decide (40 < l0.length) = true := decide_eq_true (by omega)
    clear c2
    obtain rfl := Option.some.inj H
    go_enter Try.func132, Try.ntmps132
    go_wp2
    go_ret
    exact ⟨by first | rfl | (simp; done) | (simp [*]; done), by repeat (first | exact Drawn0.refl _ | apply Drawn0.step)⟩
  · rw [if_neg c2] at H
    have c2b0 : decide (40 < (l0.length : Int)) = false := decide_eq_false c2
    have c2b1 : decide (40 < l0.length) = false := decide_eq_false (by omega)
    clear c2
    have H' := Aside0.mk H
    clear H
    go_enter Try.func132, Try.ntmps132
    go_wp2
    go_loopg [3, 4] k (fun kq v3 v4 w' => ∃ (x3_1 : Int) (x4_1 : Int), v3 = .int .i64 x3_1 ∧ v4 = .int .i64 x4_1 ∧ Aside0 (polyglotlaw06_Few.l0 kq l0 x3_1 x4_1 = some r) ∧ Aside0 (kq ≤ k) ∧ Drawn0 w w')
    case atStart => exact ⟨(0), (0), (by first | rfl | (simp; done) | (simp [*]; done)), (by first | rfl | (simp; done) | (simp [*]; done)), H', ⟨Nat.le_refl _⟩, by repeat (first | exact Drawn0.refl _ | apply Drawn0.step)⟩
    case round =>
      clear H'
      try clear c1
      try clear c2
      try clear c2b0
      try clear c2b1
      try clear p2
      obtain ⟨x3_1, x4_1, rfl, rfl, HA, HK1, ⟨m1, rfl⟩⟩ := hrel
      cases gk with
      | zero => exact absurd HA.out (by simp [polyglotlaw06_Few.l0])
      | succ k1 =>
        have H := HA.out
        clear HA
        simp only [polyglotlaw06_Few.l0] at H
        by_cases c3 : x4_1 < (l0.length : Int)
        · rw [if_pos c3] at H
          have c3b0 : decide (x4_1 < (l0.length : Int)) = true := decide_eq_true c3
          clear c3
          by_cases c4 : 0 ≤ x4_1
          · rw [if_pos c4] at H
            have c4b0 : decide (0 ≤ x4_1) = true := decide_eq_true c4
            clear c4
            by_cases c5 : (wrap64 (x3_1 + (((rd_T332 l0 x4_1).f1).length : Int))) > 5000
            · rw [if_pos c5] at H
              have c5b0 : decide (5000 < (wrap64 (x3_1 + (((rd_T332 l0 x4_1).f1).length : Int)))) = true := decide_eq_true c5
              clear c5
              obtain rfl := Option.some.inj H
              have p101 : 0 ≤ (x4_1 : Int) := of_decide_eq_true (by first | (with_reducible assumption) | assumption)
              have q101 : x4_1 < (l0.length : Int) := of_decide_eq_true (by first | (with_reducible assumption) | assumption)
              obtain ⟨ad101, A101_1, c101_1, e101, hx101_0, hx101_1, hl101_1, hi101_1⟩ := at_T332 HR0.out x4_1 p101 q101
              cases e101
              have HR101_1 := Aside0.mk hi101_1
              have HC101_1 := Aside0.mk hl101_1
              clear hi101_1 hl101_1
              replace p101 := eq_true p101
              replace q101 := eq_true q101
              go_wp2
              go_ret
              exact ⟨by first | rfl | (simp; done) | (simp [*]; done), by repeat (first | exact Drawn0.refl _ | apply Drawn0.step)⟩
            · rw [if_neg c5] at H
              have c5b0 : decide (5000 < (wrap64 (x3_1 + (((rd_T332 l0 x4_1).f1).length : Int)))) = false := decide_eq_false c5
              clear c5
              have H' := Aside0.mk H
              clear H
              have p101 : 0 ≤ (x4_1 : Int) := of_decide_eq_true (by first | (with_reducible assumption) | assumption)
              have q101 : x4_1 < (l0.length : Int) := of_decide_eq_true (by first | (with_reducible assumption) | assumption)
              obtain ⟨ad101, A101_1, c101_1, e101, hx101_0, hx101_1, hl101_1, hi101_1⟩ := at_T332 HR0.out x4_1 p101 q101
              cases e101
              have HR101_1 := Aside0.mk hi101_1
              have HC101_1 := Aside0.mk hl101_1
              clear hi101_1 hl101_1
              replace p101 := eq_true p101
              replace q101 := eq_true q101
              go_wp2
              go_roundg k1
              case measure => have := HK1.out; omega
              case rel => exact ⟨(wrap64 (x3_1 + (((rd_T332 l0 x4_1).f1).length : Int))), (wrap64 (x4_1 + 1)), (by first | rfl | (simp; done) | (simp [*]; done)), (by first | rfl | (simp; done) | (simp [*]; done)), H', ⟨by have := HK1.out; omega⟩, by repeat (first | exact Drawn0.refl _ | apply Drawn0.step)⟩
          · rw [if_neg c4] at H
            exact absurd H (by simp)
        · rw [if_neg c3] at H
          have c3b0 : decide (x4_1 < (l0.length : Int)) = false := decide_eq_false c3
          clear c3
          obtain rfl := Option.some.inj H
          go_wp2
          go_ret
          exact ⟨by first | rfl | (simp; done) | (simp [*]; done), by repeat (first | exact Drawn0.refl _ | apply Drawn0.step)⟩

/-! ### polyglotlaw08_Few: function 26 -/
def polyglotlaw08_Few.l0 : Nat → List (S31) → Int → Option (Bool)
  | 0, _, _ => none
  | k + 1, x0, x3 => if x3 < (x0.length : Int) then (if 0 ≤ x3 then ((polyglotlaw06_Few.f k ((rd_T31 x0 x3).f5)).bind fun t103 => (if t103 = true then (polyglotlaw08_Few.l0 k x0 (wrap64 (x3 + 1))) else (some false))) else (none)) else (some true)
def polyglotlaw08_Few.f (k : Nat) (l0 : List (S31)) : Option (Bool) := if (l0.length : Int) > 20 then (some false) else (polyglotlaw08_Few.l0 k l0 0)
theorem polyglotlaw08_Few.mono_l : ∀ k, (∀ y0 y1, LeO (polyglotlaw08_Few.l0 k y0 y1) (polyglotlaw08_Few.l0 (k + 1) y0 y1))
  | 0 => fun _ _ r h => by simp [polyglotlaw08_Few.l0] at h
  | k + 1 => by
    have ih0 := polyglotlaw08_Few.mono_l k
    · intro y0 y1
      unfold polyglotlaw08_Few.l0
      repeat' first
      | (with_reducible exact ih0 _ _)
      | (with_reducible exact polyglotlaw06_Few.mono _ _)
      | (with_reducible exact LeO.refl _)
      | (with_reducible exact LeO.none _)
      | (with_reducible refine LeO.ite ?_ ?_)
      | (with_reducible refine LeO.bind ?_ (fun _ => ?_))
      | exact ih0 _ _
      | exact polyglotlaw06_Few.mono _ _
      | exact LeO.none _
      | refine LeO.ite ?_ ?_
      | refine LeO.bind ?_ (fun _ => ?_)
theorem polyglotlaw08_Few.mono : ∀ a0 k, LeO (polyglotlaw08_Few.f k a0) (polyglotlaw08_Few.f (k + 1) a0) := by
  intro a0 k
  have ih0 := polyglotlaw08_Few.mono_l k
  unfold polyglotlaw08_Few.f
  repeat' first
      | (with_reducible exact ih0 _ _)
      | (with_reducible exact polyglotlaw06_Few.mono _ _)
      | (with_reducible exact LeO.refl _)
      | (with_reducible exact LeO.none _)
      | (with_reducible refine LeO.ite ?_ ?_)
      | (with_reducible refine LeO.bind ?_ (fun _ => ?_))
      | exact ih0 _ _
      | exact polyglotlaw06_Few.mono _ _
      | exact LeO.none _
      | refine LeO.ite ?_ ?_
      | refine LeO.bind ?_ (fun _ => ?_)
set_option maxHeartbeats 8000000 in
set_option maxRecDepth 100000 in
theorem polyglotlaw08_Few.calls (k : Nat) (A0 : Option Addr) (c0 : Nat) (l0 : List (S31)) (r : Bool) (w : World) (hr0 : Kd.C k31 w A0 l0.length l0) (hc0 : l0.length ≤ c0) (h : polyglotlaw08_Few.f k l0 = some r) :
    Calls Try.prog 26 #[.slice A0 l0.length c0] w fun e w' => e = .returned (.bool r) ∧ Drawn0 w w' := by
  have HR0 := Aside0.mk hr0
  have HC0 := Aside0.mk hc0
  clear hr0 hc0
  have H : (if (l0.length : Int) > 20 then (some false) else (polyglotlaw08_Few.l0 k l0 0)) = some r := h
  clear h
  by_cases c2 : (l0.length : Int) > 20
  · rw [if_pos c2] at H
    have c2b0 : decide (20 < (l0.length : Int)) = true := decide_eq_true c2
    have c2b1 : decide (20 < l0.length) = true := decide_eq_true (by omega)
    clear c2
    obtain rfl := Option.some.inj H
    go_enter Try.func26, Try.ntmps26
    go_wp2
    go_ret
    exact ⟨by first | rfl | (simp; done) | (simp [*]; done), by repeat (first | exact Drawn0.refl _ | apply Drawn0.step)⟩
  · rw [if_neg c2] at H
    have c2b0 : decide (20 < (l0.length : Int)) = false := decide_eq_false c2
    have c2b1 : decide (20 < l0.length) = false := decide_eq_false (by omega)
    clear c2
    have H' := Aside0.mk H
    clear H
    go_enter Try.func26, Try.ntmps26
    go_wp2
    go_loopg [3] k (fun kq v3 w' => ∃ (x3_1 : Int), v3 = .int .i64 x3_1 ∧ Aside0 (polyglotlaw08_Few.l0 kq l0 x3_1 = some r) ∧ Aside0 (kq ≤ k) ∧ Drawn0 w w')
    case atStart => exact ⟨(0), (by first | rfl | (simp; done) | (simp [*]; done)), H', ⟨Nat.le_refl _⟩, by repeat (first | exact Drawn0.refl _ | apply Drawn0.step)⟩
    case round =>
      clear H'
      try clear c2
      try clear c2b0
      try clear c2b1
      try clear p2
      obtain ⟨x3_1, rfl, HA, HK1, ⟨m1, rfl⟩⟩ := hrel
      cases gk with
      | zero => exact absurd HA.out (by simp [polyglotlaw08_Few.l0])
      | succ k1 =>
        have H := HA.out
        clear HA
        simp only [polyglotlaw08_Few.l0] at H
        by_cases c3 : x3_1 < (l0.length : Int)
        · rw [if_pos c3] at H
          have c3b0 : decide (x3_1 < (l0.length : Int)) = true := decide_eq_true c3
          clear c3
          by_cases c4 : 0 ≤ x3_1
          · rw [if_pos c4] at H
            have c4b0 : decide (0 ≤ x3_1) = true := decide_eq_true c4
            clear c4
            replace H := Option.bind_eq_some_iff.mp H
            obtain ⟨t103, A50, H⟩ := H
            replace H : (if t103 = true then (polyglotlaw08_Few.l0 k1 l0 (wrap64 (x3_1 + 1))) else (some false)) = some r := H
            have A5 := Aside0.mk A50
            clear A50
            by_cases c6 : t103 = true
            · subst c6
              have H1 : (polyglotlaw08_Few.l0 k1 l0 (wrap64 (x3_1 + 1))) = some r := by rw [if_pos rfl] at H; exact H
              clear H
              have H := H1
              clear H1
              have H' := Aside0.mk H
              clear H
              have p102 : 0 ≤ (x3_1 : Int) := of_decide_eq_true (by first | (with_reducible assumption) | assumption)
              have q102 : x3_1 < (l0.length : Int) := of_decide_eq_true (by first | (with_reducible assumption) | assumption)
              obtain ⟨ad102, A102_6, c102_6, e102, hx102_0, hx102_1, hx102_2, hx102_3, hx102_4, hx102_5, hx102_6, hl102_6, hi102_6⟩ := at_T31 HR0.out x3_1 p102 q102
              cases e102
              have HR102_6 := Aside0.mk hi102_6
              have HC102_6 := Aside0.mk hl102_6
              clear hi102_6 hl102_6
              replace p102 := eq_true p102
              replace q102 := eq_true q102
              go_wp2_with (first | ((with_reducible refine gate_callee (f := 132) rfl ?_); refine goesL_ (some 18) rfl rfl Try.func132 (by kernel_rfl) rfl #[.slice A102_6 ((rd_T31 l0 x3_1).f5).length c102_6] rfl (by (try simp only [List.map_toArray, List.map_cons, List.map_nil]); first | done | rfl | (simp only [List.length_drop, List.length_take]; rfl)) ?_; (with_reducible refine (polyglotlaw06_Few.calls k1 _ _ ((rd_T31 l0 x3_1).f5) true _ ?side1 ?side2 A5.out).mono ?_); (case side1 => repeat (first | exact HR102_6.out | (with_reducible refine Kd.C_alloc ?_ _) | (with_reducible refine Kd.C_drewN ?_ _) | (with_reducible refine Kd.C_drew ?_))); (case side2 => exact HC102_6.out); rintro e w' ⟨rfl, ⟨nd, rfl⟩⟩; refine ⟨_, rfl, ?_⟩))
              go_roundg k1
              case measure => have := HK1.out; omega
              case rel => exact ⟨(wrap64 (x3_1 + 1)), (by first | rfl | (simp; done) | (simp [*]; done)), H', ⟨by have := HK1.out; omega⟩, by repeat (first | exact Drawn0.refl _ | apply Drawn0.step)⟩
            · replace c6 := Bool.eq_false_iff.mpr c6
              subst c6
              have H1 : (some false) = some r := by rw [if_neg (show ¬ (false = true) by decide)] at H; exact H
              clear H
              have H := H1
              clear H1
              obtain rfl := Option.some.inj H
              have p102 : 0 ≤ (x3_1 : Int) := of_decide_eq_true (by first | (with_reducible assumption) | assumption)
              have q102 : x3_1 < (l0.length : Int) := of_decide_eq_true (by first | (with_reducible assumption) | assumption)
              obtain ⟨ad102, A102_6, c102_6, e102, hx102_0, hx102_1, hx102_2, hx102_3, hx102_4, hx102_5, hx102_6, hl102_6, hi102_6⟩ := at_T31 HR0.out x3_1 p102 q102
              cases e102
              have HR102_6 := Aside0.mk hi102_6
              have HC102_6 := Aside0.mk hl102_6
              clear hi102_6 hl102_6
              replace p102 := eq_true p102
              replace q102 := eq_true q102
              go_wp2_with (first | ((with_reducible refine gate_callee (f := 132) rfl ?_); refine goesL_ (some 18) rfl rfl Try.func132 (by kernel_rfl) rfl #[.slice A102_6 ((rd_T31 l0 x3_1).f5).length c102_6] rfl (by (try simp only [List.map_toArray, List.map_cons, List.map_nil]); first | done | rfl | (simp only [List.length_drop, List.length_take]; rfl)) ?_; (with_reducible refine (polyglotlaw06_Few.calls k1 _ _ ((rd_T31 l0 x3_1).f5) false _ ?side1 ?side2 A5.out).mono ?_); (case side1 => repeat (first | exact HR102_6.out | (with_reducible refine Kd.C_alloc ?_ _) | (with_reducible refine Kd.C_drewN ?_ _) | (with_reducible refine Kd.C_drew ?_))); (case side2 => exact HC102_6.out); rintro e w' ⟨rfl, ⟨nd, rfl⟩⟩; refine ⟨_, rfl, ?_⟩))
              go_ret
              exact ⟨by first | rfl | (simp; done) | (simp [*]; done), by repeat (first | exact Drawn0.refl _ | apply Drawn0.step)⟩
          · rw [if_neg c4] at H
            exact absurd H (by simp)
        · rw [if_neg c3] at H
          have c3b0 : decide (x3_1 < (l0.length : Int)) = false := decide_eq_false c3
          clear c3
          obtain rfl := Option.some.inj H
          go_wp2
          go_ret
          exact ⟨by first | rfl | (simp; done) | (simp [*]; done), by repeat (first | exact Drawn0.refl _ | apply Drawn0.step)⟩

/-! ### api_Rec: function 135 -/
set_option maxHeartbeats 2000000 in
set_option maxRecDepth 100000 in
/-- rec.where over records, with whatever closure over one variable that goes by a step. -/
theorem where31.calls {σ : Type} (F : FuncId) (enc : σ → Array Value) (t : TypeId) (step : σ → S31 → Bool × σ) (g : Nat) (w0 : World) (hg0 : w0.heap.size ≤ g) (l : List S31)
    (hF : ∀ (args : Array Value) (W : World), (callFunc F args).run Try.prog W = .ok (.enter F args) W)
    (hclos : ∀ (s : σ) (x : S31) (A : Option Addr) (c : Nat) (W : World), x ∈ l → x.f5.length ≤ c → k332.C w0 A x.f5.length x.f5 → Below w0.heap.size w0 W → W.heap[g]? = some (.cells (enc s) t (0, 0)) →
      Calls Try.prog F #[.agg #[.int .i64 x.f0, .int .i64 x.f1, .int .i64 x.f2, .int .i64 x.f3.f0, .int .i64 x.f3.f1, .bool x.f4, .slice A x.f5.length c], .pointer (some ⟨g, 0, none⟩)] W fun e W' => e = .returned (.bool (step s x).1) ∧ W'.heap[g]? = some (.cells (enc (step s x).2) t (0, 0)) ∧ Below w0.heap.size w0 W' ∧ KeepBut W W' g none)
    (A : Option Addr) (c : Nat) (hl : Kd.C k31 w0 A l.length l) (hc : l.length ≤ c) (hlen : l.length ≤ 9223372036854775807) (s0 : σ) (w : World) (hB : Below w0.heap.size w0 w) (hs : w.heap[g]? = some (.cells (enc s0) t (0, 0))) :
    Calls Try.prog 135 #[.slice A l.length c, .func (.func F) #[] #[.pointer (some ⟨g, 0, none⟩)]] w fun e w' => e = .returned (.int .i64 (whr step s0 l : Nat)) ∧ (∃ s, w'.heap[g]? = some (.cells (enc s) t (0, 0))) ∧ Below w0.heap.size w0 w' ∧ KeepBut w w' g none := by
  have HL := Aside0.mk hl
  have HC := Aside0.mk hclos
  have HB := Aside0.mk hB
  have HS := Aside0.mk hs
  clear hl hclos hB hs
  have hu31 := Try.underlying31
  go_enter Try.func135, Try.ntmps135
  go_wp2
  go_loopw [9] (fun v9 wr => ∃ (k : Nat) (s : σ), k ≤ l.length ∧ v9 = .int .i64 k ∧ Aside0 (whr step s0 l = k + whr step s (l.drop k)) ∧ Aside0 (wr.heap[g]? = some (.cells (enc s) t (0, 0))) ∧ Aside0 (Below w0.heap.size w0 wr) ∧ Aside0 (KeepBut w wr g none)) (fun v9 _ => l.length - (intOf v9).toNat)
  case atStart => exact ⟨0, s0, Nat.zero_le _, rfl, ⟨by simp⟩, HS, HB, ⟨KeepBut.refl _ _ _⟩⟩
  case round =>
    obtain ⟨k, s, hk, rfl, HW, HS1, HB1, HK1⟩ := hrel
    clear HS HB
    by_cases hlt : k < l.length
    · obtain ⟨ad, A6, c6, e, x0, x1, x2, x3, x4, x5, x6, hl6, hi6⟩ := at_T31 HL.out (k : Int) (by omega) (by omega)
      cases e
      replace x0 := (HB1.out.cell (World.block_lt_of_cell? w0 _ x0)).trans x0
      replace x1 := (HB1.out.cell (World.block_lt_of_cell? w0 _ x1)).trans x1
      replace x2 := (HB1.out.cell (World.block_lt_of_cell? w0 _ x2)).trans x2
      replace x3 := (HB1.out.cell (World.block_lt_of_cell? w0 _ x3)).trans x3
      replace x4 := (HB1.out.cell (World.block_lt_of_cell? w0 _ x4)).trans x4
      replace x5 := (HB1.out.cell (World.block_lt_of_cell? w0 _ x5)).trans x5
      replace x6 := (HB1.out.cell (World.block_lt_of_cell? w0 _ x6)).trans x6
      have H6 := Aside0.mk hl6
      have I6 := Aside0.mk hi6
      clear hl6 hi6
      simp only [Int.toNat_natCast] at x0 x1 x2 x3 x4 x5 x6
      have hmem : rd_T31 l (k : Int) ∈ l := by
        have : rd_T31 l (k : Int) = l[k] := by simp [rd_T31, List.getD_eq_getElem?_getD, List.getElem?_eq_getElem hlt]
        rw [this]; exact List.getElem_mem hlt
      have HM := Aside0.mk hmem
      clear hmem
      have hd := drop_rd l k hlt
      cases hst : (step s (rd_T31 l (k : Int))).1
      · have HW2 := Aside0.mk (show whr step s0 l = (k + 1) + whr step (step s (rd_T31 l (k : Int))).2 (l.drop (k + 1)) by
          rw [HW.out, hd, whr, hst]; simp; omega)
        clear hd
        go_wp2_with ((with_reducible refine (HC.out s (rd_T31 l (k : Int)) A6 c6 _ HM.out H6.out I6.out ?hB ?hS).mono ?_); (case hB => exact below_alloc_of HB1.out _); (case hS => exact blk_alloc HS1.out _); rintro e w2 ⟨rfl, hs2, hB2, hK2⟩; (have HS2 := Aside0.mk hs2); (have HB2 := Aside0.mk hB2); (have HK2 := Aside0.mk hK2); clear hs2 hB2 hK2)
        go_roundw
        case rel => exact ⟨k + 1, _, hlt, by go_num, HW2, HS2, HB2, ⟨keep3 HK1.out HK2.out⟩⟩
        case measure => simp [intOf]; omega
      · have HW2 := Aside0.mk (show whr step s0 l = k by rw [HW.out, hd, whr, hst]; simp)
        clear hd
        go_wp2_with ((with_reducible refine (HC.out s (rd_T31 l (k : Int)) A6 c6 _ HM.out H6.out I6.out ?hB ?hS).mono ?_); (case hB => exact below_alloc_of HB1.out _); (case hS => exact blk_alloc HS1.out _); rintro e w2 ⟨rfl, hs2, hB2, hK2⟩; (have HS2 := Aside0.mk hs2); (have HB2 := Aside0.mk hB2); (have HK2 := Aside0.mk hK2); clear hs2 hB2 hK2)
        go_ret
        exact ⟨by rw [HW2.out]; rfl, ⟨_, HS2.out⟩, HB2.out, keep3 HK1.out HK2.out⟩
    · have HW2 := Aside0.mk (show whr step s0 l = l.length by
        rw [HW.out, List.drop_eq_nil_of_le (by omega)]; simp [whr]; omega)
      go_wp2
      go_ret
      exact ⟨by rw [HW2.out]; rfl, ⟨_, HS1.out⟩, HB1.out, HK1.out⟩


/-! ### span_Valid: function 51 -/
def span_Valid.f (a0_0 : Int) (a0_1 : Int) : Option (Bool) := if a0_0 ≥ 1 then (if a0_0 ≤ a0_1 then (some (decide (a0_1 ≤ 3))) else (some false)) else (some false)
set_option maxHeartbeats 8000000 in
set_option maxRecDepth 100000 in
theorem span_Valid.calls (a0_0 : Int) (a0_1 : Int) (r : Bool) (w : World) (h : span_Valid.f a0_0 a0_1 = some r) :
    Calls Try.prog 51 #[.agg #[.int .i64 a0_0, .int .i64 a0_1]] w fun e w' => e = .returned (.bool r) ∧ Below w.heap.size w w' := by
  have hu28 := Try.underlying28
  have HB := Aside0.mk (Below.refl w.heap.size w)
  have H : (if a0_0 ≥ 1 then (if a0_0 ≤ a0_1 then (some (decide (a0_1 ≤ 3))) else (some false)) else (some false)) = some r := h
  clear h
  by_cases c2 : a0_0 ≥ 1
  · rw [if_pos c2] at H
    have c2b0 : decide (1 ≤ a0_0) = true := decide_eq_true c2
    clear c2
    by_cases c3 : a0_0 ≤ a0_1
    · rw [if_pos c3] at H
      have c3b0 : decide (a0_0 ≤ a0_1) = true := decide_eq_true c3
      clear c3
      obtain rfl := Option.some.inj H
      go_enter Try.func51, Try.ntmps51
      go_wp2_with (first | ((with_reducible refine gate_dst (N := 1) rfl ?_); refine box_event ?hg (N := 1) ?hd (cs := #[.int .i64 a0_0, .int .i64 a0_1]) (t := 28) ?hr ?_; (case hd => rfl); (case hg => rfl); (case hr => first | (go_simp; done) | (go_simp; rfl)); intro gb104 hg w4 hbox hb; have n0_ := Aside0.mk (below_step (by repeat (first | (with_reducible first | exact HB.out | apply below_alloc | apply pw_below_drewN | apply below_drew1) | exact HB.out)) hb); have n1_ := Aside0.mk (hbox); have n2_ := Aside0.mk ((by rw [hg]; exact (below_size (by repeat (first | (with_reducible first | exact HB.out | apply below_alloc | apply pw_below_drewN | apply below_drew1) | exact HB.out))) : w.heap.size ≤ gb104)); have n3_ := Aside0.mk ((by rw [hg]; exact (below_size (by repeat (first | (with_reducible first | exact HB.out | apply below_alloc | apply pw_below_drewN | apply below_drew1) | exact HB.out))) : w.heap.size ≤ gb104)); clear HB; have HB := n0_; have BK104 := n1_; have GW104 := n2_; have GE104 := n3_; clear n0_ n1_ n2_ n3_; clear hb hbox hg; have hcz5_0 : w4.cell? ⟨gb104, 0, none⟩ = some (.int .i64 a0_0) := (blk_cell BK104.out 0).trans rfl; have hcz5_1 : w4.cell? ⟨gb104, 1, none⟩ = some (.int .i64 a0_1) := (blk_cell BK104.out 1).trans rfl; have hfz5_0 := blk_frozen BK104.out 0; have hfz5_1 := blk_frozen BK104.out 1))
      go_ret
      exact ⟨by first | rfl | (simp [errW_none, errW_some] <;> rfl) | (simp [*, errW_none, errW_some] <;> rfl), by repeat (first | (with_reducible first | exact HB.out | apply below_alloc | apply pw_below_drewN | apply below_drew1 | refine below_set ?_ GE104.out) | exact HB.out)⟩
    · rw [if_neg c3] at H
      have c3b0 : decide (a0_0 ≤ a0_1) = false := decide_eq_false c3
      clear c3
      obtain rfl := Option.some.inj H
      go_enter Try.func51, Try.ntmps51
      go_wp2_with (first | ((with_reducible refine gate_dst (N := 1) rfl ?_); refine box_event ?hg (N := 1) ?hd (cs := #[.int .i64 a0_0, .int .i64 a0_1]) (t := 28) ?hr ?_; (case hd => rfl); (case hg => rfl); (case hr => first | (go_simp; done) | (go_simp; rfl)); intro gb104 hg w6 hbox hb; have n0_ := Aside0.mk (below_step (by repeat (first | (with_reducible first | exact HB.out | apply below_alloc | apply pw_below_drewN | apply below_drew1) | exact HB.out)) hb); have n1_ := Aside0.mk (hbox); have n2_ := Aside0.mk ((by rw [hg]; exact (below_size (by repeat (first | (with_reducible first | exact HB.out | apply below_alloc | apply pw_below_drewN | apply below_drew1) | exact HB.out))) : w.heap.size ≤ gb104)); have n3_ := Aside0.mk ((by rw [hg]; exact (below_size (by repeat (first | (with_reducible first | exact HB.out | apply below_alloc | apply pw_below_drewN | apply below_drew1) | exact HB.out))) : w.heap.size ≤ gb104)); clear HB; have HB := n0_; have BK104 := n1_; have GW104 := n2_; have GE104 := n3_; clear n0_ n1_ n2_ n3_; clear hb hbox hg; have hcz7_0 : w6.cell? ⟨gb104, 0, none⟩ = some (.int .i64 a0_0) := (blk_cell BK104.out 0).trans rfl; have hcz7_1 : w6.cell? ⟨gb104, 1, none⟩ = some (.int .i64 a0_1) := (blk_cell BK104.out 1).trans rfl; have hfz7_0 := blk_frozen BK104.out 0; have hfz7_1 := blk_frozen BK104.out 1))
      go_ret
      exact ⟨by first | rfl | (simp [errW_none, errW_some] <;> rfl) | (simp [*, errW_none, errW_some] <;> rfl), by repeat (first | (with_reducible first | exact HB.out | apply below_alloc | apply pw_below_drewN | apply below_drew1 | refine below_set ?_ GE104.out) | exact HB.out)⟩
  · rw [if_neg c2] at H
    have c2b0 : decide (1 ≤ a0_0) = false := decide_eq_false c2
    clear c2
    obtain rfl := Option.some.inj H
    go_enter Try.func51, Try.ntmps51
    go_wp2_with (first | ((with_reducible refine gate_dst (N := 1) rfl ?_); refine box_event ?hg (N := 1) ?hd (cs := #[.int .i64 a0_0, .int .i64 a0_1]) (t := 28) ?hr ?_; (case hd => rfl); (case hg => rfl); (case hr => first | (go_simp; done) | (go_simp; rfl)); intro gb104 hg w8 hbox hb; have n0_ := Aside0.mk (below_step (by repeat (first | (with_reducible first | exact HB.out | apply below_alloc | apply pw_below_drewN | apply below_drew1) | exact HB.out)) hb); have n1_ := Aside0.mk (hbox); have n2_ := Aside0.mk ((by rw [hg]; exact (below_size (by repeat (first | (with_reducible first | exact HB.out | apply below_alloc | apply pw_below_drewN | apply below_drew1) | exact HB.out))) : w.heap.size ≤ gb104)); have n3_ := Aside0.mk ((by rw [hg]; exact (below_size (by repeat (first | (with_reducible first | exact HB.out | apply below_alloc | apply pw_below_drewN | apply below_drew1) | exact HB.out))) : w.heap.size ≤ gb104)); clear HB; have HB := n0_; have BK104 := n1_; have GW104 := n2_; have GE104 := n3_; clear n0_ n1_ n2_ n3_; clear hb hbox hg; have hcz9_0 : w8.cell? ⟨gb104, 0, none⟩ = some (.int .i64 a0_0) := (blk_cell BK104.out 0).trans rfl; have hcz9_1 : w8.cell? ⟨gb104, 1, none⟩ = some (.int .i64 a0_1) := (blk_cell BK104.out 1).trans rfl; have hfz9_0 := blk_frozen BK104.out 0; have hfz9_1 := blk_frozen BK104.out 1))
    go_ret
    exact ⟨by first | rfl | (simp [errW_none, errW_some] <;> rfl) | (simp [*, errW_none, errW_some] <;> rfl), by repeat (first | (with_reducible first | exact HB.out | apply below_alloc | apply pw_below_drewN | apply below_drew1 | refine below_set ?_ GE104.out) | exact HB.out)⟩

def spanV (lo hi : Int) : Bool := decide (1 ≤ lo ∧ lo ≤ hi ∧ hi ≤ 3)
theorem span_Valid_f (lo hi : Int) : span_Valid.f lo hi = some (spanV lo hi) := by
  unfold span_Valid.f spanV
  by_cases h1 : lo ≥ 1 <;> by_cases h2 : lo ≤ hi <;> simp [h1, h2] <;> omega

/-! ### bag_Valid: function 157 -/
mutual
def bag_Valid.l0 : Nat → Int → Int → List (S332) → Int → Int → Option (Bool)
  | 0, _, _, _, _, _ => none
  | k + 1, x3, x4, x10, x11, x12 => if x12 < x11 then (if 0 ≤ x12 then (if x12 < (x10.length : Int) then (if ((rd_T332 x10 x12).f0) < x3 then (bag_Valid.j1 k x4 x10 x11 x12 true ((rd_T332 x10 x12).f0) ((rd_T332 x10 x12).f1)) else (bag_Valid.j1 k x4 x10 x11 x12 (decide (((rd_T332 x10 x12).f0) > 255)) ((rd_T332 x10 x12).f0) ((rd_T332 x10 x12).f1))) else (none)) else (none)) else (some true)
def bag_Valid.j1 : Nat → Int → List (S332) → Int → Int → Bool → Int → List Int → Option (Bool)
  | 0, _, _, _, _, _, _, _ => none
  | k + 1, x4, x10, x11, x12, x24, x107000, x107001 => if x24 = true then (some false) else (if (wrap64 (x4 + (x107001.length : Int))) > 4096 then (some false) else (bag_Valid.l0 k x107000 (wrap64 (x4 + (x107001.length : Int))) x10 x11 (wrap64 (x12 + 1))))
end
def bag_Valid.f (k : Nat) (l0 : List (S332)) : Option (Bool) := if (l0.length : Int) > 32 then (some false) else (bag_Valid.l0 k 32 0 l0 (l0.length : Int) 0)
theorem bag_Valid.mono_l : ∀ k, (∀ y0 y1 y2 y3 y4, LeO (bag_Valid.l0 k y0 y1 y2 y3 y4) (bag_Valid.l0 (k + 1) y0 y1 y2 y3 y4)) ∧ (∀ y0 y1 y2 y3 y4 y5 y6, LeO (bag_Valid.j1 k y0 y1 y2 y3 y4 y5 y6) (bag_Valid.j1 (k + 1) y0 y1 y2 y3 y4 y5 y6))
  | 0 => ⟨fun _ _ _ _ _ r h => by simp [bag_Valid.l0] at h, fun _ _ _ _ _ _ _ r h => by simp [bag_Valid.j1] at h⟩
  | k + 1 => by
    obtain ⟨ih0, ih1⟩ := bag_Valid.mono_l k
    refine ⟨?_, ?_⟩
    · intro y0 y1 y2 y3 y4
      unfold bag_Valid.l0
      repeat' first
      | (with_reducible exact ih0 _ _ _ _ _)
      | (with_reducible exact ih1 _ _ _ _ _ _ _)
      | (with_reducible exact LeO.refl _)
      | (with_reducible exact LeO.none _)
      | (with_reducible refine LeO.ite ?_ ?_)
      | (with_reducible refine LeO.bind ?_ (fun _ => ?_))
      | exact ih0 _ _ _ _ _
      | exact ih1 _ _ _ _ _ _ _
      | exact LeO.none _
      | refine LeO.ite ?_ ?_
      | refine LeO.bind ?_ (fun _ => ?_)
    · intro y0 y1 y2 y3 y4 y5 y6
      unfold bag_Valid.j1
      repeat' first
      | (with_reducible exact ih0 _ _ _ _ _)
      | (with_reducible exact ih1 _ _ _ _ _ _ _)
      | (with_reducible exact LeO.refl _)
      | (with_reducible exact LeO.none _)
      | (with_reducible refine LeO.ite ?_ ?_)
      | (with_reducible refine LeO.bind ?_ (fun _ => ?_))
      | exact ih0 _ _ _ _ _
      | exact ih1 _ _ _ _ _ _ _
      | exact LeO.none _
      | refine LeO.ite ?_ ?_
      | refine LeO.bind ?_ (fun _ => ?_)
theorem bag_Valid.mono : ∀ a0 k, LeO (bag_Valid.f k a0) (bag_Valid.f (k + 1) a0) := by
  intro a0 k
  obtain ⟨ih0, ih1⟩ := bag_Valid.mono_l k
  unfold bag_Valid.f
  repeat' first
      | (with_reducible exact ih0 _ _ _ _ _)
      | (with_reducible exact ih1 _ _ _ _ _ _ _)
      | (with_reducible exact LeO.refl _)
      | (with_reducible exact LeO.none _)
      | (with_reducible refine LeO.ite ?_ ?_)
      | (with_reducible refine LeO.bind ?_ (fun _ => ?_))
      | exact ih0 _ _ _ _ _
      | exact ih1 _ _ _ _ _ _ _
      | exact LeO.none _
      | refine LeO.ite ?_ ?_
      | refine LeO.bind ?_ (fun _ => ?_)
set_option maxHeartbeats 8000000 in
set_option maxRecDepth 100000 in
theorem bag_Valid.calls (k : Nat) (A0 : Option Addr) (c0 : Nat) (l0 : List (S332)) (r : Bool) (w : World) (hr0 : Kd.C k332 w A0 l0.length l0) (hc0 : l0.length ≤ c0) (h : bag_Valid.f k l0 = some r) :
    Calls Try.prog 157 #[.slice A0 l0.length c0] w fun e w' => e = .returned (.bool r) ∧ Below w.heap.size w w' := by
  have hu332 := Try.underlying332
  have HR0 := Aside0.mk hr0
  have HC0 := Aside0.mk hc0
  clear hr0 hc0
  have HB := Aside0.mk (Below.refl w.heap.size w)
  have H : (if (l0.length : Int) > 32 then (some false) else (bag_Valid.l0 k 32 0 l0 (l0.length : Int) 0)) = some r := h
  clear h
  by_cases c2 : (l0.length : Int) > 32
  · rw [if_pos c2] at H
    have c2b0 : decide (32 < (l0.length : Int)) = true := decide_eq_true c2
    have c2b1 : decide (32 < l0.length) = true := decide_eq_true (by omega)
    clear c2
    obtain rfl := Option.some.inj H
    go_enter Try.func157, Try.ntmps157
    go_wp2
    go_ret
    exact ⟨by first | rfl | (simp [errW_none, errW_some] <;> rfl) | (simp [*, errW_none, errW_some] <;> rfl), by repeat (first | (with_reducible first | exact HB.out | apply below_alloc | apply pw_below_drewN | apply below_drew1) | exact HB.out)⟩
  · rw [if_neg c2] at H
    have c2b0 : decide (32 < (l0.length : Int)) = false := decide_eq_false c2
    have c2b1 : decide (32 < l0.length) = false := decide_eq_false (by omega)
    clear c2
    have H' := Aside0.mk H
    clear H
    go_enter Try.func157, Try.ntmps157
    go_wp2
    go_loopg [3, 4, 12] k (fun kq v3 v4 v12 w' => ∃ (x3_1 : Int) (x4_1 : Int) (x12_1 : Int), v3 = .int .i64 x3_1 ∧ v4 = .int .i64 x4_1 ∧ v12 = .int .i64 x12_1 ∧ Aside0 (bag_Valid.l0 kq x3_1 x4_1 l0 (l0.length : Int) x12_1 = some r) ∧ Aside0 (kq ≤ k) ∧ Aside0 (Below w.heap.size w w'))
    case atStart => exact ⟨(32), (0), (0), (by first | rfl | (simp; done) | (simp [*]; done)), (by first | rfl | (simp; done) | (simp [*]; done)), (by first | rfl | (simp; done) | (simp [*]; done)), H', ⟨Nat.le_refl _⟩, ⟨by repeat (first | (with_reducible first | exact HB.out | apply below_alloc | apply pw_below_drewN | apply below_drew1) | exact HB.out)⟩⟩
    case round =>
      clear H'
      try clear c1
      try clear c2
      try clear c2b0
      try clear c2b1
      try clear p2
      obtain ⟨x3_1, x4_1, x12_1, rfl, rfl, rfl, HA, HK1, HB⟩ := hrel
      cases gk with
      | zero => exact absurd HA.out (by simp [bag_Valid.l0])
      | succ k1 =>
        have H := HA.out
        clear HA
        simp only [bag_Valid.l0] at H
        by_cases c3 : x12_1 < (l0.length : Int)
        · rw [if_pos c3] at H
          have c3b0 : decide (x12_1 < (l0.length : Int)) = true := decide_eq_true c3
          clear c3
          by_cases c4 : 0 ≤ x12_1
          · rw [if_pos c4] at H
            have c4b0 : decide (0 ≤ x12_1) = true := decide_eq_true c4
            clear c4
            by_cases c5 : x12_1 < (l0.length : Int)
            · rw [if_pos c5] at H
              have c5b0 : decide (x12_1 < (l0.length : Int)) = true := decide_eq_true c5
              clear c5
              have HC6 := Aside0.mk H
              clear H
              have p105 : 0 ≤ (x12_1 : Int) := of_decide_eq_true (by first | (with_reducible assumption) | assumption)
              have q105 : x12_1 < (l0.length : Int) := of_decide_eq_true (by first | (with_reducible assumption) | assumption)
              obtain ⟨ad105, A105_1, c105_1, e105, hx105_0, hx105_1, hl105_1, hi105_1⟩ := at_T332 HR0.out x12_1 p105 q105
              cases e105
              replace hx105_0 := (HB.out.cell (World.block_lt_of_cell? w _ hx105_0)).trans hx105_0
              replace hx105_1 := (HB.out.cell (World.block_lt_of_cell? w _ hx105_1)).trans hx105_1
              have HR105_1 := Aside0.mk hi105_1
              have HC105_1 := Aside0.mk hl105_1
              clear hi105_1 hl105_1
              replace p105 := eq_true p105
              replace q105 := eq_true q105
              go_upto_region 7 with (first | ((with_reducible refine gate_dst (N := 6) rfl ?_); refine box_event ?hg (N := 6) ?hd (cs := #[.int .i64 0, .slice none 0 0]) (t := 332) ?hr ?_; (case hd => rfl); (case hg => rfl); (case hr => first | (go_simp; done) | (go_simp; rfl)); intro gb106 hg w7 hbox hb; have n0_ := Aside0.mk (below_step (by repeat (first | (with_reducible first | exact HB.out | apply below_alloc | apply pw_below_drewN | apply below_drew1) | exact HB.out)) hb); have n1_ := Aside0.mk (hbox); have n2_ := Aside0.mk ((by rw [hg]; exact (below_size (by repeat (first | (with_reducible first | exact HB.out | apply below_alloc | apply pw_below_drewN | apply below_drew1) | exact HB.out))) : w.heap.size ≤ gb106)); have n3_ := Aside0.mk ((by rw [hg]; exact (below_size (by repeat (first | (with_reducible first | exact HB.out | apply below_alloc | apply pw_below_drewN | apply below_drew1) | exact HB.out))) : w.heap.size ≤ gb106)); clear HB; have HB := n0_; have BK106 := n1_; have GW106 := n2_; have GE106 := n3_; clear n0_ n1_ n2_ n3_; clear hb hbox hg; have hcz8_0 : w7.cell? ⟨gb106, 0, none⟩ = some (.int .i64 0) := (blk_cell BK106.out 0).trans rfl; have hcz8_1 : w7.cell? ⟨gb106, 1, none⟩ = some (.slice none 0 0) := (blk_cell BK106.out 1).trans rfl; have hfz8_0 := blk_frozen BK106.out 0; have hfz8_1 := blk_frozen BK106.out 1))
              (try simp only [Act.put, List.setIfInBounds_toArray, List.set_cons_zero, List.set_cons_succ])
              go_cut [24] (fun v24 wc => ∃ (kq : Nat) (x24_5 : Bool), v24 = .bool x24_5 ∧ Aside0 (bag_Valid.j1 kq x4_1 l0 (l0.length : Int) x12_1 x24_5 ((rd_T332 l0 x12_1).f0) ((rd_T332 l0 x12_1).f1) = some r) ∧ Aside0 (kq ≤ k1) ∧ Aside0 (wc.heap[gb106]? = some (.cells #[.int .i64 ((rd_T332 l0 x12_1).f0), (.slice A105_1 ((rd_T332 l0 x12_1).f1).length c105_1)] 332 (0, 0))) ∧ Aside0 (Below w.heap.size w wc))
              case first =>
                have H := HC6.out
                clear HC6
                by_cases c9 : ((rd_T332 l0 x12_1).f0) < x3_1
                · rw [if_pos c9] at H
                  have c9b0 : decide (((rd_T332 l0 x12_1).f0) < x3_1) = true := decide_eq_true c9
                  clear c9
                  (first | rw [c9b0] | (simp only [i64_w, i32_w]; rw [c9b0]) | skip)
                  have H' := Aside0.mk H
                  clear H
                  have hcz10_0 : w7.cell? ⟨gb106, 0, none⟩ = some (.int .i64 0) := (blk_cell BK106.out 0).trans rfl
                  have hcz10_1 : w7.cell? ⟨gb106, 1, none⟩ = some (.slice none 0 0) := (blk_cell BK106.out 1).trans rfl
                  have hfz10_0 := blk_frozen BK106.out 0
                  have hfz10_1 := blk_frozen BK106.out 1
                  go_wp2
                  go_meet
                  case rel => exact ⟨_, (true), (by first | rfl | (simp; done) | (simp [*]; done)), H', ⟨by have := HK1.out; first | omega | exact Nat.le_refl _⟩, ⟨by (with_reducible repeat (first | refine blk_drewN ?_ _ | refine blk_drew ?_ | refine blk_alloc ?_ _)); refine blk_put (cs := #[.int .i64 ((rd_T332 l0 x12_1).f0), .slice none 0 0]) ?_ 1 _ rfl; (with_reducible repeat (first | refine blk_drewN ?_ _ | refine blk_drew ?_ | refine blk_alloc ?_ _)); refine blk_put (cs := #[.int .i64 0, .slice none 0 0]) ?_ 0 _ rfl; (with_reducible repeat (first | refine blk_drewN ?_ _ | refine blk_drew ?_ | refine blk_alloc ?_ _)); exact BK106.out⟩, ⟨by repeat (first | (with_reducible first | exact HB.out | apply below_alloc | apply pw_below_drewN | apply below_drew1 | refine below_set ?_ GE106.out) | exact HB.out)⟩⟩
                · rw [if_neg c9] at H
                  have c9b0 : decide (((rd_T332 l0 x12_1).f0) < x3_1) = false := decide_eq_false c9
                  clear c9
                  (first | rw [c9b0] | (simp only [i64_w, i32_w]; rw [c9b0]) | skip)
                  have H' := Aside0.mk H
                  clear H
                  have hcz11_0 : w7.cell? ⟨gb106, 0, none⟩ = some (.int .i64 0) := (blk_cell BK106.out 0).trans rfl
                  have hcz11_1 : w7.cell? ⟨gb106, 1, none⟩ = some (.slice none 0 0) := (blk_cell BK106.out 1).trans rfl
                  have hfz11_0 := blk_frozen BK106.out 0
                  have hfz11_1 := blk_frozen BK106.out 1
                  go_wp2
                  go_meet
                  case rel => exact ⟨_, (decide (((rd_T332 l0 x12_1).f0) > 255)), (by first | rfl | (simp; done) | (simp [*]; done)), H', ⟨by have := HK1.out; first | omega | exact Nat.le_refl _⟩, ⟨by (with_reducible repeat (first | refine blk_drewN ?_ _ | refine blk_drew ?_ | refine blk_alloc ?_ _)); refine blk_put (cs := #[.int .i64 ((rd_T332 l0 x12_1).f0), .slice none 0 0]) ?_ 1 _ rfl; (with_reducible repeat (first | refine blk_drewN ?_ _ | refine blk_drew ?_ | refine blk_alloc ?_ _)); refine blk_put (cs := #[.int .i64 0, .slice none 0 0]) ?_ 0 _ rfl; (with_reducible repeat (first | refine blk_drewN ?_ _ | refine blk_drew ?_ | refine blk_alloc ?_ _)); exact BK106.out⟩, ⟨by repeat (first | (with_reducible first | exact HB.out | apply below_alloc | apply pw_below_drewN | apply below_drew1 | refine below_set ?_ GE106.out) | exact HB.out)⟩⟩
              case rest =>
                clear HC6
                try clear c1
                try clear p1
                try clear q1
                try clear hx1
                try clear c2
                try clear c2b0
                try clear c2b1
                try clear p2
                try clear c3
                try clear c3b0
                try clear c4
                try clear c4b0
                try clear c5
                try clear c5b0
                try clear c9
                try clear c9b0
                try clear c10
                try clear p10
                try clear q10
                try clear hx10
                try clear hcz10_0
                try clear hcz10_1
                try clear hcz11_0
                try clear hcz11_1
                try clear hcz8_0
                try clear hcz8_1
                try clear hfz10_0
                try clear hfz10_1
                try clear hfz11_0
                try clear hfz11_1
                try clear hfz8_0
                try clear hfz8_1
                try clear hx105_0
                try clear hx105_1
                try clear p105
                try clear p2
                try clear q105
                obtain ⟨kq, x24_5, rfl, HA, HJ5, BK106, HB⟩ := hcut
                cases kq with
                | zero => exact absurd HA.out (by simp [bag_Valid.j1])
                | succ kj5 =>
                  have H := HA.out
                  clear HA
                  simp only [bag_Valid.j1] at H
                  by_cases c12 : x24_5 = true
                  · subst c12
                    have H1 : (some false) = some r := by rw [if_pos rfl] at H; exact H
                    clear H
                    have H := H1
                    clear H1
                    obtain rfl := Option.some.inj H
                    go_wp2
                    go_ret
                    exact ⟨by first | rfl | (simp [errW_none, errW_some] <;> rfl) | (simp [*, errW_none, errW_some] <;> rfl), by repeat (first | (with_reducible first | exact HB.out | apply below_alloc | apply pw_below_drewN | apply below_drew1 | refine below_set ?_ GE106.out) | exact HB.out)⟩
                  · replace c12 := Bool.eq_false_iff.mpr c12
                    subst c12
                    have H1 : (if (wrap64 (x4_1 + (((rd_T332 l0 x12_1).f1).length : Int))) > 4096 then (some false) else (bag_Valid.l0 kj5 ((rd_T332 l0 x12_1).f0) (wrap64 (x4_1 + (((rd_T332 l0 x12_1).f1).length : Int))) l0 (l0.length : Int) (wrap64 (x12_1 + 1)))) = some r := by rw [if_neg (show ¬ (false = true) by decide)] at H; exact H
                    clear H
                    have H := H1
                    clear H1
                    by_cases c13 : (wrap64 (x4_1 + (((rd_T332 l0 x12_1).f1).length : Int))) > 4096
                    · rw [if_pos c13] at H
                      have c13b0 : decide (4096 < (wrap64 (x4_1 + (((rd_T332 l0 x12_1).f1).length : Int)))) = true := decide_eq_true c13
                      clear c13
                      obtain rfl := Option.some.inj H
                      have hcz14_0 : wc.cell? ⟨gb106, 0, none⟩ = some (.int .i64 ((rd_T332 l0 x12_1).f0)) := (blk_cell BK106.out 0).trans rfl
                      have hcz14_1 : wc.cell? ⟨gb106, 1, none⟩ = some (.slice A105_1 ((rd_T332 l0 x12_1).f1).length c105_1) := (blk_cell BK106.out 1).trans rfl
                      have hfz14_0 := blk_frozen BK106.out 0
                      have hfz14_1 := blk_frozen BK106.out 1
                      go_wp2
                      go_ret
                      exact ⟨by first | rfl | (simp [errW_none, errW_some] <;> rfl) | (simp [*, errW_none, errW_some] <;> rfl), by repeat (first | (with_reducible first | exact HB.out | apply below_alloc | apply pw_below_drewN | apply below_drew1 | refine below_set ?_ GE106.out) | exact HB.out)⟩
                    · rw [if_neg c13] at H
                      have c13b0 : decide (4096 < (wrap64 (x4_1 + (((rd_T332 l0 x12_1).f1).length : Int)))) = false := decide_eq_false c13
                      clear c13
                      have H' := Aside0.mk H
                      clear H
                      have hcz15_0 : wc.cell? ⟨gb106, 0, none⟩ = some (.int .i64 ((rd_T332 l0 x12_1).f0)) := (blk_cell BK106.out 0).trans rfl
                      have hcz15_1 : wc.cell? ⟨gb106, 1, none⟩ = some (.slice A105_1 ((rd_T332 l0 x12_1).f1).length c105_1) := (blk_cell BK106.out 1).trans rfl
                      have hfz15_0 := blk_frozen BK106.out 0
                      have hfz15_1 := blk_frozen BK106.out 1
                      go_wp2
                      go_roundg kj5
                      case measure => have := HK1.out; have := HJ5.out; omega
                      case rel => exact ⟨(((rd_T332 l0 x12_1).f0)), (wrap64 (x4_1 + (((rd_T332 l0 x12_1).f1).length : Int))), (wrap64 (x12_1 + 1)), (by first | rfl | (simp; done) | (simp [*]; done)), (by first | rfl | (simp; done) | (simp [*]; done)), (by first | rfl | (simp; done) | (simp [*]; done)), H', ⟨by have := HK1.out; have := HJ5.out; omega⟩, ⟨by repeat (first | (with_reducible first | exact HB.out | apply below_alloc | apply pw_below_drewN | apply below_drew1 | refine below_set ?_ GE106.out) | exact HB.out)⟩⟩
            · rw [if_neg c5] at H
              exact absurd H (by simp)
          · rw [if_neg c4] at H
            exact absurd H (by simp)
        · rw [if_neg c3] at H
          have c3b0 : decide (x12_1 < (l0.length : Int)) = false := decide_eq_false c3
          clear c3
          obtain rfl := Option.some.inj H
          go_wp2
          go_ret
          exact ⟨by first | rfl | (simp [errW_none, errW_some] <;> rfl) | (simp [*, errW_none, errW_some] <;> rfl), by repeat (first | (with_reducible first | exact HB.out | apply below_alloc | apply pw_below_drewN | apply below_drew1) | exact HB.out)⟩

/-- bag.Valid behind some fields: the last tag, the bytes so far. -/
def bagOk : Int → Int → List S332 → Bool
  | _, _, [] => true
  | last, size, f :: fs => if f.f0 < last ∨ 255 < f.f0 then false else if 4096 < wrap64 (size + (f.f1.length : Int)) then false else bagOk f.f0 (wrap64 (size + (f.f1.length : Int))) fs
def bagV (l : List S332) : Bool := if 32 < l.length then false else bagOk 32 0 l
theorem bag_Valid_l0 (l : List S332) (hl : l.length ≤ 32) : ∀ (d i : Nat) (last size : Int) (k : Nat), i + d = l.length → 2 * d + 1 ≤ k → bag_Valid.l0 k last size l (l.length : Int) (i : Int) = some (bagOk last size (l.drop i)) := by
  intro d
  induction d with
  | zero =>
    intro i last size k hi hk
    obtain ⟨k, rfl⟩ : ∃ m, k = m + 1 := ⟨k - 1, by omega⟩
    rw [List.drop_eq_nil_of_le (by omega)]
    simp only [bag_Valid.l0]
    rw [if_neg (by omega)]; rfl
  | succ d ih =>
    intro i last size k hi hk
    obtain ⟨k, rfl⟩ : ∃ m, k = m + 2 := ⟨k - 2, by omega⟩
    rw [drop_rd332 l i (by omega)]
    simp only [bag_Valid.l0, bagOk]
    rw [if_pos (by omega), if_pos (by omega), if_pos (by omega)]
    have hw : wrap64 ((i : Int) + 1) = ((i + 1 : Nat) : Int) := by rw [w64 (by omega) (by omega)]; omega
    by_cases h1 : (rd_T332 l (i : Int)).f0 < last
    · rw [if_pos h1, if_pos (.inl h1)]; simp [bag_Valid.j1]
    · rw [if_neg h1]
      by_cases h2 : 255 < (rd_T332 l (i : Int)).f0
      · rw [if_pos (.inr h2)]; simp [bag_Valid.j1, h2]
      · rw [if_neg (by omega)]
        simp only [bag_Valid.j1]
        rw [if_neg (by simpa using h2)]
        by_cases h3 : 4096 < wrap64 (size + ((rd_T332 l (i : Int)).f1.length : Int))
        · rw [if_pos h3, if_pos h3]
        · rw [if_neg h3, if_neg h3, hw, ih (i + 1) _ _ k (by omega) (by omega)]
theorem bag_Valid_f (l : List S332) (k : Nat) (hk : 66 ≤ k) : bag_Valid.f k l = some (bagV l) := by
  unfold bag_Valid.f bagV
  by_cases h : 32 < l.length
  · rw [if_pos (by omega), if_pos h]
  · rw [if_neg (by omega), if_neg h]
    exact bag_Valid_l0 l (by omega) l.length 0 32 0 k (by omega) (by omega)

end Go.Proofs.Ythajahdjkmfnnaa.RL
