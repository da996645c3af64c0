-- Printed by a program of this session (wip/pp.py) over the kit's printer, with functions proved by hand among them.
import Derived.Test.YthajahdjkmfnnaaDLx0
import Derived.Test.YthajahdjkmfnnaaDLx2
import Derived.Test.YthajahdjkmfnnaaDLx5
import Derived.Test.YthajahdjkmfnnaaDLx8
namespace Go.Proofs.Ythajahdjkmfnnaa.DL
open Go.RowKit Go.Proofs.YthajahdjkmfnnaaW.PrintWords Go.Proofs.YthajahdjkmfnnaaW.PrintLast Go.Proofs.YthajahdjkmfnnaaW.PrintMore
attribute [local go_sem] max2_int min2_int max_two min_two max_three min_three max_four min_four   -- for this text's walks alone
set_option linter.unusedVariables false
set_option linter.unusedSimpArgs false

/-! ### polyglotlaw08_AllAlike: function 36 -/
def polyglotlaw08_AllAlike.l0 : Nat → List (S31) → List (S31) → Int → Option (Bool)
  | 0, _, _, _ => none
  | k + 1, x0, x1, x5 => if x5 < (x0.length : Int) then (if 0 ≤ x5 then (if x5 < (x1.length : Int) then ((polyglotlaw08_Alike.f k ((rd_T31 x0 x5).f0) ((rd_T31 x0 x5).f1) ((rd_T31 x0 x5).f2) ((rd_T31 x0 x5).f3.f0) ((rd_T31 x0 x5).f3.f1) ((rd_T31 x0 x5).f4) ((rd_T31 x0 x5).f5) ((rd_T31 x1 x5).f0) ((rd_T31 x1 x5).f1) ((rd_T31 x1 x5).f2) ((rd_T31 x1 x5).f3.f0) ((rd_T31 x1 x5).f3.f1) ((rd_T31 x1 x5).f4) ((rd_T31 x1 x5).f5)).bind fun t188 => (if t188 = true then (polyglotlaw08_AllAlike.l0 k x0 x1 (wrap64 (x5 + 1))) else (some false))) else (none)) else (none)) else (some true)
def polyglotlaw08_AllAlike.f (k : Nat) (l0 : List (S31)) (l1 : List (S31)) : Option (Bool) := if (l0.length : Int) = (l1.length : Int) then (polyglotlaw08_AllAlike.l0 k l0 l1 0) else (some false)
theorem polyglotlaw08_AllAlike.mono_l : ∀ k, (∀ y0 y1 y2, LeO (polyglotlaw08_AllAlike.l0 k y0 y1 y2) (polyglotlaw08_AllAlike.l0 (k + 1) y0 y1 y2))
  | 0 => fun _ _ _ r h => by simp [polyglotlaw08_AllAlike.l0] at h
  | k + 1 => by
    have ih0 := polyglotlaw08_AllAlike.mono_l k
    · intro y0 y1 y2
      unfold polyglotlaw08_AllAlike.l0
      repeat' first
      | (with_reducible exact ih0 _ _ _)
      | (with_reducible exact polyglotlaw08_Alike.mono _ _ _ _ _ _ _ _ _ _ _ _ _ _ _)
      | (with_reducible exact LeO.refl _)
      | (with_reducible exact LeO.none _)
      | (with_reducible refine LeO.ite ?_ ?_)
      | (with_reducible refine LeO.bind ?_ (fun _ => ?_))
      | exact ih0 _ _ _
      | exact polyglotlaw08_Alike.mono _ _ _ _ _ _ _ _ _ _ _ _ _ _ _
      | exact LeO.none _
      | refine LeO.ite ?_ ?_
      | refine LeO.bind ?_ (fun _ => ?_)
theorem polyglotlaw08_AllAlike.mono : ∀ a0 a1 k, LeO (polyglotlaw08_AllAlike.f k a0 a1) (polyglotlaw08_AllAlike.f (k + 1) a0 a1) := by
  intro a0 a1 k
  have ih0 := polyglotlaw08_AllAlike.mono_l k
  unfold polyglotlaw08_AllAlike.f
  repeat' first
      | (with_reducible exact ih0 _ _ _)
      | (with_reducible exact polyglotlaw08_Alike.mono _ _ _ _ _ _ _ _ _ _ _ _ _ _ _)
      | (with_reducible exact LeO.refl _)
      | (with_reducible exact LeO.none _)
      | (with_reducible refine LeO.ite ?_ ?_)
      | (with_reducible refine LeO.bind ?_ (fun _ => ?_))
      | exact ih0 _ _ _
      | exact polyglotlaw08_Alike.mono _ _ _ _ _ _ _ _ _ _ _ _ _ _ _
      | exact LeO.none _
      | refine LeO.ite ?_ ?_
      | refine LeO.bind ?_ (fun _ => ?_)
def polyglotlaw08_AllAlike.T6 : Bool × List (List Nat × List Nat) := (true, [([], []), ([], []), ([0, 1], [0, 1]), ([2], [2]), ([], []), ([], []), ([4, 5], [4, 5]), ([6], [6]), ([3, 7], [3, 7]), ([8], [8])])
def polyglotlaw08_AllAlike.B6 : List Nat := [0, 0, 3, 7, 0, 0, 48, 112, 255, 511]
theorem polyglotlaw08_AllAlike.tab6 : rtab .any (opsOf Try.f36 6) = polyglotlaw08_AllAlike.T6 := by kernel_rfl
theorem polyglotlaw08_AllAlike.bits6 : waitsOk polyglotlaw08_AllAlike.T6.2 polyglotlaw08_AllAlike.B6 = true := by kernel_rfl
set_option maxHeartbeats 8000000 in
set_option maxRecDepth 100000 in
theorem polyglotlaw08_AllAlike.calls (k : Nat) (A0 : Option Addr) (c0 : Nat) (l0 : List (S31)) (A1 : Option Addr) (c1 : Nat) (l1 : List (S31)) (r : Bool) (w : World) (hr0 : Kd.C k31 w A0 l0.length l0) (hc0 : l0.length ≤ c0) (hr1 : Kd.C k31 w A1 l1.length l1) (hc1 : l1.length ≤ c1) (h : polyglotlaw08_AllAlike.f k l0 l1 = some r) :
    Calls Try.prog 36 #[.slice A0 l0.length c0, .slice A1 l1.length c1] w fun e w' => e = .returned (.bool r) ∧ Below w.heap.size w w' := by
  have hu31 := Try.underlying31
  have HR0 := Aside0.mk hr0
  have HC0 := Aside0.mk hc0
  clear hr0 hc0
  have HR1 := Aside0.mk hr1
  have HC1 := Aside0.mk hc1
  clear hr1 hc1
  have HB := Aside0.mk (Below.refl w.heap.size w)
  have H : (if (l0.length : Int) = (l1.length : Int) then (polyglotlaw08_AllAlike.l0 k l0 l1 0) else (some false)) = some r := h
  clear h
  by_cases c3 : (l0.length : Int) = (l1.length : Int)
  · rw [if_pos c3] at H
    have c3b0 : ((l0.length : Int) == (l1.length : Int)) = true := beq_iff_eq.mpr c3
    have c3b1 : ((l0.length : Int) != (l1.length : Int)) = false := bne_eq_false_iff_eq.mpr c3
    have c3b2 : (l0.length == l1.length) = true := by first | simpa using c3 | (simp at c3 ⊢; omega)
    clear c3
    have H' := Aside0.mk H
    clear H
    go_enter Try.func36, Try.ntmps36
    go_wp2
    go_loopg [5] k (fun kq v5 w' => ∃ (x5_1 : Int), v5 = .int .i64 x5_1 ∧ Aside0 (polyglotlaw08_AllAlike.l0 kq l0 l1 x5_1 = some r) ∧ Aside0 (kq ≤ k) ∧ Aside0 (Below w.heap.size w w'))
    case atStart => exact ⟨(0), (by first | rfl | (simp; done) | (simp [*]; done)), H', ⟨Nat.le_refl _⟩, ⟨by repeat (first | (with_reducible first | exact HB.out | apply below_alloc | apply pw_below_drewN | apply below_drew1) | exact HB.out)⟩⟩
    case round =>
      clear H'
      try clear c1
      try clear p2
      try clear c3
      try clear c3b0
      try clear c3b1
      try clear c3b2
      obtain ⟨x5_1, rfl, HA, HK1, HB⟩ := hrel
      cases gk with
      | zero => exact absurd HA.out (by simp [polyglotlaw08_AllAlike.l0])
      | succ k1 =>
        have H := HA.out
        clear HA
        simp only [polyglotlaw08_AllAlike.l0] at H
        by_cases c4 : x5_1 < (l0.length : Int)
        · rw [if_pos c4] at H
          have c4b0 : decide (x5_1 < (l0.length : Int)) = true := decide_eq_true c4
          clear c4
          by_cases c5 : 0 ≤ x5_1
          · rw [if_pos c5] at H
            have c5b0 : decide (0 ≤ x5_1) = true := decide_eq_true c5
            clear c5
            by_cases c6 : x5_1 < (l1.length : Int)
            · rw [if_pos c6] at H
              have c6b0 : decide (x5_1 < (l1.length : Int)) = true := decide_eq_true c6
              clear c6
              replace H := Option.bind_eq_some_iff.mp H
              obtain ⟨t188, A70, H⟩ := H
              replace H : (if t188 = true then (polyglotlaw08_AllAlike.l0 k1 l0 l1 (wrap64 (x5_1 + 1))) else (some false)) = some r := H
              have A7 := Aside0.mk A70
              clear A70
              by_cases c8 : t188 = true
              · subst c8
                have H1 : (polyglotlaw08_AllAlike.l0 k1 l0 l1 (wrap64 (x5_1 + 1))) = some r := by rw [if_pos rfl] at H; exact H
                clear H
                have H := H1
                clear H1
                have H' := Aside0.mk H
                clear H
                try go_wp2
                have n0_ := Aside0.mk (below_drew1 HB.out)
                clear HB
                have HB := n0_
                clear n0_
                have p186 : 0 ≤ (x5_1 : Int) := of_decide_eq_true (by first | (with_reducible assumption) | assumption)
                have q186 : x5_1 < (l0.length : Int) := of_decide_eq_true (by first | (with_reducible assumption) | assumption)
                obtain ⟨ad186, A186_6, c186_6, e186, hx186_0, hx186_1, hx186_2, hx186_3, hx186_4, hx186_5, hx186_6, hl186_6, hi186_6⟩ := at_T31 HR0.out x5_1 p186 q186
                have hw186_6 := hx186_6
                have hw186_5 := hx186_5
                have hw186_4 := hx186_4
                have hw186_3 := hx186_3
                have hw186_2 := hx186_2
                have hw186_1 := hx186_1
                have hw186_0 := hx186_0
                cases e186
                replace hx186_0 := (HB.out.cell (World.block_lt_of_cell? w _ hx186_0)).trans hx186_0
                replace hx186_1 := (HB.out.cell (World.block_lt_of_cell? w _ hx186_1)).trans hx186_1
                replace hx186_2 := (HB.out.cell (World.block_lt_of_cell? w _ hx186_2)).trans hx186_2
                replace hx186_3 := (HB.out.cell (World.block_lt_of_cell? w _ hx186_3)).trans hx186_3
                replace hx186_4 := (HB.out.cell (World.block_lt_of_cell? w _ hx186_4)).trans hx186_4
                replace hx186_5 := (HB.out.cell (World.block_lt_of_cell? w _ hx186_5)).trans hx186_5
                replace hx186_6 := (HB.out.cell (World.block_lt_of_cell? w _ hx186_6)).trans hx186_6
                have HR186_6 := Aside0.mk hi186_6
                have HC186_6 := Aside0.mk hl186_6
                clear hi186_6 hl186_6
                replace p186 := eq_true p186
                replace q186 := eq_true q186
                have p187 : 0 ≤ (x5_1 : Int) := of_decide_eq_true (by first | (with_reducible assumption) | assumption)
                have q187 : x5_1 < (l1.length : Int) := of_decide_eq_true (by first | (with_reducible assumption) | assumption)
                obtain ⟨ad187, A187_6, c187_6, e187, hx187_0, hx187_1, hx187_2, hx187_3, hx187_4, hx187_5, hx187_6, hl187_6, hi187_6⟩ := at_T31 HR1.out x5_1 p187 q187
                have hw187_6 := hx187_6
                have hw187_5 := hx187_5
                have hw187_4 := hx187_4
                have hw187_3 := hx187_3
                have hw187_2 := hx187_2
                have hw187_1 := hx187_1
                have hw187_0 := hx187_0
                cases e187
                replace hx187_0 := (HB.out.cell (World.block_lt_of_cell? w _ hx187_0)).trans hx187_0
                replace hx187_1 := (HB.out.cell (World.block_lt_of_cell? w _ hx187_1)).trans hx187_1
                replace hx187_2 := (HB.out.cell (World.block_lt_of_cell? w _ hx187_2)).trans hx187_2
                replace hx187_3 := (HB.out.cell (World.block_lt_of_cell? w _ hx187_3)).trans hx187_3
                replace hx187_4 := (HB.out.cell (World.block_lt_of_cell? w _ hx187_4)).trans hx187_4
                replace hx187_5 := (HB.out.cell (World.block_lt_of_cell? w _ hx187_5)).trans hx187_5
                replace hx187_6 := (HB.out.cell (World.block_lt_of_cell? w _ hx187_6)).trans hx187_6
                have HR187_6 := Aside0.mk hi187_6
                have HC187_6 := Aside0.mk hl187_6
                clear hi187_6 hl187_6
                replace p187 := eq_true p187
                replace q187 := eq_true q187
                refine start_ (n := 10) (S := fun w' => w'.cell? (ad186.add ((x5_1).toNat * 7)) = some (.int .i64 ((rd_T31 l0 x5_1).f0)) ∧ w'.cell? ⟨(ad186.add ((x5_1).toNat * 7)).block, (ad186.add ((x5_1).toNat * 7)).off + 1, none⟩ = some (.int .i64 ((rd_T31 l0 x5_1).f1)) ∧ w'.cell? ⟨(ad186.add ((x5_1).toNat * 7)).block, (ad186.add ((x5_1).toNat * 7)).off + 2, none⟩ = some (.int .i64 ((rd_T31 l0 x5_1).f2)) ∧ w'.cell? ⟨(ad186.add ((x5_1).toNat * 7)).block, (ad186.add ((x5_1).toNat * 7)).off + 3, none⟩ = some (.int .i64 ((rd_T31 l0 x5_1).f3.f0)) ∧ w'.cell? ⟨(ad186.add ((x5_1).toNat * 7)).block, (ad186.add ((x5_1).toNat * 7)).off + 4, none⟩ = some (.int .i64 ((rd_T31 l0 x5_1).f3.f1)) ∧ w'.cell? ⟨(ad186.add ((x5_1).toNat * 7)).block, (ad186.add ((x5_1).toNat * 7)).off + 5, none⟩ = some (.bool ((rd_T31 l0 x5_1).f4)) ∧ w'.cell? ⟨(ad186.add ((x5_1).toNat * 7)).block, (ad186.add ((x5_1).toNat * 7)).off + 6, none⟩ = some (.slice A186_6 ((rd_T31 l0 x5_1).f5).length c186_6) ∧ w'.cell? (ad187.add ((x5_1).toNat * 7)) = some (.int .i64 ((rd_T31 l1 x5_1).f0)) ∧ w'.cell? ⟨(ad187.add ((x5_1).toNat * 7)).block, (ad187.add ((x5_1).toNat * 7)).off + 1, none⟩ = some (.int .i64 ((rd_T31 l1 x5_1).f1)) ∧ w'.cell? ⟨(ad187.add ((x5_1).toNat * 7)).block, (ad187.add ((x5_1).toNat * 7)).off + 2, none⟩ = some (.int .i64 ((rd_T31 l1 x5_1).f2)) ∧ w'.cell? ⟨(ad187.add ((x5_1).toNat * 7)).block, (ad187.add ((x5_1).toNat * 7)).off + 3, none⟩ = some (.int .i64 ((rd_T31 l1 x5_1).f3.f0)) ∧ w'.cell? ⟨(ad187.add ((x5_1).toNat * 7)).block, (ad187.add ((x5_1).toNat * 7)).off + 4, none⟩ = some (.int .i64 ((rd_T31 l1 x5_1).f3.f1)) ∧ w'.cell? ⟨(ad187.add ((x5_1).toNat * 7)).block, (ad187.add ((x5_1).toNat * 7)).off + 5, none⟩ = some (.bool ((rd_T31 l1 x5_1).f4)) ∧ w'.cell? ⟨(ad187.add ((x5_1).toNat * 7)).block, (ad187.add ((x5_1).toNat * 7)).off + 6, none⟩ = some (.slice A187_6 ((rd_T31 l1 x5_1).f5).length c187_6)) (ds := []) #[false, false, false, false, false, false, false, false, false, false] (by kernel_rfl) rfl rfl ⟨((HB.out.cell (World.block_lt_of_cell? w _ hw186_0)).trans hw186_0), ((HB.out.cell (World.block_lt_of_cell? w _ hw186_1)).trans hw186_1), ((HB.out.cell (World.block_lt_of_cell? w _ hw186_2)).trans hw186_2), ((HB.out.cell (World.block_lt_of_cell? w _ hw186_3)).trans hw186_3), ((HB.out.cell (World.block_lt_of_cell? w _ hw186_4)).trans hw186_4), ((HB.out.cell (World.block_lt_of_cell? w _ hw186_5)).trans hw186_5), ((HB.out.cell (World.block_lt_of_cell? w _ hw186_6)).trans hw186_6), ((HB.out.cell (World.block_lt_of_cell? w _ hw187_0)).trans hw187_0), ((HB.out.cell (World.block_lt_of_cell? w _ hw187_1)).trans hw187_1), ((HB.out.cell (World.block_lt_of_cell? w _ hw187_2)).trans hw187_2), ((HB.out.cell (World.block_lt_of_cell? w _ hw187_3)).trans hw187_3), ((HB.out.cell (World.block_lt_of_cell? w _ hw187_4)).trans hw187_4), ((HB.out.cell (World.block_lt_of_cell? w _ hw187_5)).trans hw187_5), ((HB.out.cell (World.block_lt_of_cell? w _ hw187_6)).trans hw187_6)⟩ (fun hHeld => ?_); refine with_tabW polyglotlaw08_AllAlike.tab6 polyglotlaw08_AllAlike.bits6 (fun HT_ HW_ => ?_)
                generalize wr.drew = w9 at HB HR186_6 HR187_6 hx186_0 hx186_1 hx186_2 hx186_3 hx186_4 hx186_5 hx186_6 hx187_0 hx187_1 hx187_2 hx187_3 hx187_4 hx187_5 hx187_6 hHeld ⊢
                refine pure_ (i := 0) (N := some 17) (v := ?_) (a' := ?_) #[true, false, false, false, false, false, false, false, false, false] rfl rfl (any_of HT_.out (by kernel_rfl)) (fun _ _ _ h => h) (Or.inl ⟨by rfl, ?_⟩) ?_ ?_
                rotate_left
                · intro w'
                  go_simp
                  with_reducible rfl
                rotate_left
                · simp only [Act.put, List.setIfInBounds_toArray, List.set_cons_zero, List.set_cons_succ, i64_w, i32_w]
                  rfl
                refine pure_ (i := 1) (N := some 18) (v := ?_) (a' := ?_) #[true, true, false, false, false, false, false, false, false, false] rfl rfl (any_of HT_.out (by kernel_rfl)) (fun _ _ _ h => h) (Or.inl ⟨by rfl, ?_⟩) ?_ ?_
                rotate_left
                · intro w'
                  go_simp
                  with_reducible rfl
                rotate_left
                · simp only [Act.put, List.setIfInBounds_toArray, List.set_cons_zero, List.set_cons_succ, i64_w, i32_w]
                  rfl
                refine pure_ (i := 2) (N := some 19) (v := ?_) (a' := ?_) #[true, true, true, false, false, false, false, false, false, false] rfl rfl (any_of HT_.out (by kernel_rfl)) (fun _ _ _ h => h) (Or.inl ⟨by rfl, ?_⟩) ?_ ?_
                rotate_left
                · intro w'
                  go_simp
                  with_reducible rfl
                rotate_left
                · simp only [Act.put, List.setIfInBounds_toArray, List.set_cons_zero, List.set_cons_succ, i64_w, i32_w]
                  rfl
                refine pure_ (i := 4) (N := some 21) (v := ?_) (a' := ?_) #[true, true, true, false, true, false, false, false, false, false] rfl rfl (any_of HT_.out (by kernel_rfl)) (fun _ _ _ h => h) (Or.inl ⟨by rfl, ?_⟩) ?_ ?_
                rotate_left
                · intro w'
                  go_simp
                  with_reducible rfl
                rotate_left
                · simp only [Act.put, List.setIfInBounds_toArray, List.set_cons_zero, List.set_cons_succ, i64_w, i32_w]
                  rfl
                refine pure_ (i := 5) (N := some 22) (v := ?_) (a' := ?_) #[true, true, true, false, true, true, false, false, false, false] rfl rfl (any_of HT_.out (by kernel_rfl)) (fun _ _ _ h => h) (Or.inl ⟨by rfl, ?_⟩) ?_ ?_
                rotate_left
                · intro w'
                  go_simp
                  with_reducible rfl
                rotate_left
                · simp only [Act.put, List.setIfInBounds_toArray, List.set_cons_zero, List.set_cons_succ, i64_w, i32_w]
                  rfl
                refine pure_ (i := 6) (N := some 23) (v := ?_) (a' := ?_) #[true, true, true, false, true, true, true, false, false, false] rfl rfl (any_of HT_.out (by kernel_rfl)) (fun _ _ _ h => h) (Or.inl ⟨by rfl, ?_⟩) ?_ ?_
                rotate_left
                · intro w'
                  go_simp
                  with_reducible rfl
                rotate_left
                · simp only [Act.put, List.setIfInBounds_toArray, List.set_cons_zero, List.set_cons_succ, i64_w, i32_w]
                  rfl
                refine take_ (i := 3) (N := some 20) (v := ?_) (a' := ?_) #[true, true, true, true, true, true, true, false, false, false] rfl rfl (take_ofW HT_.out HW_.out (by kernel_rfl)) (fun _ _ _ h => h) (Or.inl ⟨by rfl, ?_⟩) hHeld ?_ ?_
                rotate_left
                · rintro w' ⟨s0, s1, s2, s3, s4, s5, s6, s7, s8, s9, s10, s11, s12, s13⟩
                  go_simp
                  with_reducible rfl
                rotate_left
                · simp only [Act.put, List.setIfInBounds_toArray, List.set_cons_zero, List.set_cons_succ, i64_w, i32_w]
                  rfl
                refine take_ (i := 7) (N := some 24) (v := ?_) (a' := ?_) #[true, true, true, true, true, true, true, true, false, false] rfl rfl (take_ofW HT_.out HW_.out (by kernel_rfl)) (fun _ _ _ h => h) (Or.inl ⟨by rfl, ?_⟩) hHeld ?_ ?_
                rotate_left
                · rintro w' ⟨s0, s1, s2, s3, s4, s5, s6, s7, s8, s9, s10, s11, s12, s13⟩
                  go_simp
                  with_reducible rfl
                rotate_left
                · simp only [Act.put, List.setIfInBounds_toArray, List.set_cons_zero, List.set_cons_succ, i64_w, i32_w]
                  rfl
                refine one_ (i := 8) (N := some 25) #[true, true, true, true, true, true, true, true, true, false] rfl rfl (one_of HT_.out (by kernel_rfl)) (by decide) (fun K hK => ?_)
                refine goes_ Try.func47 (by kernel_rfl) rfl #[.agg #[.int .i64 ((rd_T31 l0 x5_1).f0), .int .i64 ((rd_T31 l0 x5_1).f1), .int .i64 ((rd_T31 l0 x5_1).f2), .int .i64 ((rd_T31 l0 x5_1).f3.f0), .int .i64 ((rd_T31 l0 x5_1).f3.f1), .bool ((rd_T31 l0 x5_1).f4), .slice A186_6 ((rd_T31 l0 x5_1).f5).length c186_6], .agg #[.int .i64 ((rd_T31 l1 x5_1).f0), .int .i64 ((rd_T31 l1 x5_1).f1), .int .i64 ((rd_T31 l1 x5_1).f2), .int .i64 ((rd_T31 l1 x5_1).f3.f0), .int .i64 ((rd_T31 l1 x5_1).f3.f1), .bool ((rd_T31 l1 x5_1).f4), .slice A187_6 ((rd_T31 l1 x5_1).f5).length c187_6]] (by rfl) rfl rfl (by (try simp only [List.map_toArray, List.map_cons, List.map_nil]); first | done | rfl | (simp only [List.length_drop, List.length_take]; rfl)) ?_
                with_reducible refine (polyglotlaw08_Alike.calls k1 ((rd_T31 l0 x5_1).f0) ((rd_T31 l0 x5_1).f1) ((rd_T31 l0 x5_1).f2) ((rd_T31 l0 x5_1).f3.f0) ((rd_T31 l0 x5_1).f3.f1) ((rd_T31 l0 x5_1).f4) _ _ ((rd_T31 l0 x5_1).f5) ((rd_T31 l1 x5_1).f0) ((rd_T31 l1 x5_1).f1) ((rd_T31 l1 x5_1).f2) ((rd_T31 l1 x5_1).f3.f0) ((rd_T31 l1 x5_1).f3.f1) ((rd_T31 l1 x5_1).f4) _ _ ((rd_T31 l1 x5_1).f5) true _ ?side1 ?side2 ?side3 ?side4 A7.out).mono ?_
                (case side1 => repeat (first | exact (Kd.C_below HR186_6.out HB.out) | (with_reducible refine Kd.C_alloc ?_ _) | (with_reducible refine Kd.C_drewN ?_ _) | (with_reducible refine Kd.C_drew ?_)))
                (case side2 => exact HC186_6.out)
                (case side3 => repeat (first | exact (Kd.C_below HR187_6.out HB.out) | (with_reducible refine Kd.C_alloc ?_ _) | (with_reducible refine Kd.C_drewN ?_ _) | (with_reducible refine Kd.C_drew ?_)))
                (case side4 => exact HC187_6.out)
                rintro e w10 ⟨rfl, hb⟩
                refine ⟨_, rfl, ?_⟩
                have n0_ := Aside0.mk (below_step (by repeat (first | (with_reducible first | exact HB.out | apply below_alloc | apply pw_below_drewN | apply below_drew1) | exact HB.out)) hb)
                clear HB
                have HB := n0_
                clear n0_
                (try clear hb)
                (try clear hb2)
                (try clear hk)
                (try clear hi)
                refine hK.out _ _ ⟨((HB.out.cell (World.block_lt_of_cell? w _ hw186_0)).trans hw186_0), ((HB.out.cell (World.block_lt_of_cell? w _ hw186_1)).trans hw186_1), ((HB.out.cell (World.block_lt_of_cell? w _ hw186_2)).trans hw186_2), ((HB.out.cell (World.block_lt_of_cell? w _ hw186_3)).trans hw186_3), ((HB.out.cell (World.block_lt_of_cell? w _ hw186_4)).trans hw186_4), ((HB.out.cell (World.block_lt_of_cell? w _ hw186_5)).trans hw186_5), ((HB.out.cell (World.block_lt_of_cell? w _ hw186_6)).trans hw186_6), ((HB.out.cell (World.block_lt_of_cell? w _ hw187_0)).trans hw187_0), ((HB.out.cell (World.block_lt_of_cell? w _ hw187_1)).trans hw187_1), ((HB.out.cell (World.block_lt_of_cell? w _ hw187_2)).trans hw187_2), ((HB.out.cell (World.block_lt_of_cell? w _ hw187_3)).trans hw187_3), ((HB.out.cell (World.block_lt_of_cell? w _ hw187_4)).trans hw187_4), ((HB.out.cell (World.block_lt_of_cell? w _ hw187_5)).trans hw187_5), ((HB.out.cell (World.block_lt_of_cell? w _ hw187_6)).trans hw187_6)⟩ (fun hHeld => ?_)
                clear hK K
                refine norm_ (a' := ?_) ?_ ?_
                rotate_left
                · show Act.put _ (some 25) _ = _
                  simp only [Act.put, List.setIfInBounds_toArray, List.set_cons_zero, List.set_cons_succ, i64_w, i32_w]
                  rfl
                refine pure_ (i := 9) (N := some 26) (v := ?_) (a' := ?_) #[true, true, true, true, true, true, true, true, true, true] rfl rfl (any_of HT_.out (by kernel_rfl)) (fun _ _ _ h => h) (Or.inl ⟨by rfl, ?_⟩) ?_ ?_
                rotate_left
                · intro w'
                  go_simp
                  with_reducible rfl
                rotate_left
                · simp only [Act.put, List.setIfInBounds_toArray, List.set_cons_zero, List.set_cons_succ, i64_w, i32_w]
                  rfl
                refine done_ (done_of HT_.out (by kernel_rfl)) ?_
                try go_wp2
                go_roundg k1
                case measure => have := HK1.out; omega
                case rel => exact ⟨(wrap64 (x5_1 + 1)), (by first | rfl | (simp; done) | (simp [*]; done)), H', ⟨by have := HK1.out; omega⟩, ⟨by repeat (first | (with_reducible first | exact HB.out | apply below_alloc | apply pw_below_drewN | apply below_drew1) | exact HB.out)⟩⟩
              · replace c8 := Bool.eq_false_iff.mpr c8
                subst c8
                have H1 : (some false) = some r := by rw [if_neg (show ¬ (false = true) by decide)] at H; exact H
                clear H
                have H := H1
                clear H1
                obtain rfl := Option.some.inj H
                try go_wp2
                have n0_ := Aside0.mk (below_drew1 HB.out)
                clear HB
                have HB := n0_
                clear n0_
                have p186 : 0 ≤ (x5_1 : Int) := of_decide_eq_true (by first | (with_reducible assumption) | assumption)
                have q186 : x5_1 < (l0.length : Int) := of_decide_eq_true (by first | (with_reducible assumption) | assumption)
                obtain ⟨ad186, A186_6, c186_6, e186, hx186_0, hx186_1, hx186_2, hx186_3, hx186_4, hx186_5, hx186_6, hl186_6, hi186_6⟩ := at_T31 HR0.out x5_1 p186 q186
                have hw186_6 := hx186_6
                have hw186_5 := hx186_5
                have hw186_4 := hx186_4
                have hw186_3 := hx186_3
                have hw186_2 := hx186_2
                have hw186_1 := hx186_1
                have hw186_0 := hx186_0
                cases e186
                replace hx186_0 := (HB.out.cell (World.block_lt_of_cell? w _ hx186_0)).trans hx186_0
                replace hx186_1 := (HB.out.cell (World.block_lt_of_cell? w _ hx186_1)).trans hx186_1
                replace hx186_2 := (HB.out.cell (World.block_lt_of_cell? w _ hx186_2)).trans hx186_2
                replace hx186_3 := (HB.out.cell (World.block_lt_of_cell? w _ hx186_3)).trans hx186_3
                replace hx186_4 := (HB.out.cell (World.block_lt_of_cell? w _ hx186_4)).trans hx186_4
                replace hx186_5 := (HB.out.cell (World.block_lt_of_cell? w _ hx186_5)).trans hx186_5
                replace hx186_6 := (HB.out.cell (World.block_lt_of_cell? w _ hx186_6)).trans hx186_6
                have HR186_6 := Aside0.mk hi186_6
                have HC186_6 := Aside0.mk hl186_6
                clear hi186_6 hl186_6
                replace p186 := eq_true p186
                replace q186 := eq_true q186
                have p187 : 0 ≤ (x5_1 : Int) := of_decide_eq_true (by first | (with_reducible assumption) | assumption)
                have q187 : x5_1 < (l1.length : Int) := of_decide_eq_true (by first | (with_reducible assumption) | assumption)
                obtain ⟨ad187, A187_6, c187_6, e187, hx187_0, hx187_1, hx187_2, hx187_3, hx187_4, hx187_5, hx187_6, hl187_6, hi187_6⟩ := at_T31 HR1.out x5_1 p187 q187
                have hw187_6 := hx187_6
                have hw187_5 := hx187_5
                have hw187_4 := hx187_4
                have hw187_3 := hx187_3
                have hw187_2 := hx187_2
                have hw187_1 := hx187_1
                have hw187_0 := hx187_0
                cases e187
                replace hx187_0 := (HB.out.cell (World.block_lt_of_cell? w _ hx187_0)).trans hx187_0
                replace hx187_1 := (HB.out.cell (World.block_lt_of_cell? w _ hx187_1)).trans hx187_1
                replace hx187_2 := (HB.out.cell (World.block_lt_of_cell? w _ hx187_2)).trans hx187_2
                replace hx187_3 := (HB.out.cell (World.block_lt_of_cell? w _ hx187_3)).trans hx187_3
                replace hx187_4 := (HB.out.cell (World.block_lt_of_cell? w _ hx187_4)).trans hx187_4
                replace hx187_5 := (HB.out.cell (World.block_lt_of_cell? w _ hx187_5)).trans hx187_5
                replace hx187_6 := (HB.out.cell (World.block_lt_of_cell? w _ hx187_6)).trans hx187_6
                have HR187_6 := Aside0.mk hi187_6
                have HC187_6 := Aside0.mk hl187_6
                clear hi187_6 hl187_6
                replace p187 := eq_true p187
                replace q187 := eq_true q187
                refine start_ (n := 10) (S := fun w' => w'.cell? (ad186.add ((x5_1).toNat * 7)) = some (.int .i64 ((rd_T31 l0 x5_1).f0)) ∧ w'.cell? ⟨(ad186.add ((x5_1).toNat * 7)).block, (ad186.add ((x5_1).toNat * 7)).off + 1, none⟩ = some (.int .i64 ((rd_T31 l0 x5_1).f1)) ∧ w'.cell? ⟨(ad186.add ((x5_1).toNat * 7)).block, (ad186.add ((x5_1).toNat * 7)).off + 2, none⟩ = some (.int .i64 ((rd_T31 l0 x5_1).f2)) ∧ w'.cell? ⟨(ad186.add ((x5_1).toNat * 7)).block, (ad186.add ((x5_1).toNat * 7)).off + 3, none⟩ = some (.int .i64 ((rd_T31 l0 x5_1).f3.f0)) ∧ w'.cell? ⟨(ad186.add ((x5_1).toNat * 7)).block, (ad186.add ((x5_1).toNat * 7)).off + 4, none⟩ = some (.int .i64 ((rd_T31 l0 x5_1).f3.f1)) ∧ w'.cell? ⟨(ad186.add ((x5_1).toNat * 7)).block, (ad186.add ((x5_1).toNat * 7)).off + 5, none⟩ = some (.bool ((rd_T31 l0 x5_1).f4)) ∧ w'.cell? ⟨(ad186.add ((x5_1).toNat * 7)).block, (ad186.add ((x5_1).toNat * 7)).off + 6, none⟩ = some (.slice A186_6 ((rd_T31 l0 x5_1).f5).length c186_6) ∧ w'.cell? (ad187.add ((x5_1).toNat * 7)) = some (.int .i64 ((rd_T31 l1 x5_1).f0)) ∧ w'.cell? ⟨(ad187.add ((x5_1).toNat * 7)).block, (ad187.add ((x5_1).toNat * 7)).off + 1, none⟩ = some (.int .i64 ((rd_T31 l1 x5_1).f1)) ∧ w'.cell? ⟨(ad187.add ((x5_1).toNat * 7)).block, (ad187.add ((x5_1).toNat * 7)).off + 2, none⟩ = some (.int .i64 ((rd_T31 l1 x5_1).f2)) ∧ w'.cell? ⟨(ad187.add ((x5_1).toNat * 7)).block, (ad187.add ((x5_1).toNat * 7)).off + 3, none⟩ = some (.int .i64 ((rd_T31 l1 x5_1).f3.f0)) ∧ w'.cell? ⟨(ad187.add ((x5_1).toNat * 7)).block, (ad187.add ((x5_1).toNat * 7)).off + 4, none⟩ = some (.int .i64 ((rd_T31 l1 x5_1).f3.f1)) ∧ w'.cell? ⟨(ad187.add ((x5_1).toNat * 7)).block, (ad187.add ((x5_1).toNat * 7)).off + 5, none⟩ = some (.bool ((rd_T31 l1 x5_1).f4)) ∧ w'.cell? ⟨(ad187.add ((x5_1).toNat * 7)).block, (ad187.add ((x5_1).toNat * 7)).off + 6, none⟩ = some (.slice A187_6 ((rd_T31 l1 x5_1).f5).length c187_6)) (ds := []) #[false, false, false, false, false, false, false, false, false, false] (by kernel_rfl) rfl rfl ⟨((HB.out.cell (World.block_lt_of_cell? w _ hw186_0)).trans hw186_0), ((HB.out.cell (World.block_lt_of_cell? w _ hw186_1)).trans hw186_1), ((HB.out.cell (World.block_lt_of_cell? w _ hw186_2)).trans hw186_2), ((HB.out.cell (World.block_lt_of_cell? w _ hw186_3)).trans hw186_3), ((HB.out.cell (World.block_lt_of_cell? w _ hw186_4)).trans hw186_4), ((HB.out.cell (World.block_lt_of_cell? w _ hw186_5)).trans hw186_5), ((HB.out.cell (World.block_lt_of_cell? w _ hw186_6)).trans hw186_6), ((HB.out.cell (World.block_lt_of_cell? w _ hw187_0)).trans hw187_0), ((HB.out.cell (World.block_lt_of_cell? w _ hw187_1)).trans hw187_1), ((HB.out.cell (World.block_lt_of_cell? w _ hw187_2)).trans hw187_2), ((HB.out.cell (World.block_lt_of_cell? w _ hw187_3)).trans hw187_3), ((HB.out.cell (World.block_lt_of_cell? w _ hw187_4)).trans hw187_4), ((HB.out.cell (World.block_lt_of_cell? w _ hw187_5)).trans hw187_5), ((HB.out.cell (World.block_lt_of_cell? w _ hw187_6)).trans hw187_6)⟩ (fun hHeld => ?_); refine with_tabW polyglotlaw08_AllAlike.tab6 polyglotlaw08_AllAlike.bits6 (fun HT_ HW_ => ?_)
                generalize wr.drew = w11 at HB HR186_6 HR187_6 hx186_0 hx186_1 hx186_2 hx186_3 hx186_4 hx186_5 hx186_6 hx187_0 hx187_1 hx187_2 hx187_3 hx187_4 hx187_5 hx187_6 hHeld ⊢
                refine pure_ (i := 0) (N := some 17) (v := ?_) (a' := ?_) #[true, false, false, false, false, false, false, false, false, false] rfl rfl (any_of HT_.out (by kernel_rfl)) (fun _ _ _ h => h) (Or.inl ⟨by rfl, ?_⟩) ?_ ?_
                rotate_left
                · intro w'
                  go_simp
                  with_reducible rfl
                rotate_left
                · simp only [Act.put, List.setIfInBounds_toArray, List.set_cons_zero, List.set_cons_succ, i64_w, i32_w]
                  rfl
                refine pure_ (i := 1) (N := some 18) (v := ?_) (a' := ?_) #[true, true, false, false, false, false, false, false, false, false] rfl rfl (any_of HT_.out (by kernel_rfl)) (fun _ _ _ h => h) (Or.inl ⟨by rfl, ?_⟩) ?_ ?_
                rotate_left
                · intro w'
                  go_simp
                  with_reducible rfl
                rotate_left
                · simp only [Act.put, List.setIfInBounds_toArray, List.set_cons_zero, List.set_cons_succ, i64_w, i32_w]
                  rfl
                refine pure_ (i := 2) (N := some 19) (v := ?_) (a' := ?_) #[true, true, true, false, false, false, false, false, false, false] rfl rfl (any_of HT_.out (by kernel_rfl)) (fun _ _ _ h => h) (Or.inl ⟨by rfl, ?_⟩) ?_ ?_
                rotate_left
                · intro w'
                  go_simp
                  with_reducible rfl
                rotate_left
                · simp only [Act.put, List.setIfInBounds_toArray, List.set_cons_zero, List.set_cons_succ, i64_w, i32_w]
                  rfl
                refine pure_ (i := 4) (N := some 21) (v := ?_) (a' := ?_) #[true, true, true, false, true, false, false, false, false, false] rfl rfl (any_of HT_.out (by kernel_rfl)) (fun _ _ _ h => h) (Or.inl ⟨by rfl, ?_⟩) ?_ ?_
                rotate_left
                · intro w'
                  go_simp
                  with_reducible rfl
                rotate_left
                · simp only [Act.put, List.setIfInBounds_toArray, List.set_cons_zero, List.set_cons_succ, i64_w, i32_w]
                  rfl
                refine pure_ (i := 5) (N := some 22) (v := ?_) (a' := ?_) #[true, true, true, false, true, true, false, false, false, false] rfl rfl (any_of HT_.out (by kernel_rfl)) (fun _ _ _ h => h) (Or.inl ⟨by rfl, ?_⟩) ?_ ?_
                rotate_left
                · intro w'
                  go_simp
                  with_reducible rfl
                rotate_left
                · simp only [Act.put, List.setIfInBounds_toArray, List.set_cons_zero, List.set_cons_succ, i64_w, i32_w]
                  rfl
                refine pure_ (i := 6) (N := some 23) (v := ?_) (a' := ?_) #[true, true, true, false, true, true, true, false, false, false] rfl rfl (any_of HT_.out (by kernel_rfl)) (fun _ _ _ h => h) (Or.inl ⟨by rfl, ?_⟩) ?_ ?_
                rotate_left
                · intro w'
                  go_simp
                  with_reducible rfl
                rotate_left
                · simp only [Act.put, List.setIfInBounds_toArray, List.set_cons_zero, List.set_cons_succ, i64_w, i32_w]
                  rfl
                refine take_ (i := 3) (N := some 20) (v := ?_) (a' := ?_) #[true, true, true, true, true, true, true, false, false, false] rfl rfl (take_ofW HT_.out HW_.out (by kernel_rfl)) (fun _ _ _ h => h) (Or.inl ⟨by rfl, ?_⟩) hHeld ?_ ?_
                rotate_left
                · rintro w' ⟨s0, s1, s2, s3, s4, s5, s6, s7, s8, s9, s10, s11, s12, s13⟩
                  go_simp
                  with_reducible rfl
                rotate_left
                · simp only [Act.put, List.setIfInBounds_toArray, List.set_cons_zero, List.set_cons_succ, i64_w, i32_w]
                  rfl
                refine take_ (i := 7) (N := some 24) (v := ?_) (a' := ?_) #[true, true, true, true, true, true, true, true, false, false] rfl rfl (take_ofW HT_.out HW_.out (by kernel_rfl)) (fun _ _ _ h => h) (Or.inl ⟨by rfl, ?_⟩) hHeld ?_ ?_
                rotate_left
                · rintro w' ⟨s0, s1, s2, s3, s4, s5, s6, s7, s8, s9, s10, s11, s12, s13⟩
                  go_simp
                  with_reducible rfl
                rotate_left
                · simp only [Act.put, List.setIfInBounds_toArray, List.set_cons_zero, List.set_cons_succ, i64_w, i32_w]
                  rfl
                refine one_ (i := 8) (N := some 25) #[true, true, true, true, true, true, true, true, true, false] rfl rfl (one_of HT_.out (by kernel_rfl)) (by decide) (fun K hK => ?_)
                refine goes_ Try.func47 (by kernel_rfl) rfl #[.agg #[.int .i64 ((rd_T31 l0 x5_1).f0), .int .i64 ((rd_T31 l0 x5_1).f1), .int .i64 ((rd_T31 l0 x5_1).f2), .int .i64 ((rd_T31 l0 x5_1).f3.f0), .int .i64 ((rd_T31 l0 x5_1).f3.f1), .bool ((rd_T31 l0 x5_1).f4), .slice A186_6 ((rd_T31 l0 x5_1).f5).length c186_6], .agg #[.int .i64 ((rd_T31 l1 x5_1).f0), .int .i64 ((rd_T31 l1 x5_1).f1), .int .i64 ((rd_T31 l1 x5_1).f2), .int .i64 ((rd_T31 l1 x5_1).f3.f0), .int .i64 ((rd_T31 l1 x5_1).f3.f1), .bool ((rd_T31 l1 x5_1).f4), .slice A187_6 ((rd_T31 l1 x5_1).f5).length c187_6]] (by rfl) rfl rfl (by (try simp only [List.map_toArray, List.map_cons, List.map_nil]); first | done | rfl | (simp only [List.length_drop, List.length_take]; rfl)) ?_
                with_reducible refine (polyglotlaw08_Alike.calls k1 ((rd_T31 l0 x5_1).f0) ((rd_T31 l0 x5_1).f1) ((rd_T31 l0 x5_1).f2) ((rd_T31 l0 x5_1).f3.f0) ((rd_T31 l0 x5_1).f3.f1) ((rd_T31 l0 x5_1).f4) _ _ ((rd_T31 l0 x5_1).f5) ((rd_T31 l1 x5_1).f0) ((rd_T31 l1 x5_1).f1) ((rd_T31 l1 x5_1).f2) ((rd_T31 l1 x5_1).f3.f0) ((rd_T31 l1 x5_1).f3.f1) ((rd_T31 l1 x5_1).f4) _ _ ((rd_T31 l1 x5_1).f5) false _ ?side1 ?side2 ?side3 ?side4 A7.out).mono ?_
                (case side1 => repeat (first | exact (Kd.C_below HR186_6.out HB.out) | (with_reducible refine Kd.C_alloc ?_ _) | (with_reducible refine Kd.C_drewN ?_ _) | (with_reducible refine Kd.C_drew ?_)))
                (case side2 => exact HC186_6.out)
                (case side3 => repeat (first | exact (Kd.C_below HR187_6.out HB.out) | (with_reducible refine Kd.C_alloc ?_ _) | (with_reducible refine Kd.C_drewN ?_ _) | (with_reducible refine Kd.C_drew ?_)))
                (case side4 => exact HC187_6.out)
                rintro e w12 ⟨rfl, hb⟩
                refine ⟨_, rfl, ?_⟩
                have n0_ := Aside0.mk (below_step (by repeat (first | (with_reducible first | exact HB.out | apply below_alloc | apply pw_below_drewN | apply below_drew1) | exact HB.out)) hb)
                clear HB
                have HB := n0_
                clear n0_
                (try clear hb)
                (try clear hb2)
                (try clear hk)
                (try clear hi)
                refine hK.out _ _ ⟨((HB.out.cell (World.block_lt_of_cell? w _ hw186_0)).trans hw186_0), ((HB.out.cell (World.block_lt_of_cell? w _ hw186_1)).trans hw186_1), ((HB.out.cell (World.block_lt_of_cell? w _ hw186_2)).trans hw186_2), ((HB.out.cell (World.block_lt_of_cell? w _ hw186_3)).trans hw186_3), ((HB.out.cell (World.block_lt_of_cell? w _ hw186_4)).trans hw186_4), ((HB.out.cell (World.block_lt_of_cell? w _ hw186_5)).trans hw186_5), ((HB.out.cell (World.block_lt_of_cell? w _ hw186_6)).trans hw186_6), ((HB.out.cell (World.block_lt_of_cell? w _ hw187_0)).trans hw187_0), ((HB.out.cell (World.block_lt_of_cell? w _ hw187_1)).trans hw187_1), ((HB.out.cell (World.block_lt_of_cell? w _ hw187_2)).trans hw187_2), ((HB.out.cell (World.block_lt_of_cell? w _ hw187_3)).trans hw187_3), ((HB.out.cell (World.block_lt_of_cell? w _ hw187_4)).trans hw187_4), ((HB.out.cell (World.block_lt_of_cell? w _ hw187_5)).trans hw187_5), ((HB.out.cell (World.block_lt_of_cell? w _ hw187_6)).trans hw187_6)⟩ (fun hHeld => ?_)
                clear hK K
                refine norm_ (a' := ?_) ?_ ?_
                rotate_left
                · show Act.put _ (some 25) _ = _
                  simp only [Act.put, List.setIfInBounds_toArray, List.set_cons_zero, List.set_cons_succ, i64_w, i32_w]
                  rfl
                refine pure_ (i := 9) (N := some 26) (v := ?_) (a' := ?_) #[true, true, true, true, true, true, true, true, true, true] rfl rfl (any_of HT_.out (by kernel_rfl)) (fun _ _ _ h => h) (Or.inl ⟨by rfl, ?_⟩) ?_ ?_
                rotate_left
                · intro w'
                  go_simp
                  with_reducible rfl
                rotate_left
                · simp only [Act.put, List.setIfInBounds_toArray, List.set_cons_zero, List.set_cons_succ, i64_w, i32_w]
                  rfl
                refine done_ (done_of HT_.out (by kernel_rfl)) ?_
                try go_wp2
                go_ret
                exact ⟨by first | rfl | (simp [errW_none, errW_some] <;> rfl) | (simp [*, errW_none, errW_some] <;> rfl), by repeat (first | (with_reducible first | exact HB.out | apply below_alloc | apply pw_below_drewN | apply below_drew1) | exact HB.out)⟩
            · rw [if_neg c6] at H
              exact absurd H (by simp)
          · rw [if_neg c5] at H
            exact absurd H (by simp)
        · rw [if_neg c4] at H
          have c4b0 : decide (x5_1 < (l0.length : Int)) = false := decide_eq_false c4
          clear c4
          obtain rfl := Option.some.inj H
          go_wp2
          go_ret
          exact ⟨by first | rfl | (simp [errW_none, errW_some] <;> rfl) | (simp [*, errW_none, errW_some] <;> rfl), by repeat (first | (with_reducible first | exact HB.out | apply below_alloc | apply pw_below_drewN | apply below_drew1) | exact HB.out)⟩
  · rw [if_neg c3] at H
    have c3b0 : ((l0.length : Int) == (l1.length : Int)) = false := beq_eq_false_iff_ne.mpr c3
    have c3b1 : ((l0.length : Int) != (l1.length : Int)) = true := bne_iff_ne.mpr c3
    have c3b2 : (l0.length == l1.length) = false := by first | simpa using c3 | (simp at c3 ⊢; omega)
    obtain rfl := Option.some.inj H
    go_enter Try.func36, Try.ntmps36
    go_wp2
    go_ret
    exact ⟨by first | rfl | (simp [errW_none, errW_some] <;> rfl) | (simp [*, errW_none, errW_some] <;> rfl), by repeat (first | (with_reducible first | exact HB.out | apply below_alloc | apply pw_below_drewN | apply below_drew1) | exact HB.out)⟩

-- NOT PRINTED: function 148 (rec_Put_1)

-- NOT PRINTED: function 149 (rec_Put_2)

/-! ### rec_Put: function 44 -/
/-! copy within a row of one's own, elements of any size -/
theorem run_copy_any {P : Program} (w : World) (dT sT ty elem : TypeId) (g o dLen dCap : Nat) (a : Addr) (sLen sCap sz : Nat) (cur : Array Value) (t : TypeId) (cs : List Value)
    (hu : P.underlying dT = some (.slice elem)) (hs : (P.info? elem).map (·.size) = some sz)
    (hg : w.heap[g]? = some (.cells cur t (0, 0))) (hn : cs.length = Nat.min sLen dLen * sz)
    (hsrc : ∀ j v, cs[j]? = some v → w.cell? (a.add j) = some v) (hfit : o + cs.length ≤ cur.size) (h1 : ∀ v ∈ cs, v.oneCell' = true) :
    (Builtin.copy_ #[dT, sT] ty #[.slice (some ⟨g, o, none⟩) dLen dCap, .slice (some a) sLen sCap]).run P w =
      .ok (goInt (Nat.min sLen dLen)) (w.setRow g (cur.toList.take o ++ cs ++ cur.toList.drop (o + cs.length)).toArray) := by
  have hl := run_loadCells_list (P := P) w a cs hsrc
  have hst := run_storeCells_at P g o t cs 0 cur w hg (by simpa using hfit) h1
  cases hq : P.info? elem with
  | none => simp [hq] at hs
  | some i =>
    have hi : i.size = sz := by simpa [hq] using hs
    simp [Builtin.copy_, run_underlying hu, Builtin.lenOf, Builtin.firstCells, sizeOf, typeInfo, hq, hi, ← hn, hl, hst]
theorem run_copy_zero {P : Program} (w : World) (dT sT ty elem : TypeId) (d a : Option Addr) (dLen dCap sLen sCap sz : Nat) (hu : P.underlying dT = some (.slice elem)) (hs : (P.info? elem).map (·.size) = some sz) (hn : Nat.min sLen dLen = 0) :
    (Builtin.copy_ #[dT, sT] ty #[.slice d dLen dCap, .slice a sLen sCap]).run P w = .ok (goInt 0) w := by
  cases hq : P.info? elem with
  | none => simp [hq] at hs
  | some i =>
    have hi : i.size = sz := by simpa [hq] using hs
    have hl : ∀ (x : Addr), (loadCells x 0).run P w = .ok #[] w := fun x => by simpa using run_loadCells_list (P := P) w x [] (by simp)
    cases a <;> cases d <;> simp [Builtin.copy_, run_underlying hu, Builtin.lenOf, Builtin.firstCells, sizeOf, typeInfo, hq, hn, storeCells, hl]
namespace Kd
theorem R_shift {α : Type} {d : Kd α} {e base g n cap : Nat} {ok : Nat → Prop} {W : World} {xs : List α} (i : Nat) (h : d.R e W base ok (.slice (some ⟨g, 0, none⟩) n cap) xs) (hi : i + 1 ≤ n) :
    ∃ (cur : Array Value) (cs : List Value), W.heap[g]? = some (.cells cur e (0, 0)) ∧ cs.length = (n - (i + 1)) * d.sz ∧ (∀ j v, cs[j]? = some v → W.cell? ⟨g, i * d.sz + j, none⟩ = some v) ∧ (i + 1) * d.sz + cs.length ≤ cur.size ∧ (∀ v ∈ cs, v.oneCell' = true) ∧
      d.R e (W.setRow g (cur.toList.take ((i + 1) * d.sz) ++ cs ++ cur.toList.drop ((i + 1) * d.sz + cs.length)).toArray) base ok (.slice (some ⟨g, 0, none⟩) n cap) (xs.take (i + 1) ++ (xs.drop i).take (n - (i + 1))) := by
  have hone : ∀ m p, xs[m]? = some p → ∃ c, d.M W base (fun k => ok k ∧ some k ≠ (Value.slice (some ⟨g, 0, none⟩) n cap).ownBlock) p c ∧ c.length = d.sz ∧ (∀ u ∈ c, u.oneCell' = true) ∧ ∀ q, q < d.sz → W.cell? ⟨g, m * d.sz + q, none⟩ = c[q]? := by
    intro m p hm
    obtain ⟨hn, hnc, hC⟩ := Kd.R_reads' h
    obtain ⟨_, inner, ho, hr⟩ := h
    have hml : m < xs.length := (List.getElem?_eq_some_iff.1 hm).1
    have hM := hr.2 m p hm
    have hseg : m * d.sz + d.sz ≤ inner.length := by rw [hr.1, ← Nat.succ_mul]; exact Nat.mul_le_mul_right _ hml
    refine ⟨_, hM, d.K_len (d.K_of_M hM), d.K_one (d.K_of_M hM), fun q hq => ?_⟩
    rw [List.getElem?_take, if_pos hq, List.getElem?_drop]
    have hlt : m * d.sz + q < inner.length := by omega
    have := ho.cells (g := g) (by simp [Value.ownBlock]) _ _ (List.getElem?_eq_getElem hlt)
    rw [add_plain] at this
    rw [this, List.getElem?_eq_getElem hlt]
  obtain ⟨hn, hnc, hC⟩ := Kd.R_reads' h
  obtain ⟨hok, inner, ho, hr⟩ := h
  obtain ⟨ho1, ho2⟩ := ho
  rcases ho2 with ⟨hv, _⟩ | ⟨g', cap', cur, hv, hb, hh, hnc', hcm, hcs, ht⟩
  · cases hv
  injection hv with ha _ hc
  injection ha with ha
  injection ha with hg
  subst hg; subst hc
  have hin : inner.length = n * d.sz := by rw [hr.1, hn]
  have hnn : n * d.sz ≤ cap * d.sz := Nat.mul_le_mul_right _ hnc
  have e1 : n * d.sz = (i + 1) * d.sz + (n - (i + 1)) * d.sz := by rw [← Nat.add_mul]; congr 1; omega
  have e2 : (i + 1) * d.sz = i * d.sz + d.sz := Nat.succ_mul _ _
  have hcur : ∀ q, q < n * d.sz → cur.toList[q]? = inner[q]? := by
    intro q hq
    rw [← ht, List.getElem?_take, if_pos (by rw [← hn]; exact hq)]
  refine ⟨cur, (inner.drop (i * d.sz)).take ((n - (i + 1)) * d.sz), hh, by rw [List.length_take, List.length_drop]; omega, ?_, by rw [List.length_take, List.length_drop]; omega, ?_, ?_⟩
  · intro j v hj
    rw [List.getElem?_take] at hj
    split at hj
    · rw [List.getElem?_drop] at hj
      rw [cell_of_row W g _ cur e (0, 0) hh, ← Array.getElem?_toList, hcur _ (by omega)]
      exact hj
    · cases hj
  · intro v hv
    obtain ⟨q, hq, rfl⟩ := List.mem_iff_getElem.1 (List.mem_of_mem_drop (List.mem_of_mem_take hv))
    have hd : 0 < d.sz := by
      rcases Nat.eq_zero_or_pos d.sz with h0 | h0
      · rw [h0] at hin; omega
      · exact h0
    have hm : q / d.sz < xs.length := by rw [Nat.div_lt_iff_lt_mul hd, ← hn, ← hin]; exact hq
    have hM := hr.2 (q / d.sz) _ (List.getElem?_eq_getElem hm)
    refine d.K_one (d.K_of_M hM) _ (List.mem_iff_getElem?.2 ⟨q % d.sz, ?_⟩)
    rw [List.getElem?_take, if_pos (Nat.mod_lt _ hd), List.getElem?_drop, show q / d.sz * d.sz + q % d.sz = q from Nat.div_add_mod' q d.sz, List.getElem?_eq_getElem hq]
  · have hcl : ((inner.drop (i * d.sz)).take ((n - (i + 1)) * d.sz)).length = (n - (i + 1)) * d.sz := by rw [List.length_take, List.length_drop]; omega
    have hyl : (xs.take (i + 1) ++ (xs.drop i).take (n - (i + 1))).length = n := by rw [List.length_append, List.length_take, List.length_take, List.length_drop]; omega
    have hget : ∀ q, (cur.toList.take ((i + 1) * d.sz) ++ (inner.drop (i * d.sz)).take ((n - (i + 1)) * d.sz) ++ cur.toList.drop ((i + 1) * d.sz + ((inner.drop (i * d.sz)).take ((n - (i + 1)) * d.sz)).length))[q]? = if q < (i + 1) * d.sz then cur.toList[q]? else if q < n * d.sz then inner[q - d.sz]? else cur.toList[q]? := by
      intro q
      rw [seg_get cur.toList _ _ (by rw [hcl, Array.length_toList]; omega) q, hcl]
      split
      · rfl
      · split
        · rw [if_pos (by omega), List.getElem?_take, if_pos (by omega), List.getElem?_drop]
          congr 1; omega
        · rw [if_neg (by omega)]
    have hh2 := setRow_heap W g cur (cur.toList.take ((i + 1) * d.sz) ++ (inner.drop (i * d.sz)).take ((n - (i + 1)) * d.sz) ++ cur.toList.drop ((i + 1) * d.sz + ((inner.drop (i * d.sz)).take ((n - (i + 1)) * d.sz)).length)).toArray e (0, 0) hh
    refine ⟨hok, inner.take ((i + 1) * d.sz) ++ (inner.drop (i * d.sz)).take ((n - (i + 1)) * d.sz), ⟨?_, .inr ⟨g, cap, _, by rw [hyl], hb, hh2, by rw [hyl]; exact hnc, hcm, ?_, ?_⟩⟩, ?_, fun m p hm => ?_⟩
    · rw [hyl, List.length_append, List.length_take, hcl]; omega
    · rw [List.size_toArray, List.length_append, List.length_append, List.length_take, List.length_drop, hcl, Array.length_toList]; omega
    · rw [hyl]
      apply List.ext_getElem?
      intro q
      rw [List.getElem?_take, List.toList_toArray, hget, List.getElem?_append, List.length_take, List.getElem?_take, List.getElem?_take, List.getElem?_drop]
      by_cases h1 : q < (i + 1) * d.sz
      · rw [if_pos (show q < n * d.sz by omega), if_pos h1, if_pos (show q < min ((i + 1) * d.sz) inner.length by omega), if_pos h1, hcur q (by omega)]
      · by_cases h2 : q < n * d.sz
        · rw [if_pos h2, if_neg h1, if_pos h2, if_neg (show ¬ q < min ((i + 1) * d.sz) inner.length by omega), Nat.min_eq_left (by omega), if_pos (show q - (i + 1) * d.sz < (n - (i + 1)) * d.sz by omega)]
          congr 1; omega
        · rw [if_neg h2, if_neg (show ¬ q < min ((i + 1) * d.sz) inner.length by omega), Nat.min_eq_left (by omega), if_neg (show ¬ q - (i + 1) * d.sz < (n - (i + 1)) * d.sz by omega)]
    · rw [hyl, List.length_append, List.length_take, hcl]; omega
    · have hmn : m < n := by rw [← hyl]; exact (List.getElem?_eq_some_iff.1 hm).1
      have hmv : ∀ (p : α) (c : List Value), d.M W base (fun k => ok k ∧ some k ≠ (Value.slice (some ⟨g, 0, none⟩) n cap).ownBlock) p c → d.M (W.setRow g (cur.toList.take ((i + 1) * d.sz) ++ (inner.drop (i * d.sz)).take ((n - (i + 1)) * d.sz) ++ cur.toList.drop ((i + 1) * d.sz + ((inner.drop (i * d.sz)).take ((n - (i + 1)) * d.sz)).length)).toArray) base (fun k => ok k ∧ some k ≠ (Value.slice (some ⟨g, 0, none⟩) n cap).ownBlock) p c := fun p c hM =>
        d.M_move (fun k hk => setRow_other W g k _ (fun he => hk.2 (by rw [he]; simp [Value.ownBlock]))) hM
      by_cases hmi : m < i + 1
      · rw [List.getElem?_append_left (by rw [List.length_take]; omega), List.getElem?_take, if_pos hmi] at hm
        have hM := hmv p _ (hr.2 m p hm)
        have hms : m * d.sz + d.sz ≤ (i + 1) * d.sz := by rw [← Nat.succ_mul]; exact Nat.mul_le_mul_right _ hmi
        have : ((inner.take ((i + 1) * d.sz) ++ (inner.drop (i * d.sz)).take ((n - (i + 1)) * d.sz)).drop (m * d.sz)).take d.sz = (inner.drop (m * d.sz)).take d.sz := by
          apply List.ext_getElem?
          intro q
          rw [List.getElem?_take, List.getElem?_take, List.getElem?_drop, List.getElem?_drop]
          split
          · rw [List.getElem?_append_left (by rw [List.length_take]; omega), List.getElem?_take, if_pos (by omega)]
          · rfl
        rw [this]; exact hM
      · rw [List.getElem?_append_right (by rw [List.length_take]; omega), List.length_take, Nat.min_eq_left (by omega), List.getElem?_take, if_pos (by omega), List.getElem?_drop] at hm
        have hM := hmv p _ (hr.2 _ p hm)
        have hms : (i + 1) * d.sz ≤ m * d.sz := Nat.mul_le_mul_right _ (by omega)
        have hms2 : m * d.sz + d.sz ≤ n * d.sz := by rw [← Nat.succ_mul]; exact Nat.mul_le_mul_right _ hmn
        have e3 : (i + (m - (i + 1))) * d.sz + d.sz = m * d.sz := by rw [← Nat.succ_mul]; congr 1; omega
        have : ((inner.take ((i + 1) * d.sz) ++ (inner.drop (i * d.sz)).take ((n - (i + 1)) * d.sz)).drop (m * d.sz)).take d.sz = (inner.drop ((i + (m - (i + 1))) * d.sz)).take d.sz := by
          apply List.ext_getElem?
          intro q
          rw [List.getElem?_take, List.getElem?_take, List.getElem?_drop, List.getElem?_drop]
          split
          · rw [List.getElem?_append_right (by rw [List.length_take]; omega), List.length_take, Nat.min_eq_left (by omega), List.getElem?_take, if_pos (by omega), List.getElem?_drop]
            congr 1; omega
          · rfl
        rw [this]; exact hM
end Kd
/-- What the closures of Put do. -/
def stepE (id : Int) (_ : Unit) (x : S31) : Bool × Unit := (decide (x.f0 = id), ())
def stepG (id : Int) (_ : Unit) (x : S31) : Bool × Unit := (decide (x.f0 > id), ())
def putP (l : List S31) (r : S31) : List S31 :=
  if whr (stepE r.f0) () l < l.length then l.set (whr (stepE r.f0) () l) r else l.take (whr (stepG r.f0) () l) ++ r :: l.drop (whr (stepG r.f0) () l)
set_option maxHeartbeats 2000000 in
set_option maxRecDepth 100000 in
theorem Put1.calls (w0 W : World) (id b1 b2 b3 b4 : Int) (b5 : Bool) (b6 : Value) (g : Nat) (x : S31) (A : Option Addr) (c : Nat) (hB : Below w0.heap.size w0 W)
    (hs : W.heap[g]? = some (.cells #[.int .i64 id, .int .i64 b1, .int .i64 b2, .int .i64 b3, .int .i64 b4, .bool b5, b6] 31 (0, 0))) :
    Calls Try.prog 148 #[.agg #[.int .i64 x.f0, .int .i64 x.f1, .int .i64 x.f2, .int .i64 x.f3.f0, .int .i64 x.f3.f1, .bool x.f4, .slice A x.f5.length c], .pointer (some ⟨g, 0, none⟩)] W fun e W' =>
      e = .returned (.bool (stepE id () x).1) ∧ W'.heap[g]? = some (.cells #[.int .i64 id, .int .i64 b1, .int .i64 b2, .int .i64 b3, .int .i64 b4, .bool b5, b6] 31 (0, 0)) ∧ Below w0.heap.size w0 W' ∧ KeepBut W W' g none := by
  have HB := Aside0.mk hB
  have HS := Aside0.mk hs
  clear hB hs
  have hu31 := Try.underlying31
  have c0 : W.cell? ⟨g, 0, none⟩ = some (.int .i64 id) := (blk_cell HS.out 0).trans rfl
  have hlt := blk_lt HS.out
  go_enter Try.func148, Try.ntmps148
  go_wp2
  go_ret
  refine ⟨?_, blk_alloc HS.out _, below_alloc_of HB.out _, KeepBut.of_below (below_alloc (Below.refl _ _) _) g none⟩
  by_cases h : x.f0 = id
  · simp [stepE, h]
  · simp [stepE, h]; try omega
set_option maxHeartbeats 2000000 in
set_option maxRecDepth 100000 in
theorem Put2.calls (w0 W : World) (id b1 b2 b3 b4 : Int) (b5 : Bool) (b6 : Value) (g : Nat) (x : S31) (A : Option Addr) (c : Nat) (hB : Below w0.heap.size w0 W)
    (hs : W.heap[g]? = some (.cells #[.int .i64 id, .int .i64 b1, .int .i64 b2, .int .i64 b3, .int .i64 b4, .bool b5, b6] 31 (0, 0))) :
    Calls Try.prog 149 #[.agg #[.int .i64 x.f0, .int .i64 x.f1, .int .i64 x.f2, .int .i64 x.f3.f0, .int .i64 x.f3.f1, .bool x.f4, .slice A x.f5.length c], .pointer (some ⟨g, 0, none⟩)] W fun e W' =>
      e = .returned (.bool (stepG id () x).1) ∧ W'.heap[g]? = some (.cells #[.int .i64 id, .int .i64 b1, .int .i64 b2, .int .i64 b3, .int .i64 b4, .bool b5, b6] 31 (0, 0)) ∧ Below w0.heap.size w0 W' ∧ KeepBut W W' g none := by
  have HB := Aside0.mk hB
  have HS := Aside0.mk hs
  clear hB hs
  have hu31 := Try.underlying31
  have c0 : W.cell? ⟨g, 0, none⟩ = some (.int .i64 id) := (blk_cell HS.out 0).trans rfl
  have hlt := blk_lt HS.out
  go_enter Try.func149, Try.ntmps149
  go_wp2
  go_ret
  refine ⟨?_, blk_alloc HS.out _, below_alloc_of HB.out _, KeepBut.of_below (below_alloc (Below.refl _ _) _) g none⟩
  by_cases h : x.f0 > id
  · simp [stepG, h]
  · simp [stepG, h]; try omega
def rec_Put.f (l0 : List S31) (a0 a1 a2 a3 a4 : Int) (a5 : Bool) (l6 : List S332) : Option (List S31) :=
  if smallR l0 = true ∧ smallB l6 = true ∧ l0.length + 1 < 1954687338268 then some (putP l0 ⟨a0, a1, a2, ⟨a3, a4⟩, a5, l6⟩) else none
theorem put_list (l : List S31) (z r : S31) (j : Nat) (hj : j ≤ l.length) : ((l ++ [z]).take (j + 1) ++ ((l ++ [z]).drop j).take (l.length + 1 - (j + 1))).set j r = l.take j ++ r :: l.drop j := by
  apply List.ext_getElem?
  intro q
  have h1 : ((l ++ [z]).take (j + 1)).length = j + 1 := by rw [List.length_take, List.length_append, List.length_singleton]; omega
  have h2 : (l.take j).length = j := List.length_take_of_le hj
  rcases Nat.lt_trichotomy q j with h | h | h
  · rw [List.getElem?_set_ne (by omega), List.getElem?_append_left (by omega), List.getElem?_append_left (by omega), List.getElem?_take_of_lt (by omega), List.getElem?_take_of_lt (by omega), List.getElem?_append_left (by omega)]
  · subst h
    rw [List.getElem?_set_self (by rw [List.length_append]; omega), List.getElem?_append_right (by omega), h2, Nat.sub_self]; rfl
  · obtain ⟨d, rfl⟩ : ∃ d, q = j + 1 + d := ⟨q - (j + 1), by omega⟩
    rw [List.getElem?_set_ne (by omega), List.getElem?_append_right (by omega), List.getElem?_append_right (by omega), h1, h2, show j + 1 + d - (j + 1) = d by omega, show j + 1 + d - j = d + 1 by omega, List.getElem?_cons_succ, List.getElem?_take, List.getElem?_drop, List.getElem?_drop]
    by_cases hd : j + d < l.length
    · rw [if_pos (by omega), List.getElem?_append_left hd]
    · rw [if_neg (by omega), List.getElem?_eq_none (by omega)]
theorem put_copy (w w5 : World) (l0 : List S31) (g5 c j : Nat) (bb : Array Value) (hj : j ≤ l0.length) (HO : Kd.R k31 31 w5 (w.heap.size + 1) (fun _ => True) (.slice (some ⟨g5, 0, none⟩) (l0.length + 1) c) (l0 ++ [z31])) (hg : w.heap.size + 1 ≤ g5) (hB : Below w.heap.size w w5) (hr : w5.heap[w.heap.size]? = some (.cells bb 31 (0, 0))) (Dd : Option Addr) (hD : j + 1 < l0.length + 1 → Dd = some ⟨g5, (j + 1) * 7, none⟩) :
    ∃ (m : Int) (W6 : World), (Builtin.copy_ #[22, 22] 3 #[.slice Dd (l0.length + 1 - (j + 1)) (c - (j + 1)), .slice (some ⟨g5, j * 7, none⟩) (l0.length + 1 - j) (c - j)]).run Try.prog w5 = .ok (goInt m) W6 ∧ Kd.R k31 31 W6 (w.heap.size + 1) (fun _ => True) (.slice (some ⟨g5, 0, none⟩) (l0.length + 1) c) ((l0 ++ [z31]).take (j + 1) ++ ((l0 ++ [z31]).drop j).take (l0.length + 1 - (j + 1))) ∧ Below w.heap.size w W6 ∧ W6.heap[w.heap.size]? = some (.cells bb 31 (0, 0)) ∧ w5.heap.size = W6.heap.size := by
  by_cases h : j = l0.length
  · subst h
    refine ⟨0, w5, run_copy_zero w5 22 22 3 31 _ _ _ _ _ _ 7 Try.underlying22 sz31 ?_, ?_, hB, hr, rfl⟩
    · rw [Nat.sub_self]; exact Nat.min_zero _
    · rw [Nat.sub_self, List.take_zero, List.append_nil, List.take_of_length_le (by simp)]
      exact HO
  · obtain rfl := hD (by omega)
    obtain ⟨cur, cs, hcur, hcsl, hcsc, hcsf, hcs1, hR⟩ := Kd.R_shift j HO (by omega)
    refine ⟨_, _, run_copy_any w5 22 22 3 31 g5 ((j + 1) * 7) (l0.length + 1 - (j + 1)) (c - (j + 1)) ⟨g5, j * 7, none⟩ (l0.length + 1 - j) (c - j) 7 cur 31 cs Try.underlying22 sz31 hcur ?_ ?_ hcsf hcs1, hR, ?_, ?_, ?_⟩
    · rw [hcsl]; congr 1; exact (Nat.min_eq_right (by omega)).symm
    · intro q v hq
      have := hcsc q v hq
      by_cases h0 : q = 0
      · subst h0; rw [Addr.add_zero']; exact this
      · have e : (⟨g5, j * 7, none⟩ : Addr).add q = ⟨g5, j * 7 + q, none⟩ := by unfold Addr.add; simp [h0]
        rw [e]; exact this
    · exact hB.trans ⟨rfl, rfl, rfl, by simp [World.setRow], fun k hk => setRow_other w5 g5 k _ (by omega)⟩
    · exact (setRow_other w5 g5 w.heap.size _ (by omega)).trans hr
    · simp [World.setRow]
theorem cut_put (g5 n c j : Nat) (hj : j < n) (hc : n ≤ c) : (∀ W : World, (Instr.slice 22 (.slice (some ⟨g5, 0, none⟩) n c) (some (.int .i64 (j : Int))) none none).run Try.prog W = .ok (.slice (some ⟨g5, j * 7, none⟩) (n - j) (c - j)) W) ∧
    ∃ Dd, (j + 1 < n → Dd = some ⟨g5, (j + 1) * 7, none⟩) ∧ ∀ W : World, (Instr.slice 22 (.slice (some ⟨g5, 0, none⟩) n c) (some (.int .i64 ((j : Int) + 1))) none none).run Try.prog W = .ok (.slice Dd (n - (j + 1)) (c - (j + 1))) W := by
  obtain ⟨i0, hi0, _, hsz, _⟩ := info_parts info31
  have e1 : ((j : Int) + 1).toNat = j + 1 := by omega
  have c1 := cut_from (P := Try.prog) 22 31 .i64 Try.underlying22 hi0 7 hsz (some ⟨g5, 0, none⟩) n c (j : Int) (Int.natCast_nonneg _) (by omega)
  have c2 := cut_from (P := Try.prog) 22 31 .i64 Try.underlying22 hi0 7 hsz (some ⟨g5, 0, none⟩) n c ((j : Int) + 1) (by omega) (by omega)
  rw [Int.toNat_natCast, if_neg (by omega), Option.map_some, add_plain] at c1
  rw [e1] at c2
  exact ⟨c1, _, fun h => by rw [if_neg (by omega), Option.map_some, add_plain], c2⟩
theorem k31_sz : k31.sz = 7 := rfl
set_option maxHeartbeats 4000000 in
set_option maxRecDepth 100000 in
theorem rec_Put.calls (A0 : Option Addr) (c0 : Nat) (l0 : List S31) (a0 a1 a2 a3 a4 : Int) (a5 : Bool) (A6 : Option Addr) (c6 : Nat) (l6 : List S332) (r : List S31) (w : World) (hr0 : Kd.C k31 w A0 l0.length l0) (hc0 : l0.length ≤ c0) (hr6 : Kd.C k332 w A6 l6.length l6) (hc6 : l6.length ≤ c6)
    (h : rec_Put.f l0 a0 a1 a2 a3 a4 a5 l6 = some r) :
    Calls Try.prog 44 #[.slice A0 l0.length c0, .agg #[.int .i64 a0, .int .i64 a1, .int .i64 a2, .int .i64 a3, .int .i64 a4, .bool a5, .slice A6 l6.length c6]] w fun e w' => ∃ v0_ : Value, e = .returned v0_ ∧ Kd.R k31 31 w' w.heap.size (fun _ => True) v0_ r ∧ Below w.heap.size w w' := by
  unfold rec_Put.f at h
  by_cases hc : smallR l0 = true ∧ smallB l6 = true ∧ l0.length + 1 < 1954687338268
  rotate_left
  · rw [if_neg hc] at h; cases h
  rw [if_pos hc] at h
  obtain rfl := Option.some.inj h
  clear h
  have hlen := hr0.2.1
  have hn := hc.2.2
  have HR := Aside0.mk hr0
  have HR6 := Aside0.mk hr6
  have HCP := Aside0.mk (rec_Copy_f l0 hc.1 _ (Nat.le_refl _))
  have HCL := Aside0.mk (rec_clone_f ⟨a0, a1, a2, ⟨a3, a4⟩, a5, l6⟩ hc.2.1 (l6.length + 1) (Nat.le_refl _))
  clear hr0 hr6 hc
  have hu31 := Try.underlying31
  have hmf : ∀ (fn : Fn) (first cap : Array Value) (w : World), (Instr.makeFunc fn first cap).run Try.prog w = .ok (.func fn first cap) w := fun _ _ _ _ => rfl
  obtain ⟨i, hi⟩ : ∃ i, i = whr (stepE a0) () l0 := ⟨_, rfl⟩
  have HI := Aside0.mk hi
  unfold putP
  rw [← hi]
  clear hi
  by_cases hlt : i < l0.length
  · rw [if_pos hlt]
    have hpos : 0 < l0.length := by omega
    have ht : decide ((i : Int) < (l0.length : Int)) = true := by simp; omega
    go_enter Try.func44, Try.ntmps44
    go_wp2_with (first | (go_at_call 43; ((with_reducible refine (rec_Copy.calls (l0.length + bigR l0 + 1) A0 c0 l0 l0 _ ?h1 hc0 HCP.out).mono ?_); (case h1 => exact Kd.C_alloc HR.out _); rintro e w2 ⟨v5, rfl, ho, hb⟩; obtain ⟨g5, c5, rfl, hg5, hl5, -⟩ := Kd.R_form ho hpos; (simp only [World.size_alloc] at ho hg5); (have HG := Aside0.mk (And.intro hg5 hl5)); (have HO := Aside0.mk ho); (have HB2 := Aside0.mk (below_then (below_alloc (Below.refl _ _) _) (below_alloc (Below.refl _ _) _).size hb)); (have BR := Aside0.mk (blk_below (blk_new w (.cells #[.int .i64 a0, .int .i64 a1, .int .i64 a2, .int .i64 a3, .int .i64 a4, .bool a5, .slice A6 l6.length c6] 31)) hb)); (have hsz := hb.size); (simp only [World.size_alloc] at hsz); (have HSZ := Aside0.mk hsz); clear ho hb hsz hg5 hl5)) | (go_at_call 135; ((with_reducible refine (where31.calls 148 (fun _ : Unit => #[.int .i64 a0, .int .i64 a1, .int .i64 a2, .int .i64 a3, .int .i64 a4, .bool a5, .slice A6 l6.length c6]) 31 (stepE a0) w.heap.size w (Nat.le_refl _) l0 (enters_ Try.func148 (by kernel_rfl) rfl) ?hC A0 c0 HR.out hc0 hlen () _ ?hB ?hS).mono ?_); (case hC => intro s x A c W _ h1 h2 h3 h4; exact Put1.calls w W a0 a1 a2 a3 a4 a5 _ w.heap.size x A c h3 h4); (case hB => exact HB2.out); (case hS => exact BR.out); rintro e w3 ⟨rfl, ⟨-, hs⟩, hb, hk⟩; rw [← HI.out]; (have HB3 := Aside0.mk hb); (have HO3 := Aside0.mk (Kd.R_lower (Kd.R_mono (Kd.R_keep (Kd.R_bound HO.out) hk (fun k hk => by have := hk.2.1; omega)) (ok' := fun _ => True) (fun _ _ => trivial)) (Nat.le_succ _))); (have HG5 := Aside0.mk (Nat.lt_of_lt_of_le HG.out.2 hk.1)); (have BR3 := Aside0.mk hs); (have hs0 := (blk_lt hs)); (have y0 := (blk_cell hs 0).trans rfl); (have y1 := (blk_cell hs 1).trans rfl); (have y2 := (blk_cell hs 2).trans rfl); (have y3 := (blk_cell hs 3).trans rfl); (have y4 := (blk_cell hs 4).trans rfl); (have y5 := (blk_cell hs 5).trans rfl); (have y6 := (blk_cell hs 6).trans rfl); (have z0 := blk_frozen hs 0); (have z1 := blk_frozen hs 1); (have z2 := blk_frozen hs 2); (have z3 := blk_frozen hs 3); (have z4 := blk_frozen hs 4); (have z5 := blk_frozen hs 5); (have z6 := blk_frozen hs 6); clear hb hk hs)))
    (with_reducible refine (rec_clone.calls (l6.length + 1) a0 a1 a2 a3 a4 a5 A6 c6 l6 a0 a1 a2 a3 a4 a5 l6 _ ?h1 hc6 HCL.out).mono ?_); (case h1 => exact Kd.C_below HR6.out HB3.out); rintro e w4 ⟨v6, rfl, ho, hb⟩; obtain ⟨A7, c7, rfl⟩ := Kd.S_slice ho; (have HO6 := Aside0.mk ho); (have HB4 := Aside0.mk hb); clear ho hb
    go_wp2_with (first | ((with_reducible refine gate_ (.store 31 (.tmp 21) (.tmp 20)) rfl ?_); ((obtain ⟨c, hcl, -, hcc, -⟩ := Kd.R_elem (Kd.R_below HO3.out HB4.out) z31 (i : Int) (Int.natCast_nonneg _) (Int.ofNat_lt.2 hlt)); (refine Kd.R_store k31 (w0 := w) (g := g5) (n := l0.length) (cap := c5) (o' := i * 7) w.heap.size ?hN ?hgd 31 (.tmp 21) (.tmp 20) ?ho 31 (i : Int) 0 (l0) (⟨a0, a1, a2, ⟨a3, a4⟩, a5, l6⟩ : S31) (.agg #[.int .i64 a0, .int .i64 a1, .int .i64 a2, .int .i64 a3, .int .i64 a4, .bool a5, .slice A7 l6.length c7]) [.int .i64 a0, .int .i64 a1, .int .i64 a2, .int .i64 a3, .int .i64 a4, .bool a5, .slice A7 l6.length c7] c (fun _ => True) (fun k => k ≠ g5) ?adr ?off ?hx ?hu ?ht ?one (Kd.R_below HO3.out HB4.out) (Int.natCast_nonneg _) (Int.ofNat_lt.2 hlt) hcl hcc (Nat.le_refl 7) ?hM (fun k hk => ⟨trivial, hk⟩) ?hB ?_); (case hN => rfl); (case hgd => rfl); (case ho => rfl); (case hx => rfl); (case hu => rfl); (case ht => kernel_rfl); (case adr => rfl); (case off => simp [k31_sz]); (case one => simp [Value.oneCell']); (case hM => (have e1 : c.drop (0 + 7) = [] := List.drop_eq_nil_of_le (by rw [hcl]; exact Nat.le_refl 7)); (show k31.M _ _ _ _ (c.take 0 ++ [.int .i64 a0, .int .i64 a1, .int .i64 a2, .int .i64 a3, .int .i64 a4, .bool a5, .slice A7 l6.length c7] ++ c.drop (0 + 7))); (rw [e1, List.take_zero, List.nil_append, List.append_nil]); (exact k31_mkM _ _ _ ⟨a0, a1, a2, ⟨a3, a4⟩, a5, l6⟩ (Kd.R_lower (Kd.R_mono (Kd.R_bound (Kd.S_R HO6.out)) (fun k hk => by have := hk.2.1; have := HG5.out; omega)) HB3.out.size))); (case hB => exact (below_then HB3.out HB3.out.size HB4.out)); intro w6 ho hb hg; (have HO7 := Aside0.mk ho); (have HB7 := Aside0.mk hb); clear ho hb hg hcl hcc)))
    go_ret
    exact ⟨_, rfl, HO7.out, HB7.out⟩
  · rw [if_neg hlt]
    have hil := whr_le (stepE a0) () l0
    rw [← HI.out] at hil
    obtain ⟨j, hj⟩ : ∃ j, j = whr (stepG a0) () l0 := ⟨_, rfl⟩
    have hjl := whr_le (stepG a0) () l0
    rw [← hj] at hjl
    have HJ := Aside0.mk hj
    show Calls Try.prog 44 _ w fun e w' => ∃ v0_ : Value, e = .returned v0_ ∧ Kd.R k31 31 w' w.heap.size (fun _ => True) v0_ (l0.take (whr (stepG a0) () l0) ++ _ :: l0.drop (whr (stepG a0) () l0)) ∧ Below w.heap.size w w'
    rw [← hj]
    clear hj
    have ht : decide ((i : Int) < (l0.length : Int)) = false := by simp; omega
    go_enter Try.func44, Try.ntmps44
    go_wp2_with (first | ((with_reducible refine gate_builtin (b := .append) (xs := #[.tmp 26, .tmp 28]) rfl ?_); at_builtin; ((refine Kd.R_append k31 (w0 := w4) (w.heap.size + 1) rfl (.tmp 26) (.tmp 28) 22 31 (.agg #[.int .i64 0, .int .i64 0, .int .i64 0, .int .i64 0, .int .i64 0, .bool false, .slice none 0 0]) 72 rfl Try.underlying22 info31 rfl (show 0 < 7 from by decide) (by omega) (.slice A5 l0.length c5) l0 z31 [.int .i64 0, .int .i64 0, .int .i64 0, .int .i64 0, .int .i64 0, .bool false, .slice none 0 0] (fun _ => True) (fun k_ => True ∧ some k_ ≠ (Value.slice A5 l0.length c5).ownBlock) rfl rfl ?aP (fun _ hk => hk) (fun _ _ => trivial) HO4.out (Below.refl _ _) ?aS ?aL ?_); (case aP => exact k31_mkM _ _ _ z31 (Kd.R_nil _ _ _ _ _)); (case aS => exact blk_lt BR4.out); (case aL => omega); intro v1 w5 ho hb3 hg hat; obtain ⟨g5, c6', he5, hg5, hl5, -⟩ := Kd.R_form ho (by simp); (rw [show (l0 ++ [z31]).length = l0.length + 1 by simp] at he5); subst he5; (have HO5 := Aside0.mk ho); (have HG5 := Aside0.mk (And.intro hg5 hl5)); (have HB5 := Aside0.mk (pw_below_grown HB4.out _ HB4.out.size hg (fun k hk => Nat.le_of_succ_le (Kd.R_base HO4.out k hk)))); (have BR5 := Aside0.mk (blk_grown BR4.out hg (fun he => absurd (Kd.R_base HO4.out _ he.symm) (Nat.not_succ_le_self _)))); clear ho hb3 hg hat hg5 hl5)) | (go_at_call 43; ((with_reducible refine (rec_Copy.calls (l0.length + bigR l0 + 1) A0 c0 l0 l0 _ ?h1 hc0 HCP.out).mono ?_); (case h1 => exact Kd.C_alloc HR.out _); rintro e w2 ⟨v5, rfl, ho, hb⟩; (simp only [World.size_alloc] at ho); obtain ⟨A5, c5, rfl⟩ := Kd.R_slice ho; (have HO := Aside0.mk ho); (have HB2 := Aside0.mk (below_then (below_alloc (Below.refl _ _) _) (below_alloc (Below.refl _ _) _).size hb)); (have BR := Aside0.mk (blk_below (blk_new w (.cells #[.int .i64 a0, .int .i64 a1, .int .i64 a2, .int .i64 a3, .int .i64 a4, .bool a5, .slice A6 l6.length c6] 31)) hb)); (have hsz := hb.size); (simp only [World.size_alloc] at hsz); (have HSZ := Aside0.mk hsz); clear ho hb hsz)) | (go_at_call 135; ((with_reducible refine (where31.calls 148 (fun _ : Unit => #[.int .i64 a0, .int .i64 a1, .int .i64 a2, .int .i64 a3, .int .i64 a4, .bool a5, .slice A6 l6.length c6]) 31 (stepE a0) w.heap.size w (Nat.le_refl _) l0 (enters_ Try.func148 (by kernel_rfl) rfl) ?hC A0 c0 HR.out hc0 hlen () _ ?hB ?hS).mono ?_); (case hC => intro s x A c W _ h1 h2 h3 h4; exact Put1.calls w W a0 a1 a2 a3 a4 a5 _ w.heap.size x A c h3 h4); (case hB => exact HB2.out); (case hS => exact BR.out); rintro e w3 ⟨rfl, ⟨-, hs⟩, hb, hk⟩; rw [← HI.out]; (have HB3 := Aside0.mk hb); (have HO3 := Aside0.mk (Kd.R_mono (Kd.R_keep (Kd.R_bound HO.out) hk (fun k hk => by have := hk.2.1; omega)) (ok' := fun _ => True) (fun _ _ => trivial))); (have BR3 := Aside0.mk hs); clear hb hk hs)) | (go_at_call 135; ((with_reducible refine (where31.calls 149 (fun _ : Unit => #[.int .i64 a0, .int .i64 a1, .int .i64 a2, .int .i64 a3, .int .i64 a4, .bool a5, .slice A6 l6.length c6]) 31 (stepG a0) w.heap.size w (Nat.le_refl _) l0 (enters_ Try.func149 (by kernel_rfl) rfl) ?hC2 A0 c0 HR.out hc0 hlen () _ ?hB2 ?hS2).mono ?_); (case hC2 => intro s x A c W _ h1 h2 h3 h4; exact Put2.calls w W a0 a1 a2 a3 a4 a5 _ w.heap.size x A c h3 h4); (case hB2 => exact HB3.out); (case hS2 => exact BR3.out); rintro e w4 ⟨rfl, ⟨-, hs⟩, hb, hk⟩; rw [← HJ.out]; (have HB4 := Aside0.mk hb); (have HO4 := Aside0.mk (Kd.R_mono (Kd.R_keep (Kd.R_bound HO3.out) hk (fun k hk => by have := hk.2.1; omega)) (ok' := fun _ => True) (fun _ _ => trivial))); (have BR4 := Aside0.mk hs); clear hb hk hs)))
    obtain ⟨cS, Dd, hDd, cD⟩ := cut_put g5 (l0.length + 1) c6' j (by omega) (Kd.R_reads' HO5.out).2.1
    have hw : IntKind.i64.wrap ((j : Int) + 1) = (j : Int) + 1 := IntWalk.i64_in _ (by omega)
    obtain ⟨m, W6, hcp, hR6, hB6, hr6, hs6⟩ := put_copy w w5.drew l0 g5 c6' j _ hjl (Kd.R_drew (by simpa using HO5.out)) HG5.out.1 (below_drew HB5.out) (blk_drew BR5.out) Dd hDd
    have HO6r := Aside0.mk (Kd.R_lower hR6 (Nat.le_succ _))
    have HB6 := Aside0.mk hB6
    have BR6 := Aside0.mk hr6
    have HG6 := Aside0.mk (show g5 < W6.heap.size by rw [← hs6]; exact HG5.out.2)
    clear hR6 hB6 hr6 hs6 hDd
    refine wp_region_still_tail 7 (by kernel_rfl) (by kernel_rfl) ?_
    simp only [List.take_succ_cons, List.take_zero, List.drop_succ_cons, List.drop_zero]
    change wpStill _ _ w5.drew _ _ _
    repeat still_step
    refine wpStill_nil ?_
    change wpList _ _ _ _ _ w5.drew
    rw [show l0.length + 1 - (j + 1) = l0.length - j by omega] at hcp
    generalize w5.drew = wd at hcp ⊢
    have y0 := (blk_cell BR6.out 0).trans rfl
    have y1 := (blk_cell BR6.out 1).trans rfl
    have y2 := (blk_cell BR6.out 2).trans rfl
    have y3 := (blk_cell BR6.out 3).trans rfl
    have y4 := (blk_cell BR6.out 4).trans rfl
    have y5 := (blk_cell BR6.out 5).trans rfl
    have y6 := (blk_cell BR6.out 6).trans rfl
    go_wp2_with fail
    clear cS cD hw hcp HG5
    have HG5 := HG6
    (with_reducible refine (rec_clone.calls (l6.length + 1) a0 a1 a2 a3 a4 a5 A6 c6 l6 a0 a1 a2 a3 a4 a5 l6 _ ?h3 hc6 HCL.out).mono ?_); (case h3 => exact Kd.C_below HR6.out HB6.out); rintro e w7 ⟨v6, rfl, ho, hb⟩; obtain ⟨A7, c7, rfl⟩ := Kd.S_slice ho; (have HO6 := Aside0.mk ho); (have HB4 := Aside0.mk hb); clear ho hb
    go_wp2_with (first | ((with_reducible refine gate_ (.store 31 (.tmp 42) (.tmp 41)) rfl ?_); ((obtain ⟨c, hcl, -, hcc, -⟩ := Kd.R_elem (Kd.R_below HO6r.out HB4.out) z31 (j : Int) (Int.natCast_nonneg _) (Int.ofNat_lt.2 (Nat.lt_succ_of_le hjl))); (refine Kd.R_store k31 (w0 := w) (g := g5) (n := l0.length + 1) (cap := c6') (o' := j * 7) w.heap.size ?hN ?hgd 31 (.tmp 42) (.tmp 41) ?ho 31 (j : Int) 0 ((l0 ++ [z31]).take (j + 1) ++ ((l0 ++ [z31]).drop j).take (l0.length + 1 - (j + 1))) (⟨a0, a1, a2, ⟨a3, a4⟩, a5, l6⟩ : S31) (.agg #[.int .i64 a0, .int .i64 a1, .int .i64 a2, .int .i64 a3, .int .i64 a4, .bool a5, .slice A7 l6.length c7]) [.int .i64 a0, .int .i64 a1, .int .i64 a2, .int .i64 a3, .int .i64 a4, .bool a5, .slice A7 l6.length c7] c (fun _ => True) (fun k => k ≠ g5) ?adr ?off ?hx ?hu ?ht ?one (Kd.R_below HO6r.out HB4.out) (Int.natCast_nonneg _) (Int.ofNat_lt.2 (Nat.lt_succ_of_le hjl)) hcl hcc (Nat.le_refl 7) ?hM (fun k hk => ⟨trivial, hk⟩) ?hB ?_); (case hN => rfl); (case hgd => rfl); (case ho => rfl); (case hx => rfl); (case hu => rfl); (case ht => kernel_rfl); (case adr => rfl); (case off => simp [k31_sz]); (case one => simp [Value.oneCell']); (case hM => (have e1 : c.drop (0 + 7) = [] := List.drop_eq_nil_of_le (by rw [hcl]; exact Nat.le_refl 7)); (show k31.M _ _ _ _ (c.take 0 ++ [.int .i64 a0, .int .i64 a1, .int .i64 a2, .int .i64 a3, .int .i64 a4, .bool a5, .slice A7 l6.length c7] ++ c.drop (0 + 7))); (rw [e1, List.take_zero, List.nil_append, List.append_nil]); (exact k31_mkM _ _ _ ⟨a0, a1, a2, ⟨a3, a4⟩, a5, l6⟩ (Kd.R_lower (Kd.R_mono (Kd.R_bound (Kd.S_R HO6.out)) (fun k hk => by have := hk.2.1; have := HG5.out; omega)) HB6.out.size))); (case hB => exact (below_then HB6.out HB6.out.size HB4.out)); intro w6 ho hb hg; (have HO7 := Aside0.mk ho); (have HB7 := Aside0.mk hb); clear ho hb hg hcl hcc)))
    go_ret
    refine ⟨_, rfl, ?_, HB7.out⟩
    rw [← put_list l0 z31 ⟨a0, a1, a2, ⟨a3, a4⟩, a5, l6⟩ j hjl]
    exact HO7.out


end Go.Proofs.Ythajahdjkmfnnaa.DL
