-- Printed by a program of this session (wip/pp.py) over the kit's printer, with functions proved by hand among them.
import Derived.Test.YthajahdjkmfnnaaDBx0
import Derived.Test.YthajahdjkmfnnaaDBx2
import Derived.Test.YthajahdjkmfnnaaDBx5
import Derived.Test.YthajahdjkmfnnaaDBx7
import Derived.Test.YthajahdjkmfnnaaDBx8
import Derived.Test.YthajahdjkmfnnaaDBx9
namespace Go.Proofs.Ythajahdjkmfnnaa.DB
open Go.RowKit Go.Proofs.YthajahdjkmfnnaaW.PrintWords Go.Proofs.YthajahdjkmfnnaaW.PrintLast Go.Proofs.YthajahdjkmfnnaaW.PrintMore
attribute [local go_sem] max2_int min2_int max_two min_two max_three min_three max_four min_four   -- for this text's walks alone
set_option linter.unusedVariables false
set_option linter.unusedSimpArgs false

/-! ### polyglotlaw14_DeltaBack: function 4 -/
mutual
def polyglotlaw14_DeltaBack.j0 : Nat → List (S31) → List (S31) → Int → Bool → Option (Bool)
  | 0, _, _, _, _ => none
  | k + 1, x0, x1, x2, x31 => if x31 = true then ((polyglotlaw14_awake.f).bind fun t193 => (some t193)) else ((delta_Gone.f x0 x1).bind fun bt194 => (if bt194.2 = true then (if (bt194.1.length : Int) > 0 then ((polyglotlaw14_awake.f).bind fun t198 => (some t198)) else ((delta_Diff.f x0 x1).bind fun bt199 => ((delta_Over.f x0 bt199.1).bind fun bt203 => (if bt199.2 = true then (if bt203.2 = true then ((polyglotlaw08_AllAlike.f k bt203.1 x1).bind fun t207 => (polyglotlaw14_DeltaBack.j1 k x0 x1 x2 bt199.1 (!t207))) else (polyglotlaw14_DeltaBack.j1 k x0 x1 x2 bt199.1 true)) else (polyglotlaw14_DeltaBack.j1 k x0 x1 x2 bt199.1 true))))) else (some false)))
def polyglotlaw14_DeltaBack.j1 : Nat → List (S31) → List (S31) → Int → List (S31) → Bool → Option (Bool)
  | 0, _, _, _, _, _ => none
  | k + 1, x0, x1, x2, x9, x68 => if x68 = true then (some false) else (if x2 < 0 then (polyglotlaw14_DeltaBack.j2 k x0 x1 x2 x9 true) else (polyglotlaw14_DeltaBack.j2 k x0 x1 x2 x9 (decide (x2 ≥ (x9.length : Int)))))
def polyglotlaw14_DeltaBack.j2 : Nat → List (S31) → List (S31) → Int → List (S31) → Bool → Option (Bool)
  | 0, _, _, _, _, _ => none
  | k + 1, x0, x1, x2, x9, x76 => if x76 = true then ((polyglotlaw14_awake.f).bind fun t208 => (some t208)) else ((some (([] : List (S31)) : List (S31))).bind fun y209 => (if 0 ≤ x2 then (if x2 ≤ (x9.length : Int) then ((some (x9.take (x2 : Int).toNat : List (S31))).bind fun y212 => (if y209.length + y212.length < 1954687338268 then ((some (y209 ++ y212 : List (S31))).bind fun y217 => (if 0 ≤ (wrap64 (x2 + 1)) then (if (wrap64 (x2 + 1)) ≤ (x9.length : Int) then ((some (x9.drop ((wrap64 (x2 + 1)) : Int).toNat : List (S31))).bind fun y220 => (if y217.length + y220.length < 1954687338268 then ((delta_Over.f x0 (y217 ++ y220)).bind fun bt228 => (if bt228.2 = true then ((polyglotlaw08_AllAlike.f k bt228.1 x1).bind fun t232 => (if t232 = true then (some false) else ((polyglotlaw14_awake.f).bind fun t233 => (some t233)))) else (some false))) else (none))) else (none)) else (none))) else (none))) else (none)) else (none)))
end
def polyglotlaw14_DeltaBack.f (k : Nat) (l0 : List (S31)) (l1 : List (S31)) (a2 : Int) : Option (Bool) := (polyglotlaw08_Few.f k l0).bind fun t189 => (if t189 = true then ((polyglotlaw08_Few.f k l1).bind fun t190 => (if t190 = true then ((rec_Sorted.f l0).bind fun t191 => (if t191 = true then ((rec_Sorted.f l1).bind fun t192 => (polyglotlaw14_DeltaBack.j0 k l0 l1 a2 (!t192))) else (polyglotlaw14_DeltaBack.j0 k l0 l1 a2 true))) else (polyglotlaw14_DeltaBack.j0 k l0 l1 a2 true))) else (polyglotlaw14_DeltaBack.j0 k l0 l1 a2 true))
theorem polyglotlaw14_DeltaBack.mono_l : ∀ k, (∀ y0 y1 y2 y3, LeO (polyglotlaw14_DeltaBack.j0 k y0 y1 y2 y3) (polyglotlaw14_DeltaBack.j0 (k + 1) y0 y1 y2 y3)) ∧ (∀ y0 y1 y2 y3 y4, LeO (polyglotlaw14_DeltaBack.j1 k y0 y1 y2 y3 y4) (polyglotlaw14_DeltaBack.j1 (k + 1) y0 y1 y2 y3 y4)) ∧ (∀ y0 y1 y2 y3 y4, LeO (polyglotlaw14_DeltaBack.j2 k y0 y1 y2 y3 y4) (polyglotlaw14_DeltaBack.j2 (k + 1) y0 y1 y2 y3 y4))
  | 0 => ⟨fun _ _ _ _ r h => by simp [polyglotlaw14_DeltaBack.j0] at h, fun _ _ _ _ _ r h => by simp [polyglotlaw14_DeltaBack.j1] at h, fun _ _ _ _ _ r h => by simp [polyglotlaw14_DeltaBack.j2] at h⟩
  | k + 1 => by
    obtain ⟨ih0, ih1, ih2⟩ := polyglotlaw14_DeltaBack.mono_l k
    refine ⟨?_, ?_, ?_⟩
    · intro y0 y1 y2 y3
      unfold polyglotlaw14_DeltaBack.j0
      repeat' first
      | (with_reducible exact ih0 _ _ _ _)
      | (with_reducible exact ih1 _ _ _ _ _)
      | (with_reducible exact ih2 _ _ _ _ _)
      | (with_reducible exact polyglotlaw08_AllAlike.mono _ _ _)
      | (with_reducible exact polyglotlaw08_Few.mono _ _)
      | (with_reducible exact LeO.refl _)
      | (with_reducible exact LeO.none _)
      | (with_reducible refine LeO.ite ?_ ?_)
      | (with_reducible refine LeO.bind ?_ (fun _ => ?_))
      | exact ih0 _ _ _ _
      | exact ih1 _ _ _ _ _
      | exact ih2 _ _ _ _ _
      | exact polyglotlaw08_AllAlike.mono _ _ _
      | exact polyglotlaw08_Few.mono _ _
      | exact LeO.none _
      | refine LeO.ite ?_ ?_
      | refine LeO.bind ?_ (fun _ => ?_)
    · intro y0 y1 y2 y3 y4
      unfold polyglotlaw14_DeltaBack.j1
      repeat' first
      | (with_reducible exact ih0 _ _ _ _)
      | (with_reducible exact ih1 _ _ _ _ _)
      | (with_reducible exact ih2 _ _ _ _ _)
      | (with_reducible exact polyglotlaw08_AllAlike.mono _ _ _)
      | (with_reducible exact polyglotlaw08_Few.mono _ _)
      | (with_reducible exact LeO.refl _)
      | (with_reducible exact LeO.none _)
      | (with_reducible refine LeO.ite ?_ ?_)
      | (with_reducible refine LeO.bind ?_ (fun _ => ?_))
      | exact ih0 _ _ _ _
      | exact ih1 _ _ _ _ _
      | exact ih2 _ _ _ _ _
      | exact polyglotlaw08_AllAlike.mono _ _ _
      | exact polyglotlaw08_Few.mono _ _
      | exact LeO.none _
      | refine LeO.ite ?_ ?_
      | refine LeO.bind ?_ (fun _ => ?_)
    · intro y0 y1 y2 y3 y4
      unfold polyglotlaw14_DeltaBack.j2
      repeat' first
      | (with_reducible exact ih0 _ _ _ _)
      | (with_reducible exact ih1 _ _ _ _ _)
      | (with_reducible exact ih2 _ _ _ _ _)
      | (with_reducible exact polyglotlaw08_AllAlike.mono _ _ _)
      | (with_reducible exact polyglotlaw08_Few.mono _ _)
      | (with_reducible exact LeO.refl _)
      | (with_reducible exact LeO.none _)
      | (with_reducible refine LeO.ite ?_ ?_)
      | (with_reducible refine LeO.bind ?_ (fun _ => ?_))
      | exact ih0 _ _ _ _
      | exact ih1 _ _ _ _ _
      | exact ih2 _ _ _ _ _
      | exact polyglotlaw08_AllAlike.mono _ _ _
      | exact polyglotlaw08_Few.mono _ _
      | exact LeO.none _
      | refine LeO.ite ?_ ?_
      | refine LeO.bind ?_ (fun _ => ?_)
theorem polyglotlaw14_DeltaBack.mono : ∀ a0 a1 a2 k, LeO (polyglotlaw14_DeltaBack.f k a0 a1 a2) (polyglotlaw14_DeltaBack.f (k + 1) a0 a1 a2) := by
  intro a0 a1 a2 k
  obtain ⟨ih0, ih1, ih2⟩ := polyglotlaw14_DeltaBack.mono_l k
  unfold polyglotlaw14_DeltaBack.f
  repeat' first
      | (with_reducible exact ih0 _ _ _ _)
      | (with_reducible exact ih1 _ _ _ _ _)
      | (with_reducible exact ih2 _ _ _ _ _)
      | (with_reducible exact polyglotlaw08_AllAlike.mono _ _ _)
      | (with_reducible exact polyglotlaw08_Few.mono _ _)
      | (with_reducible exact LeO.refl _)
      | (with_reducible exact LeO.none _)
      | (with_reducible refine LeO.ite ?_ ?_)
      | (with_reducible refine LeO.bind ?_ (fun _ => ?_))
      | exact ih0 _ _ _ _
      | exact ih1 _ _ _ _ _
      | exact ih2 _ _ _ _ _
      | exact polyglotlaw08_AllAlike.mono _ _ _
      | exact polyglotlaw08_Few.mono _ _
      | exact LeO.none _
      | refine LeO.ite ?_ ?_
      | refine LeO.bind ?_ (fun _ => ?_)
def polyglotlaw14_DeltaBack.T14 : Bool × List (List Nat × List Nat) := (true, [([], []), ([], []), ([], []), ([1, 2], [1, 2]), ([0, 3], [0, 3]), ([], []), ([], []), ([6], [6]), ([5, 7], [5, 7]), ([4, 8, 4], [4, 8]), ([9, 9, 0, 1, 2, 3, 4, 5, 6, 7, 8, 9], [9])])
def polyglotlaw14_DeltaBack.B14 : List Nat := [0, 0, 0, 6, 15, 0, 0, 64, 224, 511, 1023]
theorem polyglotlaw14_DeltaBack.tab14 : rtab .any (opsOf Try.f4 14) = polyglotlaw14_DeltaBack.T14 := by kernel_rfl
theorem polyglotlaw14_DeltaBack.bits14 : waitsOk polyglotlaw14_DeltaBack.T14.2 polyglotlaw14_DeltaBack.B14 = true := by kernel_rfl
set_option maxHeartbeats 8000000 in
set_option maxRecDepth 100000 in
theorem polyglotlaw14_DeltaBack.calls (k : Nat) (A0 : Option Addr) (c0 : Nat) (l0 : List (S31)) (A1 : Option Addr) (c1 : Nat) (l1 : List (S31)) (a2 : Int) (r : Bool) (w : World) (hr0 : Kd.C k31 w A0 l0.length l0) (hc0 : l0.length ≤ c0) (hr1 : Kd.C k31 w A1 l1.length l1) (hc1 : l1.length ≤ c1) (h : polyglotlaw14_DeltaBack.f k l0 l1 a2 = some r) :
    Calls Try.prog 4 #[.slice A0 l0.length c0, .slice A1 l1.length c1, .int .i64 a2] w fun e w' => e = .returned (.bool r) ∧ Below w.heap.size w w' := by
  have HR0 := Aside0.mk hr0
  have HC0 := Aside0.mk hc0
  clear hr0 hc0
  have HR1 := Aside0.mk hr1
  have HC1 := Aside0.mk hc1
  clear hr1 hc1
  have HB := Aside0.mk (Below.refl w.heap.size w)
  have H : ((polyglotlaw08_Few.f k l0).bind fun t189 => (if t189 = true then ((polyglotlaw08_Few.f k l1).bind fun t190 => (if t190 = true then ((rec_Sorted.f l0).bind fun t191 => (if t191 = true then ((rec_Sorted.f l1).bind fun t192 => (polyglotlaw14_DeltaBack.j0 k l0 l1 a2 (!t192))) else (polyglotlaw14_DeltaBack.j0 k l0 l1 a2 true))) else (polyglotlaw14_DeltaBack.j0 k l0 l1 a2 true))) else (polyglotlaw14_DeltaBack.j0 k l0 l1 a2 true))) = some r := h
  clear h
  have HC4 := Aside0.mk H
  clear H
  go_enter Try.func4, Try.ntmps4
  go_upto_region 1 with (fail)
  go_cut [31] (fun v31 wc => ∃ (kq : Nat) (x31_3 : Bool), v31 = .bool x31_3 ∧ Aside0 (polyglotlaw14_DeltaBack.j0 kq l0 l1 a2 x31_3 = some r) ∧ Aside0 (kq ≤ k) ∧ Aside0 (Below w.heap.size w wc))
  case first =>
    have H := HC4.out
    clear HC4
    replace H := Option.bind_eq_some_iff.mp H
    obtain ⟨t189, A50, H⟩ := H
    replace H : (if t189 = true then ((polyglotlaw08_Few.f k l1).bind fun t190 => (if t190 = true then ((rec_Sorted.f l0).bind fun t191 => (if t191 = true then ((rec_Sorted.f l1).bind fun t192 => (polyglotlaw14_DeltaBack.j0 k l0 l1 a2 (!t192))) else (polyglotlaw14_DeltaBack.j0 k l0 l1 a2 true))) else (polyglotlaw14_DeltaBack.j0 k l0 l1 a2 true))) else (polyglotlaw14_DeltaBack.j0 k l0 l1 a2 true)) = some r := H
    have A5 := Aside0.mk A50
    clear A50
    by_cases c6 : t189 = true
    · subst c6
      have H1 : ((polyglotlaw08_Few.f k l1).bind fun t190 => (if t190 = true then ((rec_Sorted.f l0).bind fun t191 => (if t191 = true then ((rec_Sorted.f l1).bind fun t192 => (polyglotlaw14_DeltaBack.j0 k l0 l1 a2 (!t192))) else (polyglotlaw14_DeltaBack.j0 k l0 l1 a2 true))) else (polyglotlaw14_DeltaBack.j0 k l0 l1 a2 true))) = some r := by rw [if_pos rfl] at H; exact H
      clear H
      have H := H1
      clear H1
      replace H := Option.bind_eq_some_iff.mp H
      obtain ⟨t190, A70, H⟩ := H
      replace H : (if t190 = true then ((rec_Sorted.f l0).bind fun t191 => (if t191 = true then ((rec_Sorted.f l1).bind fun t192 => (polyglotlaw14_DeltaBack.j0 k l0 l1 a2 (!t192))) else (polyglotlaw14_DeltaBack.j0 k l0 l1 a2 true))) else (polyglotlaw14_DeltaBack.j0 k l0 l1 a2 true)) = some r := H
      have A7 := Aside0.mk A70
      clear A70
      by_cases c8 : t190 = true
      · subst c8
        have H1 : ((rec_Sorted.f l0).bind fun t191 => (if t191 = true then ((rec_Sorted.f l1).bind fun t192 => (polyglotlaw14_DeltaBack.j0 k l0 l1 a2 (!t192))) else (polyglotlaw14_DeltaBack.j0 k l0 l1 a2 true))) = some r := by rw [if_pos rfl] at H; exact H
        clear H
        have H := H1
        clear H1
        replace H := Option.bind_eq_some_iff.mp H
        obtain ⟨t191, A90, H⟩ := H
        replace H : (if t191 = true then ((rec_Sorted.f l1).bind fun t192 => (polyglotlaw14_DeltaBack.j0 k l0 l1 a2 (!t192))) else (polyglotlaw14_DeltaBack.j0 k l0 l1 a2 true)) = some r := H
        have A9 := Aside0.mk A90
        clear A90
        by_cases c10 : t191 = true
        · subst c10
          have H1 : ((rec_Sorted.f l1).bind fun t192 => (polyglotlaw14_DeltaBack.j0 k l0 l1 a2 (!t192))) = some r := by rw [if_pos rfl] at H; exact H
          clear H
          have H := H1
          clear H1
          replace H := Option.bind_eq_some_iff.mp H
          obtain ⟨t192, A110, H⟩ := H
          replace H : (polyglotlaw14_DeltaBack.j0 k l0 l1 a2 (!t192)) = some r := H
          have A11 := Aside0.mk A110
          clear A110
          have H' := Aside0.mk H
          clear H
          go_wp2_with (first | ((with_reducible refine gate_callee (f := 26) rfl ?_); refine goesL_ (some 15) rfl rfl Try.func26 (by kernel_rfl) rfl #[.slice A0 l0.length c0] rfl (by (try simp only [List.map_toArray, List.map_cons, List.map_nil]); rfl) ?_; (with_reducible refine (polyglotlaw08_Few.calls k _ _ l0 true _ ?side1 ?side2 A5.out).mono ?_); (case side1 => repeat (exact (Kd.C_below HR0.out HB.out))); (case side2 => exact HC0.out); rintro e w' ⟨rfl, ⟨nd, rfl⟩⟩; refine ⟨_, rfl, ?_⟩) | (go_at_call 26; (with_reducible refine (polyglotlaw08_Few.calls k _ _ l1 true _ ?side1 ?side2 A7.out).mono ?_); (case side1 => repeat (exact (Kd.C_below HR1.out (by repeat ((with_reducible first | exact HB.out | apply pw_below_drewN)))))); (case side2 => exact HC1.out); rintro e w' ⟨rfl, ⟨nd, rfl⟩⟩) | (go_at_call 30; (with_reducible refine (rec_Sorted.calls _ _ l0 true _ ?side1 ?side2 A9.out).mono ?_); (case side1 => repeat (exact (Kd.C_below HR0.out (by repeat ((with_reducible first | exact HB.out | apply pw_below_drewN)))))); (case side2 => exact HC0.out); rintro e w12 ⟨rfl, hb⟩; have n0_ := Aside0.mk (below_step (by repeat ((with_reducible first | exact HB.out | apply pw_below_drewN))) hb); clear HB; have HB := n0_; clear n0_; (try clear hb); (try clear hb2); (try clear hk); (try clear hi)) | (go_at_call 30; (with_reducible refine (rec_Sorted.calls _ _ l1 t192 _ ?side1 ?side2 A11.out).mono ?_); (case side1 => repeat (exact (Kd.C_below HR1.out HB.out))); (case side2 => exact HC1.out); rintro e w13 ⟨rfl, hb⟩; have n0_ := Aside0.mk (below_step (by repeat ((with_reducible exact HB.out))) hb); clear HB; have HB := n0_; clear n0_; (try clear hb); (try clear hb2); (try clear hk); (try clear hi)))
          go_meet
          case rel => exact ⟨_, (!t192), (by rfl), H', ⟨by omega⟩, ⟨by repeat ((with_reducible exact HB.out))⟩⟩
        · replace c10 := Bool.eq_false_iff.mpr c10
          subst c10
          have H1 : (polyglotlaw14_DeltaBack.j0 k l0 l1 a2 true) = some r := by rw [if_neg (show ¬ (false = true) by decide)] at H; exact H
          clear H
          have H := H1
          clear H1
          have H' := Aside0.mk H
          clear H
          go_wp2_with (first | ((with_reducible refine gate_callee (f := 26) rfl ?_); refine goesL_ (some 15) rfl rfl Try.func26 (by kernel_rfl) rfl #[.slice A0 l0.length c0] rfl (by (try simp only [List.map_toArray, List.map_cons, List.map_nil]); rfl) ?_; (with_reducible refine (polyglotlaw08_Few.calls k _ _ l0 true _ ?side1 ?side2 A5.out).mono ?_); (case side1 => repeat (exact (Kd.C_below HR0.out HB.out))); (case side2 => exact HC0.out); rintro e w' ⟨rfl, ⟨nd, rfl⟩⟩; refine ⟨_, rfl, ?_⟩) | (go_at_call 26; (with_reducible refine (polyglotlaw08_Few.calls k _ _ l1 true _ ?side1 ?side2 A7.out).mono ?_); (case side1 => repeat (exact (Kd.C_below HR1.out (by repeat ((with_reducible first | exact HB.out | apply pw_below_drewN)))))); (case side2 => exact HC1.out); rintro e w' ⟨rfl, ⟨nd, rfl⟩⟩) | (go_at_call 30; (with_reducible refine (rec_Sorted.calls _ _ l0 false _ ?side1 ?side2 A9.out).mono ?_); (case side1 => repeat (exact (Kd.C_below HR0.out (by repeat ((with_reducible first | exact HB.out | apply pw_below_drewN)))))); (case side2 => exact HC0.out); rintro e w14 ⟨rfl, hb⟩; have n0_ := Aside0.mk (below_step (by repeat ((with_reducible first | exact HB.out | apply pw_below_drewN))) hb); clear HB; have HB := n0_; clear n0_; (try clear hb); (try clear hb2); (try clear hk); (try clear hi)))
          go_meet
          case rel => exact ⟨_, (true), (by rfl), H', ⟨by omega⟩, ⟨by repeat ((with_reducible exact HB.out))⟩⟩
      · replace c8 := Bool.eq_false_iff.mpr c8
        subst c8
        have H1 : (polyglotlaw14_DeltaBack.j0 k l0 l1 a2 true) = some r := by rw [if_neg (show ¬ (false = true) by decide)] at H; exact H
        clear H
        have H := H1
        clear H1
        have H' := Aside0.mk H
        clear H
        go_wp2_with (first | ((with_reducible refine gate_callee (f := 26) rfl ?_); refine goesL_ (some 15) rfl rfl Try.func26 (by kernel_rfl) rfl #[.slice A0 l0.length c0] rfl (by (try simp only [List.map_toArray, List.map_cons, List.map_nil]); rfl) ?_; (with_reducible refine (polyglotlaw08_Few.calls k _ _ l0 true _ ?side1 ?side2 A5.out).mono ?_); (case side1 => repeat (exact (Kd.C_below HR0.out HB.out))); (case side2 => exact HC0.out); rintro e w' ⟨rfl, ⟨nd, rfl⟩⟩; refine ⟨_, rfl, ?_⟩) | (go_at_call 26; (with_reducible refine (polyglotlaw08_Few.calls k _ _ l1 false _ ?side1 ?side2 A7.out).mono ?_); (case side1 => repeat (exact (Kd.C_below HR1.out (by repeat ((with_reducible first | exact HB.out | apply pw_below_drewN)))))); (case side2 => exact HC1.out); rintro e w' ⟨rfl, ⟨nd, rfl⟩⟩))
        go_meet
        case rel => exact ⟨_, (true), (by rfl), H', ⟨by omega⟩, ⟨by repeat ((with_reducible first | exact HB.out | apply pw_below_drewN))⟩⟩
    · replace c6 := Bool.eq_false_iff.mpr c6
      subst c6
      have H1 : (polyglotlaw14_DeltaBack.j0 k l0 l1 a2 true) = some r := by rw [if_neg (show ¬ (false = true) by decide)] at H; exact H
      clear H
      have H := H1
      clear H1
      have H' := Aside0.mk H
      clear H
      go_wp2_with (((with_reducible refine gate_callee (f := 26) rfl ?_); refine goesL_ (some 15) rfl rfl Try.func26 (by kernel_rfl) rfl #[.slice A0 l0.length c0] rfl (by (try simp only [List.map_toArray, List.map_cons, List.map_nil]); rfl) ?_; (with_reducible refine (polyglotlaw08_Few.calls k _ _ l0 false _ ?side1 ?side2 A5.out).mono ?_); (case side1 => repeat (exact (Kd.C_below HR0.out HB.out))); (case side2 => exact HC0.out); rintro e w' ⟨rfl, ⟨nd, rfl⟩⟩; refine ⟨_, rfl, ?_⟩))
      go_meet
      case rel => exact ⟨_, (true), (by rfl), H', ⟨by omega⟩, ⟨by repeat ((with_reducible first | exact HB.out | apply pw_below_drewN))⟩⟩
  case rest =>
    clear HC4
    try clear c1
    try clear c2
    try clear p2
    try clear c4
    try clear c6
    try clear c8
    try clear c10
    obtain ⟨kq, x31_3, rfl, HA, HJ3, HB⟩ := hcut
    cases kq with
    | zero => exact absurd HA.out (by simp [polyglotlaw14_DeltaBack.j0])
    | succ kj3 =>
      have H := HA.out
      clear HA
      simp only [polyglotlaw14_DeltaBack.j0] at H
      by_cases c15 : x31_3 = true
      · subst c15
        have H1 : ((polyglotlaw14_awake.f).bind fun t193 => (some t193)) = some r := by rw [if_pos rfl] at H; exact H
        clear H
        have H := H1
        clear H1
        replace H := Option.bind_eq_some_iff.mp H
        obtain ⟨t193, A160, H⟩ := H
        replace H : (some t193) = some r := H
        have A16 := Aside0.mk A160
        clear A160
        obtain rfl := Option.some.inj H
        go_wp2_with (((with_reducible refine gate_callee (f := 32) rfl ?_); refine goesL_ (some 32) rfl rfl Try.func32 (by kernel_rfl) rfl #[] rfl (by (try simp only [List.map_toArray, List.map_cons, List.map_nil]); done) ?_; (with_reducible refine (polyglotlaw14_awake.calls  t193 _ A16.out).mono ?_); rintro e w17 ⟨rfl, hb⟩; refine ⟨_, rfl, ?_⟩; have n0_ := Aside0.mk (below_step (by repeat ((with_reducible exact HB.out))) hb); clear HB; have HB := n0_; clear n0_; (try clear hb); (try clear hb2); (try clear hk); (try clear hi)))
        go_ret
        exact ⟨by rfl, by repeat ((with_reducible exact HB.out))⟩
      · replace c15 := Bool.eq_false_iff.mpr c15
        subst c15
        have H1 : ((delta_Gone.f l0 l1).bind fun bt194 => (if bt194.2 = true then (if (bt194.1.length : Int) > 0 then ((polyglotlaw14_awake.f).bind fun t198 => (some t198)) else ((delta_Diff.f l0 l1).bind fun bt199 => ((delta_Over.f l0 bt199.1).bind fun bt203 => (if bt199.2 = true then (if bt203.2 = true then ((polyglotlaw08_AllAlike.f kj3 bt203.1 l1).bind fun t207 => (polyglotlaw14_DeltaBack.j1 kj3 l0 l1 a2 bt199.1 (!t207))) else (polyglotlaw14_DeltaBack.j1 kj3 l0 l1 a2 bt199.1 true)) else (polyglotlaw14_DeltaBack.j1 kj3 l0 l1 a2 bt199.1 true))))) else (some false))) = some r := by rw [if_neg (show ¬ (false = true) by decide)] at H; exact H
        clear H
        have H := H1
        clear H1
        replace H := Option.bind_eq_some_iff.mp H
        obtain ⟨⟨t194, t195⟩, A180, H⟩ := H
        replace H : (if t195 = true then (if (t194.length : Int) > 0 then ((polyglotlaw14_awake.f).bind fun t198 => (some t198)) else ((delta_Diff.f l0 l1).bind fun bt199 => ((delta_Over.f l0 bt199.1).bind fun bt203 => (if bt199.2 = true then (if bt203.2 = true then ((polyglotlaw08_AllAlike.f kj3 bt203.1 l1).bind fun t207 => (polyglotlaw14_DeltaBack.j1 kj3 l0 l1 a2 bt199.1 (!t207))) else (polyglotlaw14_DeltaBack.j1 kj3 l0 l1 a2 bt199.1 true)) else (polyglotlaw14_DeltaBack.j1 kj3 l0 l1 a2 bt199.1 true))))) else (some false)) = some r := H
        have A18 := Aside0.mk A180
        clear A180
        by_cases c19 : t195 = true
        · subst c19
          have H1 : (if (t194.length : Int) > 0 then ((polyglotlaw14_awake.f).bind fun t198 => (some t198)) else ((delta_Diff.f l0 l1).bind fun bt199 => ((delta_Over.f l0 bt199.1).bind fun bt203 => (if bt199.2 = true then (if bt203.2 = true then ((polyglotlaw08_AllAlike.f kj3 bt203.1 l1).bind fun t207 => (polyglotlaw14_DeltaBack.j1 kj3 l0 l1 a2 bt199.1 (!t207))) else (polyglotlaw14_DeltaBack.j1 kj3 l0 l1 a2 bt199.1 true)) else (polyglotlaw14_DeltaBack.j1 kj3 l0 l1 a2 bt199.1 true))))) = some r := by rw [if_pos rfl] at H; exact H
          clear H
          have H := H1
          clear H1
          by_cases c20 : (t194.length : Int) > 0
          · rw [if_pos c20] at H
            have c20b0 : decide (0 < (t194.length : Int)) = true := decide_eq_true c20
            have c20b1 : decide (0 < t194.length) = true := decide_eq_true (by omega)
            clear c20
            replace H := Option.bind_eq_some_iff.mp H
            obtain ⟨t198, A210, H⟩ := H
            replace H : (some t198) = some r := H
            have A21 := Aside0.mk A210
            clear A210
            obtain rfl := Option.some.inj H
            go_wp2_with (first | ((with_reducible refine gate_callee (f := 33) rfl ?_); refine goesL_ (some 36) rfl rfl Try.func33 (by kernel_rfl) rfl #[.slice A0 l0.length c0, .slice A1 l1.length c1] rfl (by (try simp only [List.map_toArray, List.map_cons, List.map_nil]); rfl) ?_; (with_reducible refine (delta_Gone.calls _ _ l0 _ _ l1 t194 true _ ?side1 ?side2 ?side3 ?side4 A18.out).mono ?_); (case side1 => repeat (exact (Kd.C_below HR0.out HB.out))); (case side2 => exact HC0.out); (case side3 => repeat (exact (Kd.C_below HR1.out HB.out))); (case side4 => exact HC1.out); rintro e w22 ⟨v196, rfl, ho0, hb⟩; refine ⟨_, rfl, ?_⟩; have n0_ := Aside0.mk (Kd.R_lower ho0 (below_size (by repeat ((with_reducible exact HB.out))))); have n1_ := Aside0.mk (below_step (by repeat ((with_reducible exact HB.out))) hb); clear HB; have HO197 := n0_; have HB := n1_; clear n0_ n1_; (try clear hb); (try clear hb2); (try clear hk); (try clear hi); (try clear ho0); obtain ⟨Ao23, co23, eo23⟩ := Kd.R_slice HO197.out; subst eo23) | ((with_reducible refine gate_callee (f := 32) rfl ?_); refine goesL_ (some 44) rfl rfl Try.func32 (by kernel_rfl) rfl #[] rfl (by (try simp only [List.map_toArray, List.map_cons, List.map_nil]); done) ?_; (with_reducible refine (polyglotlaw14_awake.calls  t198 _ A21.out).mono ?_); rintro e w24 ⟨rfl, hb⟩; refine ⟨_, rfl, ?_⟩; have n0_ := Aside0.mk (Kd.R_below (by (with_reducible repeat (apply Kd.R_drew)); exact HO197.out) hb); have n1_ := Aside0.mk (below_step (by repeat ((with_reducible exact HB.out))) hb); clear HO197; clear HB; have HO197 := n0_; have HB := n1_; clear n0_ n1_; (try clear hb); (try clear hb2); (try clear hk); (try clear hi)))
            go_ret
            exact ⟨by rfl, by repeat ((with_reducible exact HB.out))⟩
          · rw [if_neg c20] at H
            have c20b0 : decide (0 < (t194.length : Int)) = false := decide_eq_false c20
            have c20b1 : decide (0 < t194.length) = false := decide_eq_false (by omega)
            clear c20
            replace H := Option.bind_eq_some_iff.mp H
            obtain ⟨⟨t199, t200⟩, A250, H⟩ := H
            replace H : ((delta_Over.f l0 t199).bind fun bt203 => (if t200 = true then (if bt203.2 = true then ((polyglotlaw08_AllAlike.f kj3 bt203.1 l1).bind fun t207 => (polyglotlaw14_DeltaBack.j1 kj3 l0 l1 a2 t199 (!t207))) else (polyglotlaw14_DeltaBack.j1 kj3 l0 l1 a2 t199 true)) else (polyglotlaw14_DeltaBack.j1 kj3 l0 l1 a2 t199 true))) = some r := H
            have A25 := Aside0.mk A250
            clear A250
            replace H := Option.bind_eq_some_iff.mp H
            obtain ⟨⟨t203, t204⟩, A260, H⟩ := H
            replace H : (if t200 = true then (if t204 = true then ((polyglotlaw08_AllAlike.f kj3 t203 l1).bind fun t207 => (polyglotlaw14_DeltaBack.j1 kj3 l0 l1 a2 t199 (!t207))) else (polyglotlaw14_DeltaBack.j1 kj3 l0 l1 a2 t199 true)) else (polyglotlaw14_DeltaBack.j1 kj3 l0 l1 a2 t199 true)) = some r := H
            have A26 := Aside0.mk A260
            clear A260
            have HC27 := Aside0.mk H
            clear H
            go_upto_region 10 with (first | ((with_reducible refine gate_callee (f := 33) rfl ?_); refine goesL_ (some 36) rfl rfl Try.func33 (by kernel_rfl) rfl #[.slice A0 l0.length c0, .slice A1 l1.length c1] rfl (by (try simp only [List.map_toArray, List.map_cons, List.map_nil]); rfl) ?_; (with_reducible refine (delta_Gone.calls _ _ l0 _ _ l1 t194 true _ ?side1 ?side2 ?side3 ?side4 A18.out).mono ?_); (case side1 => repeat (exact (Kd.C_below HR0.out HB.out))); (case side2 => exact HC0.out); (case side3 => repeat (exact (Kd.C_below HR1.out HB.out))); (case side4 => exact HC1.out); rintro e w28 ⟨v196, rfl, ho0, hb⟩; refine ⟨_, rfl, ?_⟩; have n0_ := Aside0.mk (Kd.R_lower ho0 (below_size (by repeat ((with_reducible exact HB.out))))); have n1_ := Aside0.mk (below_step (by repeat ((with_reducible exact HB.out))) hb); clear HB; have HO197 := n0_; have HB := n1_; clear n0_ n1_; (try clear hb); (try clear hb2); (try clear hk); (try clear hi); (try clear ho0); obtain ⟨Ao29, co29, eo29⟩ := Kd.R_slice HO197.out; subst eo29) | ((with_reducible refine gate_callee (f := 34) rfl ?_); refine goesL_ (some 48) rfl rfl Try.func34 (by kernel_rfl) rfl #[.slice A0 l0.length c0, .slice A1 l1.length c1] rfl (by (try simp only [List.map_toArray, List.map_cons, List.map_nil]); rfl) ?_; (with_reducible refine (delta_Diff.calls _ _ l0 _ _ l1 t199 t200 _ ?side1 ?side2 ?side3 ?side4 A25.out).mono ?_); (case side1 => repeat (exact (Kd.C_below HR0.out HB.out))); (case side2 => exact HC0.out); (case side3 => repeat (exact (Kd.C_below HR1.out HB.out))); (case side4 => exact HC1.out); rintro e w30 ⟨v201, rfl, ho0, hb⟩; refine ⟨_, rfl, ?_⟩; have n0_ := Aside0.mk (Kd.R_below (by (with_reducible repeat (apply Kd.R_drew)); exact HO197.out) hb); have n1_ := Aside0.mk (Kd.N_lower (Kd.N_mono (ok' := fun k_ => some k_ ≠ (.slice Ao29 t194.length co29 : Value).ownBlock) (Kd.R_N (Kd.R_bound ho0)) (fun k_ hk_ => (Kd.fresh' (Kd.R_lt (by (with_reducible repeat (apply Kd.R_drew)); exact HO197.out)) k_ hk_.2.1))) (below_size (by repeat ((with_reducible exact HB.out))))); have n2_ := Aside0.mk (below_step (by repeat ((with_reducible exact HB.out))) hb); clear HO197; clear HB; have HO197 := n0_; have HO202 := n1_; have HB := n2_; clear n0_ n1_ n2_; (try clear hb); (try clear hb2); (try clear hk); (try clear hi); (try clear ho0); obtain ⟨Ao31, co31, eo31⟩ := Kd.N_slice HO202.out; subst eo31) | ((with_reducible refine gate_callee (f := 35) rfl ?_); refine goesL_ (some 54) rfl rfl Try.func35 (by kernel_rfl) rfl #[.slice A0 l0.length c0, .slice Ao31 t199.length co31] rfl (by (try simp only [List.map_toArray, List.map_cons, List.map_nil]); rfl) ?_; (with_reducible refine (delta_Over.calls _ _ l0 _ _ t199 t203 t204 _ ?side1 ?side2 ?side3 ?side4 A26.out).mono ?_); (case side1 => repeat (exact (Kd.C_below HR0.out HB.out))); (case side2 => exact HC0.out); (case side3 => repeat (exact (Kd.N_reads' HO202.out).2.2)); (case side4 => exact (Kd.N_reads' HO202.out).2.1); rintro e w32 ⟨v205, rfl, ho0, hb⟩; refine ⟨_, rfl, ?_⟩; have n0_ := Aside0.mk (Kd.R_below (by (with_reducible repeat (apply Kd.R_drew)); exact HO197.out) hb); have n1_ := Aside0.mk (Kd.N_elder' (by (with_reducible repeat (apply Kd.N_drew)); exact HO202.out) (by exact Kd.R_base ho0) hb); have n2_ := Aside0.mk (Kd.N_lower (Kd.N_mono (ok' := fun k_ => some k_ ≠ (.slice Ao29 t194.length co29 : Value).ownBlock ∧ some k_ ≠ (.slice Ao31 t199.length co31 : Value).ownBlock) (Kd.R_N (Kd.R_bound ho0)) (fun k_ hk_ => ⟨(Kd.fresh' (Kd.R_lt (by (with_reducible repeat (apply Kd.R_drew)); exact HO197.out)) k_ hk_.2.1), (Kd.fresh' (Kd.N_lt (by (with_reducible repeat (apply Kd.N_drew)); exact HO202.out)) k_ hk_.2.1)⟩)) (below_size (by repeat ((with_reducible exact HB.out))))); have n3_ := Aside0.mk (below_step (by repeat ((with_reducible exact HB.out))) hb); clear HO197; clear HO202; clear HB; have HO197 := n0_; have HO202 := n1_; have HO206 := n2_; have HB := n3_; clear n0_ n1_ n2_ n3_; (try clear hb); (try clear hb2); (try clear hk); (try clear hi); (try clear ho0)))
            (try simp only [Act.put, List.setIfInBounds_toArray, List.set_cons_zero, List.set_cons_succ])
            go_cut [68] (fun v68 wc => ∃ (kq : Nat) (x68_26 : Bool), v68 = .bool x68_26 ∧ Aside0 (polyglotlaw14_DeltaBack.j1 kq l0 l1 a2 t199 x68_26 = some r) ∧ Aside0 (kq ≤ kj3) ∧ Aside0 (Kd.N k31 31 wc w.heap.size (fun _ => True) (.slice Ao31 t199.length co31) t199) ∧ Aside0 (Below w.heap.size w wc))
            case first =>
              have H := HC27.out
              clear HC27
              by_cases c33 : t200 = true
              · subst c33
                have H1 : (if t204 = true then ((polyglotlaw08_AllAlike.f kj3 t203 l1).bind fun t207 => (polyglotlaw14_DeltaBack.j1 kj3 l0 l1 a2 t199 (!t207))) else (polyglotlaw14_DeltaBack.j1 kj3 l0 l1 a2 t199 true)) = some r := by rw [if_pos rfl] at H; exact H
                clear H
                have H := H1
                clear H1
                by_cases c34 : t204 = true
                · subst c34
                  have H1 : ((polyglotlaw08_AllAlike.f kj3 t203 l1).bind fun t207 => (polyglotlaw14_DeltaBack.j1 kj3 l0 l1 a2 t199 (!t207))) = some r := by rw [if_pos rfl] at H; exact H
                  clear H
                  have H := H1
                  clear H1
                  replace H := Option.bind_eq_some_iff.mp H
                  obtain ⟨t207, A350, H⟩ := H
                  replace H : (polyglotlaw14_DeltaBack.j1 kj3 l0 l1 a2 t199 (!t207)) = some r := H
                  have A35 := Aside0.mk A350
                  clear A350
                  have H' := Aside0.mk H
                  clear H
                  obtain ⟨Ao36, co36, eo36⟩ := Kd.N_slice HO206.out
                  subst eo36
                  go_wp2_with ((go_at_call 36; (with_reducible refine (polyglotlaw08_AllAlike.calls kj3 _ _ t203 _ _ l1 t207 _ ?side1 ?side2 ?side3 ?side4 A35.out).mono ?_); (case side1 => repeat (exact (Kd.N_reads' HO206.out).2.2)); (case side2 => exact (Kd.N_reads' HO206.out).2.1); (case side3 => repeat (exact (Kd.C_below HR1.out HB.out))); (case side4 => exact HC1.out); rintro e w37 ⟨rfl, hb⟩; have n0_ := Aside0.mk (Kd.R_below (by (with_reducible repeat (apply Kd.R_drew)); exact HO197.out) hb); have n1_ := Aside0.mk (Kd.N_below (by (with_reducible repeat (apply Kd.N_drew)); exact HO202.out) hb); have n2_ := Aside0.mk (Kd.N_below (by (with_reducible repeat (apply Kd.N_drew)); exact HO206.out) hb); have n3_ := Aside0.mk (below_step (by repeat ((with_reducible exact HB.out))) hb); clear HO197; clear HO202; clear HO206; clear HB; have HO197 := n0_; have HO202 := n1_; have HO206 := n2_; have HB := n3_; clear n0_ n1_ n2_ n3_; (try clear hb); (try clear hb2); (try clear hk); (try clear hi)))
                  go_meet
                  case rel => exact ⟨_, (!t207), (by rfl), H', ⟨by have := HJ3.out; omega⟩, ⟨by (with_reducible repeat (apply Kd.N_drew)); exact Kd.N_mono HO202.out (fun _ hk => trivial)⟩, ⟨by repeat ((with_reducible exact HB.out))⟩⟩
                · replace c34 := Bool.eq_false_iff.mpr c34
                  subst c34
                  have H1 : (polyglotlaw14_DeltaBack.j1 kj3 l0 l1 a2 t199 true) = some r := by rw [if_neg (show ¬ (false = true) by decide)] at H; exact H
                  clear H
                  have H := H1
                  clear H1
                  have H' := Aside0.mk H
                  clear H
                  go_wp2
                  go_meet
                  case rel => exact ⟨_, (true), (by rfl), H', ⟨by have := HJ3.out; omega⟩, ⟨by (with_reducible repeat (apply Kd.N_drew)); exact Kd.N_mono HO202.out (fun _ hk => trivial)⟩, ⟨by repeat ((with_reducible exact HB.out))⟩⟩
              · replace c33 := Bool.eq_false_iff.mpr c33
                subst c33
                have H1 : (polyglotlaw14_DeltaBack.j1 kj3 l0 l1 a2 t199 true) = some r := by rw [if_neg (show ¬ (false = true) by decide)] at H; exact H
                clear H
                have H := H1
                clear H1
                have H' := Aside0.mk H
                clear H
                go_wp2
                go_meet
                case rel => exact ⟨_, (true), (by rfl), H', ⟨by have := HJ3.out; omega⟩, ⟨by (with_reducible repeat (apply Kd.N_drew)); exact Kd.N_mono HO202.out (fun _ hk => trivial)⟩, ⟨by repeat ((with_reducible exact HB.out))⟩⟩
            case rest =>
              clear HC27
              try clear c1
              try clear c2
              try clear p2
              try clear c3
              try clear c4
              try clear c6
              try clear c8
              try clear c10
              try clear c15
              try clear c19
              try clear c20
              try clear c20b0
              try clear c20b1
              try clear c26
              try clear c32
              try clear c33
              try clear c34
              try clear c35
              try clear p2
              obtain ⟨kq, x68_26, rfl, HA, HJ26, HO_9, HB⟩ := hcut
              cases kq with
              | zero => exact absurd HA.out (by simp [polyglotlaw14_DeltaBack.j1])
              | succ kj26 =>
                have H := HA.out
                clear HA
                simp only [polyglotlaw14_DeltaBack.j1] at H
                by_cases c38 : x68_26 = true
                · subst c38
                  have H1 : (some false) = some r := by rw [if_pos rfl] at H; exact H
                  clear H
                  have H := H1
                  clear H1
                  obtain rfl := Option.some.inj H
                  go_wp2
                  go_ret
                  exact ⟨by rfl, by repeat ((with_reducible exact HB.out))⟩
                · replace c38 := Bool.eq_false_iff.mpr c38
                  subst c38
                  have H1 : (if a2 < 0 then (polyglotlaw14_DeltaBack.j2 kj26 l0 l1 a2 t199 true) else (polyglotlaw14_DeltaBack.j2 kj26 l0 l1 a2 t199 (decide (a2 ≥ (t199.length : Int))))) = some r := by rw [if_neg (show ¬ (false = true) by decide)] at H; exact H
                  clear H
                  have H := H1
                  clear H1
                  have HC39 := Aside0.mk H
                  clear H
                  go_upto_region 12 with (fail)
                  go_cut [76] (fun v76 wc => ∃ (kq : Nat) (x76_38 : Bool), v76 = .bool x76_38 ∧ Aside0 (polyglotlaw14_DeltaBack.j2 kq l0 l1 a2 t199 x76_38 = some r) ∧ Aside0 (kq ≤ kj26) ∧ Aside0 (Kd.N k31 31 wc w.heap.size (fun _ => True) (.slice Ao31 t199.length co31) t199) ∧ Aside0 (Below w.heap.size w wc))
                  case first =>
                    have H := HC39.out
                    clear HC39
                    by_cases c40 : a2 < 0
                    · rw [if_pos c40] at H
                      have c40b0 : decide (a2 < 0) = true := decide_eq_true c40
                      clear c40
                      (skip)
                      have H' := Aside0.mk H
                      clear H
                      go_wp2
                      go_meet
                      case rel => exact ⟨_, (true), (by rfl), H', ⟨by have := HJ3.out; have := HJ26.out; omega⟩, ⟨by (with_reducible repeat (apply Kd.N_drew)); exact HO_9.out⟩, ⟨by repeat ((with_reducible exact HB.out))⟩⟩
                    · rw [if_neg c40] at H
                      have c40b0 : decide (a2 < 0) = false := decide_eq_false c40
                      clear c40
                      (skip)
                      have H' := Aside0.mk H
                      clear H
                      go_wp2
                      go_meet
                      case rel => exact ⟨_, (decide (a2 ≥ (t199.length : Int))), (by rfl), H', ⟨by have := HJ3.out; have := HJ26.out; omega⟩, ⟨by (with_reducible repeat (apply Kd.N_drew)); exact HO_9.out⟩, ⟨by repeat ((with_reducible exact HB.out))⟩⟩
                  case rest =>
                    clear HC39
                    try clear c1
                    try clear c2
                    try clear p2
                    try clear c3
                    try clear c4
                    try clear c6
                    try clear c8
                    try clear c10
                    try clear c15
                    try clear c19
                    try clear c20
                    try clear c20b0
                    try clear c20b1
                    try clear c26
                    try clear c32
                    try clear c33
                    try clear c34
                    try clear c35
                    try clear c38
                    try clear c40
                    try clear c40b0
                    try clear p2
                    obtain ⟨kq, x76_38, rfl, HA, HJ38, HO_9, HB⟩ := hcut
                    cases kq with
                    | zero => exact absurd HA.out (by simp [polyglotlaw14_DeltaBack.j2])
                    | succ kj38 =>
                      have H := HA.out
                      clear HA
                      simp only [polyglotlaw14_DeltaBack.j2] at H
                      by_cases c41 : x76_38 = true
                      · subst c41
                        have H1 : ((polyglotlaw14_awake.f).bind fun t208 => (some t208)) = some r := by rw [if_pos rfl] at H; exact H
                        clear H
                        have H := H1
                        clear H1
                        replace H := Option.bind_eq_some_iff.mp H
                        obtain ⟨t208, A420, H⟩ := H
                        replace H : (some t208) = some r := H
                        have A42 := Aside0.mk A420
                        clear A420
                        obtain rfl := Option.some.inj H
                        go_wp2_with (((with_reducible refine gate_callee (f := 32) rfl ?_); refine goesL_ (some 77) rfl rfl Try.func32 (by kernel_rfl) rfl #[] rfl (by (try simp only [List.map_toArray, List.map_cons, List.map_nil]); done) ?_; (with_reducible refine (polyglotlaw14_awake.calls  t208 _ A42.out).mono ?_); rintro e w43 ⟨rfl, hb⟩; refine ⟨_, rfl, ?_⟩; have n0_ := Aside0.mk (Kd.N_below (by (with_reducible repeat (apply Kd.N_drew)); exact HO_9.out) hb); have n1_ := Aside0.mk (below_step (by repeat ((with_reducible exact HB.out))) hb); clear HO_9; clear HB; have HO_9 := n0_; have HB := n1_; clear n0_ n1_; (try clear hb); (try clear hb2); (try clear hk); (try clear hi)))
                        go_ret
                        exact ⟨by rfl, by repeat ((with_reducible exact HB.out))⟩
                      · replace c41 := Bool.eq_false_iff.mpr c41
                        subst c41
                        have H1 : ((some (([] : List (S31)) : List (S31))).bind fun y209 => (if 0 ≤ a2 then (if a2 ≤ (t199.length : Int) then ((some (t199.take (a2 : Int).toNat : List (S31))).bind fun y212 => (if y209.length + y212.length < 1954687338268 then ((some (y209 ++ y212 : List (S31))).bind fun y217 => (if 0 ≤ (wrap64 (a2 + 1)) then (if (wrap64 (a2 + 1)) ≤ (t199.length : Int) then ((some (t199.drop ((wrap64 (a2 + 1)) : Int).toNat : List (S31))).bind fun y220 => (if y217.length + y220.length < 1954687338268 then ((delta_Over.f l0 (y217 ++ y220)).bind fun bt228 => (if bt228.2 = true then ((polyglotlaw08_AllAlike.f kj38 bt228.1 l1).bind fun t232 => (if t232 = true then (some false) else ((polyglotlaw14_awake.f).bind fun t233 => (some t233)))) else (some false))) else (none))) else (none)) else (none))) else (none))) else (none)) else (none))) = some r := by rw [if_neg (show ¬ (false = true) by decide)] at H; exact H
                        clear H
                        have H := H1
                        clear H1
                        obtain ⟨y209, hy209⟩ : ∃ y_ : List (S31), y_ = (([] : List (S31))) := ⟨_, rfl⟩
                        replace H : (if 0 ≤ a2 then (if a2 ≤ (t199.length : Int) then ((some (t199.take (a2 : Int).toNat : List (S31))).bind fun y212 => (if y209.length + y212.length < 1954687338268 then ((some (y209 ++ y212 : List (S31))).bind fun y217 => (if 0 ≤ (wrap64 (a2 + 1)) then (if (wrap64 (a2 + 1)) ≤ (t199.length : Int) then ((some (t199.drop ((wrap64 (a2 + 1)) : Int).toNat : List (S31))).bind fun y220 => (if y217.length + y220.length < 1954687338268 then ((delta_Over.f l0 (y217 ++ y220)).bind fun bt228 => (if bt228.2 = true then ((polyglotlaw08_AllAlike.f kj38 bt228.1 l1).bind fun t232 => (if t232 = true then (some false) else ((polyglotlaw14_awake.f).bind fun t233 => (some t233)))) else (some false))) else (none))) else (none)) else (none))) else (none))) else (none)) else (none)) = some r := by (have H2_ := (Option.bind_some _ _).symm.trans H; rw [hy209]; with_reducible exact H2_)
                        have Ny209 := Aside0.mk hy209
                        clear hy209
                        by_cases c44 : 0 ≤ a2
                        · rw [if_pos c44] at H
                          have c44b0 := eq_true c44
                          have c44b1 : decide (0 ≤ a2) = true := decide_eq_true c44
                          clear c44
                          by_cases c45 : a2 ≤ (t199.length : Int)
                          · rw [if_pos c45] at H
                            have c45b0 := eq_true c45
                            have c45b1 : decide (a2 ≤ (t199.length : Int)) = true := decide_eq_true c45
                            clear c45
                            obtain ⟨y212, hy212⟩ : ∃ y_ : List (S31), y_ = (t199.take (a2 : Int).toNat) := ⟨_, rfl⟩
                            replace H : (if y209.length + y212.length < 1954687338268 then ((some (y209 ++ y212 : List (S31))).bind fun y217 => (if 0 ≤ (wrap64 (a2 + 1)) then (if (wrap64 (a2 + 1)) ≤ (t199.length : Int) then ((some (t199.drop ((wrap64 (a2 + 1)) : Int).toNat : List (S31))).bind fun y220 => (if y217.length + y220.length < 1954687338268 then ((delta_Over.f l0 (y217 ++ y220)).bind fun bt228 => (if bt228.2 = true then ((polyglotlaw08_AllAlike.f kj38 bt228.1 l1).bind fun t232 => (if t232 = true then (some false) else ((polyglotlaw14_awake.f).bind fun t233 => (some t233)))) else (some false))) else (none))) else (none)) else (none))) else (none)) = some r := by (have H2_ := (Option.bind_some _ _).symm.trans H; rw [hy212]; with_reducible exact H2_)
                            have Ny212 := Aside0.mk hy212
                            clear hy212
                            by_cases c46 : y209.length + y212.length < 1954687338268
                            · rw [if_pos c46] at H
                              have LMc46 := Aside0.mk c46
                              clear c46
                              obtain ⟨y217, hy217⟩ : ∃ y_ : List (S31), y_ = (y209 ++ y212) := ⟨_, rfl⟩
                              replace H : (if 0 ≤ (wrap64 (a2 + 1)) then (if (wrap64 (a2 + 1)) ≤ (t199.length : Int) then ((some (t199.drop ((wrap64 (a2 + 1)) : Int).toNat : List (S31))).bind fun y220 => (if y217.length + y220.length < 1954687338268 then ((delta_Over.f l0 (y217 ++ y220)).bind fun bt228 => (if bt228.2 = true then ((polyglotlaw08_AllAlike.f kj38 bt228.1 l1).bind fun t232 => (if t232 = true then (some false) else ((polyglotlaw14_awake.f).bind fun t233 => (some t233)))) else (some false))) else (none))) else (none)) else (none)) = some r := by (have H2_ := (Option.bind_some _ _).symm.trans H; rw [hy217]; with_reducible exact H2_)
                              have Ny217 := Aside0.mk hy217
                              clear hy217
                              obtain ⟨ji47, hji47⟩ : ∃ j_ : Int, (wrap64 (a2 + 1)) = j_ := ⟨_, rfl⟩
                              replace H : (if 0 ≤ (ji47) then (if (ji47) ≤ (t199.length : Int) then ((some (t199.drop ((ji47) : Int).toNat : List (S31))).bind fun y220 => (if y217.length + y220.length < 1954687338268 then ((delta_Over.f l0 (y217 ++ y220)).bind fun bt228 => (if bt228.2 = true then ((polyglotlaw08_AllAlike.f kj38 bt228.1 l1).bind fun t232 => (if t232 = true then (some false) else ((polyglotlaw14_awake.f).bind fun t233 => (some t233)))) else (some false))) else (none))) else (none)) else (none)) = some r := by (rw [hji47] at H; exact H)
                              have hji47w : (IntKind.i64.wrap (a2 + 1)) = ji47 := (i64_w _).trans hji47
                              by_cases c48 : 0 ≤ (ji47)
                              · rw [if_pos c48] at H
                                have c48b0 := eq_true c48
                                have c48b1 : decide (0 ≤ (ji47)) = true := decide_eq_true c48
                                clear c48
                                by_cases c49 : (ji47) ≤ (t199.length : Int)
                                · rw [if_pos c49] at H
                                  have c49b0 := eq_true c49
                                  have c49b1 : decide ((ji47) ≤ (t199.length : Int)) = true := decide_eq_true c49
                                  clear c49
                                  obtain ⟨y220, hy220⟩ : ∃ y_ : List (S31), y_ = (t199.drop ((ji47) : Int).toNat) := ⟨_, rfl⟩
                                  replace H : (if y217.length + y220.length < 1954687338268 then ((delta_Over.f l0 (y217 ++ y220)).bind fun bt228 => (if bt228.2 = true then ((polyglotlaw08_AllAlike.f kj38 bt228.1 l1).bind fun t232 => (if t232 = true then (some false) else ((polyglotlaw14_awake.f).bind fun t233 => (some t233)))) else (some false))) else (none)) = some r := by (have H2_ := (Option.bind_some _ _).symm.trans H; rw [hy220]; with_reducible exact H2_)
                                  have Ny220 := Aside0.mk hy220
                                  clear hy220
                                  by_cases c50 : y217.length + y220.length < 1954687338268
                                  · rw [if_pos c50] at H
                                    have LMc50 := Aside0.mk c50
                                    clear c50
                                    obtain ⟨y225, hy225⟩ : ∃ y_ : List (S31), y_ = (y217 ++ y220) := ⟨_, rfl⟩
                                    replace H : ((delta_Over.f l0 y225).bind fun bt228 => (if bt228.2 = true then ((polyglotlaw08_AllAlike.f kj38 bt228.1 l1).bind fun t232 => (if t232 = true then (some false) else ((polyglotlaw14_awake.f).bind fun t233 => (some t233)))) else (some false))) = some r := by (rw [hy225]; with_reducible exact H)
                                    have Ny225 := Aside0.mk hy225
                                    clear hy225
                                    replace H := Option.bind_eq_some_iff.mp H
                                    obtain ⟨⟨t228, t229⟩, A510, H⟩ := H
                                    replace H : (if t229 = true then ((polyglotlaw08_AllAlike.f kj38 t228 l1).bind fun t232 => (if t232 = true then (some false) else ((polyglotlaw14_awake.f).bind fun t233 => (some t233)))) else (some false)) = some r := H
                                    have A51 := Aside0.mk A510
                                    clear A510
                                    by_cases c52 : t229 = true
                                    · subst c52
                                      have H1 : ((polyglotlaw08_AllAlike.f kj38 t228 l1).bind fun t232 => (if t232 = true then (some false) else ((polyglotlaw14_awake.f).bind fun t233 => (some t233)))) = some r := by rw [if_pos rfl] at H; exact H
                                      clear H
                                      have H := H1
                                      clear H1
                                      replace H := Option.bind_eq_some_iff.mp H
                                      obtain ⟨t232, A530, H⟩ := H
                                      replace H : (if t232 = true then (some false) else ((polyglotlaw14_awake.f).bind fun t233 => (some t233))) = some r := H
                                      have A53 := Aside0.mk A530
                                      clear A530
                                      by_cases c54 : t232 = true
                                      · subst c54
                                        have H1 : (some false) = some r := by rw [if_pos rfl] at H; exact H
                                        clear H
                                        have H := H1
                                        clear H1
                                        obtain rfl := Option.some.inj H
                                        try go_wp2
                                        have n0_ := Aside0.mk (Kd.N_drew HO_9.out)
                                        have n1_ := Aside0.mk (below_drew1 HB.out)
                                        clear HO_9
                                        clear HB
                                        have HO_9 := n0_
                                        have HB := n1_
                                        clear n0_ n1_
                                        have q56 : (a2 : Int) ≤ ((t199.length : Int) : Int) := of_decide_eq_true (by (with_reducible assumption))
                                        obtain ⟨i056, hi056, _, hsz56, _⟩ := info_parts info31
                                        have hroom56 : t199.length ≤ co31 := (Kd.N_reads' HO_9.out).2.1
                                        have hC56 : Kd.F k31 _ _ Ao31 t199.length t199 := (Kd.V_at (base := w.heap.size) (Kd.N_V HO_9.out)).2.2
                                        have hcut56 := cut_to (P := Try.prog) 22 31 .i64 Try.underlying22 hi056 Ao31 t199.length co31 a2 (of_decide_eq_true (by (with_reducible assumption))) q56 hroom56
                                        have hr56 := Kd.F_take (m := (a2 : Int).toNat) hC56 (by omega)
                                        have hy56 : y212.length = (a2 : Int).toNat := (by rw [Ny212.out, List.length_take]; omega)
                                        rw [← Ny212.out] at hr56
                                        rw [← hy56] at hcut56
                                        have HO216 := Aside0.mk (show Kd.V k31 31 _ w.heap.size _ (.slice Ao31 y212.length co31) y212 from Kd.V_mk (by omega) hr56)
                                        have HC216 := Aside0.mk (show y212.length ≤ co31 from by omega)
                                        clear hr56 hC56 hroom56 hi056 hsz56
                                        have KY56 := Aside0.mk hy56
                                        clear hy56
                                        replace q56 := eq_true q56
                                        have q57 : ((ji47) : Int) ≤ ((t199.length : Int) : Int) := of_decide_eq_true (by (with_reducible assumption))
                                        obtain ⟨i057, hi057, _, hsz57, _⟩ := info_parts info31
                                        have hroom57 : t199.length ≤ co31 := (Kd.N_reads' HO_9.out).2.1
                                        have hC57 : Kd.F k31 _ _ Ao31 t199.length t199 := (Kd.V_at (base := w.heap.size) (Kd.N_V HO_9.out)).2.2
                                        have q057 : (0 : Int) ≤ ((ji47) : Int) := of_decide_eq_true (by (with_reducible assumption))
                                        have hcut57 := cut_from (P := Try.prog) 22 31 .i64 Try.underlying22 hi057 7 hsz57 Ao31 t199.length co31 (ji47) q057 q57
                                        have hr57 := Kd.F_cut (m := ((ji47) : Int).toNat) (c := co31) hC57 (by omega) hroom57
                                        obtain ⟨A57, hA57⟩ : ∃ A1, A1 = (if co31 = ((ji47) : Int).toNat then Ao31 else (Ao31 : Option Addr).map (·.add (((ji47) : Int).toNat * 7))) := ⟨_, rfl⟩
                                        obtain ⟨c57, hc57⟩ : ∃ c1, c1 = co31 - ((ji47) : Int).toNat := ⟨_, rfl⟩
                                        have hy57 : y220.length = t199.length - ((ji47) : Int).toNat := (by rw [Ny220.out, List.length_drop] <;> omega)
                                        rw [show (t199).drop ((ji47) : Int).toNat = y220 from Ny220.out.symm] at hr57
                                        replace hr57 : Kd.F k31 _ _ A57 y220.length y220 := (by rw [hA57]; exact hr57)
                                        rw [← hy57, ← hA57, ← hc57] at hcut57
                                        have HO224 := Aside0.mk (show Kd.V k31 31 _ w.heap.size _ (.slice A57 y220.length c57) y220 from Kd.V_mk (by rw [hy57, hc57]; exact Nat.sub_le_sub_right hroom57 _) hr57)
                                        have HC224 := Aside0.mk (show y220.length ≤ c57 from by rw [hy57, hc57]; exact Nat.sub_le_sub_right hroom57 _)
                                        clear hr57 hC57 hroom57 hi057 hsz57 hc57
                                        have KY57 := Aside0.mk hy57
                                        have KA57 := Aside0.mk hA57
                                        clear hy57 hA57
                                        replace q57 := eq_true q57
                                        refine start_ (n := 11) (S := fun w' => True) (ds := []) #[false, false, false, false, false, false, false, false, false, false, false] (by kernel_rfl) rfl rfl trivial (fun hHeld => ?_); refine with_tabW polyglotlaw14_DeltaBack.tab14 polyglotlaw14_DeltaBack.bits14 (fun HT_ HW_ => ?_)
                                        generalize wc.drew = w55 at HO_9 HB HO216 HO224 hHeld ⊢
                                        refine pure_ (i := 1) (N := some 79) (v := ?_) (a' := ?_) #[false, true, false, false, false, false, false, false, false, false, false] rfl rfl (any_of HT_.out (by kernel_rfl)) (fun _ _ _ h => h) (Or.inl ⟨by rfl, ?_⟩) ?_ ?_
                                        rotate_left
                                        · intro w'
                                          go_simp
                                          with_reducible rfl
                                        rotate_left
                                        · simp only [Act.put, List.setIfInBounds_toArray, List.set_cons_zero, List.set_cons_succ, i64_w, i32_w]
                                          rfl
                                        refine pure_ (i := 2) (N := some 80) (v := ?_) (a' := ?_) #[false, true, true, false, false, false, false, false, false, false, false] rfl rfl (any_of HT_.out (by kernel_rfl)) (fun _ _ _ h => h) (Or.inl ⟨by rfl, ?_⟩) ?_ ?_
                                        rotate_left
                                        · intro w'
                                          go_simp
                                          with_reducible rfl
                                        rotate_left
                                        · simp only [Act.put, List.setIfInBounds_toArray, List.set_cons_zero, List.set_cons_succ, i64_w, i32_w]
                                          rfl
                                        refine pure_ (i := 3) (N := some 81) (v := ?_) (a' := ?_) #[false, true, true, true, false, false, false, false, false, false, false] rfl rfl (any_of HT_.out (by kernel_rfl)) (fun _ _ _ h => h) (Or.inl ⟨by rfl, ?_⟩) ?_ ?_
                                        rotate_left
                                        · intro w'
                                          go_simp
                                          with_reducible rfl
                                        rotate_left
                                        · simp only [Act.put, List.setIfInBounds_toArray, List.set_cons_zero, List.set_cons_succ, i64_w, i32_w]
                                          rfl
                                        refine pure_ (i := 5) (N := some 83) (v := ?_) (a' := ?_) #[false, true, true, true, false, true, false, false, false, false, false] rfl rfl (any_of HT_.out (by kernel_rfl)) (fun _ _ _ h => h) (Or.inl ⟨by rfl, ?_⟩) ?_ ?_
                                        rotate_left
                                        · intro w'
                                          go_simp
                                          with_reducible rfl
                                        rotate_left
                                        · simp only [Act.put, List.setIfInBounds_toArray, List.set_cons_zero, List.set_cons_succ, i64_w, i32_w]
                                          rfl
                                        refine pure_ (i := 6) (N := some 84) (v := ?_) (a' := ?_) #[false, true, true, true, false, true, true, false, false, false, false] rfl rfl (any_of HT_.out (by kernel_rfl)) (fun _ _ _ h => h) (Or.inl ⟨by rfl, ?_⟩) ?_ ?_
                                        rotate_left
                                        · intro w'
                                          go_simp
                                          with_reducible rfl
                                        rotate_left
                                        · simp only [Act.put, List.setIfInBounds_toArray, List.set_cons_zero, List.set_cons_succ, i64_w, i32_w]
                                          rfl
                                        refine pure_ (i := 7) (N := some 85) (v := ?_) (a' := ?_) #[false, true, true, true, false, true, true, true, false, false, false] rfl rfl (any_of HT_.out (by kernel_rfl)) (fun _ _ _ h => h) (Or.inl ⟨by rfl, ?_⟩) ?_ ?_
                                        rotate_left
                                        · intro w'
                                          go_simp
                                          with_reducible rfl
                                        rotate_left
                                        · simp only [Act.put, List.setIfInBounds_toArray, List.set_cons_zero, List.set_cons_succ, i64_w, i32_w]
                                          rfl
                                        refine pure_ (i := 8) (N := some 86) (v := ?_) (a' := ?_) #[false, true, true, true, false, true, true, true, true, false, false] rfl rfl (any_of HT_.out (by kernel_rfl)) (fun _ _ _ h => h) (Or.inl ⟨by rfl, ?_⟩) ?_ ?_
                                        rotate_left
                                        · intro w'
                                          go_simp
                                          with_reducible rfl
                                        rotate_left
                                        · simp only [Act.put, List.setIfInBounds_toArray, List.set_cons_zero, List.set_cons_succ, i64_w, i32_w]
                                          rfl
                                        refine one_ (i := 0) (N := some 78) #[true, true, true, true, false, true, true, true, true, false, false] rfl rfl (one_of HT_.out (by kernel_rfl)) (by decide) (fun K hK => ?_)
                                        refine Kd.N_lit_step k31 _ 31 ?hg (N' := 78) ?hd (xs := ([] : List (S31))) (inner := []) (ok := (fun k_ => some k_ ≠ (.slice Ao31 t199.length co31 : Value).ownBlock)) (okp := (fun k_ => some k_ ≠ (.slice Ao31 t199.length co31 : Value).ownBlock)) ?hr ?hp (fun _ hk => hk) ((show ∀ k_, w55.heap.size ≤ k_ → (fun k_ => some k_ ≠ (.slice Ao31 t199.length co31 : Value).ownBlock) k_ from fun k_ hk => Kd.fresh' (Kd.N_lt (by (with_reducible repeat (apply Kd.N_drew)); exact HO_9.out)) k_ hk) _ (Nat.le_refl _)) (Below.refl _ _) (Nat.le_refl _) (by simp) ?_; (case hd => rfl); (case hg => rfl); (case hr => (go_simp; done)); (case hp => exact (Reps.none _ _))
                                        intro v210 w58 ho59 hb hg_ hnew_
                                        clear hg_ hnew_
                                        (rw [← Ny209.out] at ho59)
                                        have n0_ := Aside0.mk (Kd.N_elder' (by (with_reducible repeat (apply Kd.N_drew)); exact HO_9.out) (by exact Kd.N_base ho59) hb)
                                        have n1_ := Aside0.mk (Kd.V_elder' (by (with_reducible repeat (apply Kd.V_drew)); exact HO216.out) (by exact Kd.N_base ho59) hb)
                                        have n2_ := Aside0.mk (Kd.V_elder' (by (with_reducible repeat (apply Kd.V_drew)); exact HO224.out) (by exact Kd.N_base ho59) hb)
                                        have n3_ := Aside0.mk (Kd.N_lower ho59 (below_size (by repeat ((with_reducible exact HB.out)))))
                                        have n4_ := Aside0.mk (below_step (by repeat ((with_reducible exact HB.out))) hb)
                                        clear HO_9
                                        clear HO216
                                        clear HO224
                                        clear HB
                                        have HO_9 := n0_
                                        have HO216 := n1_
                                        have HO224 := n2_
                                        have HO211 := n3_
                                        have HB := n4_
                                        clear n0_ n1_ n2_ n3_ n4_
                                        clear hb ho59
                                        refine hK.out _ _ trivial (fun hHeld => ?_)
                                        clear hK K
                                        refine norm_ (a' := ?_) ?_ ?_
                                        rotate_left
                                        · show Act.put _ (some 78) _ = _
                                          simp only [Act.put, List.setIfInBounds_toArray, List.set_cons_zero, List.set_cons_succ, i64_w, i32_w]
                                          rfl
                                        refine one_ (i := 4) (N := some 82) #[true, true, true, true, true, true, true, true, true, false, false] rfl rfl (one_of HT_.out (by kernel_rfl)) (by decide) (fun K hK => ?_)
                                        refine Kd.N_append_rows_step k31 (w0 := w) w.heap.size (by rfl) (.tmp 78) (.tmp 81) 22 31 (.agg #[(.int .i64 0), (.int .i64 0), (.int .i64 0), (.int .i64 0), (.int .i64 0), (.bool false), (.slice none 0 0)]) 72 rfl Try.underlying22 info31 rfl (by decide) (by omega) v210 y209 y212 _ _ _ (fun _ => True) (fun k_ => ((fun _ => True)) k_ ∧ some k_ ≠ (v210 : Value).ownBlock) rfl rfl ?aO ?aR (fun _ hk => hk) ?aF ?aB ?aS ?aL ?_
                                        (case aR => exact (by skip; exact Kd.V_F (Kd.V_mono (ok' := (fun k_ => ((fun _ => True)) k_ ∧ some k_ ≠ (v210 : Value).ownBlock)) (by (with_reducible repeat (apply Kd.V_drew)); exact HO216.out) (by exact fun k_ hk => ⟨trivial, hk.2⟩))))
                                        (case aB => exact (by repeat ((with_reducible exact HB.out))))
                                        (case aF => exact (fun _ _ => trivial))
                                        (case aO => exact (by (with_reducible repeat (apply Kd.N_drew)); exact Kd.N_mono HO211.out (fun _ hk => trivial)))
                                        (case aS => exact (below_size (by repeat ((with_reducible exact HB.out)))))
                                        (case aL => have := LMc46.out; omega)
                                        intro v218 w60 ho hb hg hat
                                        rw [← Ny217.out] at ho
                                        have n0_ := Aside0.mk (Kd.N_afterv (ok := (fun _ => True)) (by (with_reducible repeat (apply Kd.N_drew)); exact HO_9.out) hg hat)
                                        have n1_ := Aside0.mk (Kd.V_afterv (ok := (fun _ => True)) (by (with_reducible repeat (apply Kd.V_drew)); exact HO216.out) hg hat)
                                        have n2_ := Aside0.mk (Kd.V_afterv (ok := (fun _ => True)) (by (with_reducible repeat (apply Kd.V_drew)); exact HO224.out) hg hat)
                                        have n3_ := Aside0.mk (hb)
                                        have n4_ := Aside0.mk (ho)
                                        clear HO_9
                                        clear HO216
                                        clear HO224
                                        clear HB
                                        clear HO211
                                        have HO_9 := n0_
                                        have HO216 := n1_
                                        have HO224 := n2_
                                        have HB := n3_
                                        have HO219 := n4_
                                        clear n0_ n1_ n2_ n3_ n4_
                                        clear ho hb hg hat
                                        refine hK.out _ _ trivial (fun hHeld => ?_)
                                        clear hK K
                                        refine norm_ (a' := ?_) ?_ ?_
                                        rotate_left
                                        · show Act.put _ (some 82) _ = _
                                          simp only [Act.put, List.setIfInBounds_toArray, List.set_cons_zero, List.set_cons_succ, i64_w, i32_w]
                                          rfl
                                        refine one_ (i := 9) (N := some 87) #[true, true, true, true, true, true, true, true, true, true, false] rfl rfl (one_of HT_.out (by kernel_rfl)) (by decide) (fun K hK => ?_)
                                        refine Kd.N_append_rows_step k31 (w0 := w) w.heap.size (by rfl) (.tmp 82) (.tmp 86) 22 31 (.agg #[(.int .i64 0), (.int .i64 0), (.int .i64 0), (.int .i64 0), (.int .i64 0), (.bool false), (.slice none 0 0)]) 72 rfl Try.underlying22 info31 rfl (by decide) (by omega) v218 y217 y220 _ _ _ (fun _ => True) (fun k_ => ((fun _ => True)) k_ ∧ some k_ ≠ (v218 : Value).ownBlock) rfl rfl ?aO ?aR (fun _ hk => hk) ?aF ?aB ?aS ?aL ?_
                                        (case aR => exact (by skip; exact Kd.V_F (Kd.V_mono (ok' := (fun k_ => ((fun _ => True)) k_ ∧ some k_ ≠ (v218 : Value).ownBlock)) (by (with_reducible repeat (apply Kd.V_drew)); exact HO224.out) (by exact fun k_ hk => ⟨trivial, hk.2⟩))))
                                        (case aB => exact (by repeat ((with_reducible exact HB.out))))
                                        (case aF => exact (fun _ _ => trivial))
                                        (case aO => exact (by (with_reducible repeat (apply Kd.N_drew)); exact HO219.out))
                                        (case aS => exact (below_size (by repeat ((with_reducible exact HB.out)))))
                                        (case aL => have := LMc50.out; omega)
                                        intro v226 w61 ho hb hg hat
                                        rw [← Ny225.out] at ho
                                        have n0_ := Aside0.mk (Kd.N_afterv (ok := (fun _ => True)) (by (with_reducible repeat (apply Kd.N_drew)); exact HO_9.out) hg hat)
                                        have n1_ := Aside0.mk (Kd.V_afterv (ok := (fun _ => True)) (by (with_reducible repeat (apply Kd.V_drew)); exact HO216.out) hg hat)
                                        have n2_ := Aside0.mk (Kd.V_afterv (ok := (fun _ => True)) (by (with_reducible repeat (apply Kd.V_drew)); exact HO224.out) hg hat)
                                        have n3_ := Aside0.mk (hb)
                                        have n4_ := Aside0.mk (ho)
                                        clear HO_9
                                        clear HO216
                                        clear HO224
                                        clear HB
                                        clear HO219
                                        have HO_9 := n0_
                                        have HO216 := n1_
                                        have HO224 := n2_
                                        have HB := n3_
                                        have HO227 := n4_
                                        clear n0_ n1_ n2_ n3_ n4_
                                        clear ho hb hg hat
                                        refine hK.out _ _ trivial (fun hHeld => ?_)
                                        clear hK K
                                        refine norm_ (a' := ?_) ?_ ?_
                                        rotate_left
                                        · show Act.put _ (some 87) _ = _
                                          simp only [Act.put, List.setIfInBounds_toArray, List.set_cons_zero, List.set_cons_succ, i64_w, i32_w]
                                          rfl
                                        refine pure_ (i := 10) (N := some 13) (v := ?_) (a' := ?_) #[true, true, true, true, true, true, true, true, true, true, true] rfl rfl (any_of HT_.out (by kernel_rfl)) (fun _ _ _ h => h) (Or.inl ⟨by rfl, ?_⟩) ?_ ?_
                                        rotate_left
                                        · intro w'
                                          go_simp
                                          with_reducible rfl
                                        rotate_left
                                        · simp only [Act.put, List.setIfInBounds_toArray, List.set_cons_zero, List.set_cons_succ, i64_w, i32_w]
                                          rfl
                                        refine done_ (done_of HT_.out (by kernel_rfl)) ?_
                                        obtain ⟨Ao62, co62, eo62⟩ := Kd.N_slice HO227.out
                                        subst eo62
                                        try go_wp2_with (first | ((with_reducible refine gate_callee (f := 35) rfl ?_); refine goesL_ (some 91) rfl rfl Try.func35 (by kernel_rfl) rfl #[.slice A0 l0.length c0, .slice Ao62 y225.length co62] rfl (by (try simp only [List.map_toArray, List.map_cons, List.map_nil]); rfl) ?_; (with_reducible refine (delta_Over.calls _ _ l0 _ _ y225 t228 true _ ?side1 ?side2 ?side3 ?side4 A51.out).mono ?_); (case side1 => repeat (exact (Kd.C_below HR0.out HB.out))); (case side2 => exact HC0.out); (case side3 => repeat (exact (Kd.N_reads' HO227.out).2.2)); (case side4 => exact (Kd.N_reads' HO227.out).2.1); rintro e w63 ⟨v230, rfl, ho0, hb⟩; refine ⟨_, rfl, ?_⟩; have n0_ := Aside0.mk (Kd.N_elder' (by (with_reducible repeat (apply Kd.N_drew)); exact HO_9.out) (by exact Kd.R_base ho0) hb); have n1_ := Aside0.mk (Kd.V_elder' (by (with_reducible repeat (apply Kd.V_drew)); exact HO216.out) (by exact Kd.R_base ho0) hb); have n2_ := Aside0.mk (Kd.V_elder' (by (with_reducible repeat (apply Kd.V_drew)); exact HO224.out) (by exact Kd.R_base ho0) hb); have n3_ := Aside0.mk (Kd.N_elder' (by (with_reducible repeat (apply Kd.N_drew)); exact HO227.out) (by exact Kd.R_base ho0) hb); have n4_ := Aside0.mk (Kd.N_lower (Kd.N_mono (ok' := fun k_ => some k_ ≠ (.slice Ao31 t199.length co31 : Value).ownBlock ∧ some k_ ≠ (.slice Ao62 y225.length co62 : Value).ownBlock) (Kd.R_N (Kd.R_bound ho0)) (fun k_ hk_ => ⟨(Kd.fresh' (Kd.N_lt (by (with_reducible repeat (apply Kd.N_drew)); exact HO_9.out)) k_ hk_.2.1), (Kd.fresh' (Kd.N_lt (by (with_reducible repeat (apply Kd.N_drew)); exact HO227.out)) k_ hk_.2.1)⟩)) (below_size (by repeat ((with_reducible exact HB.out))))); have n5_ := Aside0.mk (below_step (by repeat ((with_reducible exact HB.out))) hb); clear HO_9; clear HO216; clear HO224; clear HO227; clear HB; have HO_9 := n0_; have HO216 := n1_; have HO224 := n2_; have HO227 := n3_; have HO231 := n4_; have HB := n5_; clear n0_ n1_ n2_ n3_ n4_ n5_; (try clear hb); (try clear hb2); (try clear hk); (try clear hi); (try clear ho0); obtain ⟨Ao64, co64, eo64⟩ := Kd.N_slice HO231.out; subst eo64) | (go_at_call 36; (with_reducible refine (polyglotlaw08_AllAlike.calls kj38 _ _ t228 _ _ l1 true _ ?side1 ?side2 ?side3 ?side4 A53.out).mono ?_); (case side1 => repeat (exact (Kd.N_reads' HO231.out).2.2)); (case side2 => exact (Kd.N_reads' HO231.out).2.1); (case side3 => repeat (exact (Kd.C_below HR1.out HB.out))); (case side4 => exact HC1.out); rintro e w65 ⟨rfl, hb⟩; have n0_ := Aside0.mk (Kd.N_below (by (with_reducible repeat (apply Kd.N_drew)); exact HO_9.out) hb); have n1_ := Aside0.mk (Kd.V_below (by (with_reducible repeat (apply Kd.V_drew)); exact HO216.out) hb); have n2_ := Aside0.mk (Kd.V_below (by (with_reducible repeat (apply Kd.V_drew)); exact HO224.out) hb); have n3_ := Aside0.mk (Kd.N_below (by (with_reducible repeat (apply Kd.N_drew)); exact HO227.out) hb); have n4_ := Aside0.mk (Kd.N_below (by (with_reducible repeat (apply Kd.N_drew)); exact HO231.out) hb); have n5_ := Aside0.mk (below_step (by repeat ((with_reducible exact HB.out))) hb); clear HO_9; clear HO216; clear HO224; clear HO227; clear HO231; clear HB; have HO_9 := n0_; have HO216 := n1_; have HO224 := n2_; have HO227 := n3_; have HO231 := n4_; have HB := n5_; clear n0_ n1_ n2_ n3_ n4_ n5_; (try clear hb); (try clear hb2); (try clear hk); (try clear hi)))
                                        go_ret
                                        exact ⟨by rfl, by repeat ((with_reducible exact HB.out))⟩
                                      · replace c54 := Bool.eq_false_iff.mpr c54
                                        subst c54
                                        have H1 : ((polyglotlaw14_awake.f).bind fun t233 => (some t233)) = some r := by rw [if_neg (show ¬ (false = true) by decide)] at H; exact H
                                        clear H
                                        have H := H1
                                        clear H1
                                        replace H := Option.bind_eq_some_iff.mp H
                                        obtain ⟨t233, A660, H⟩ := H
                                        replace H : (some t233) = some r := H
                                        have A66 := Aside0.mk A660
                                        clear A660
                                        obtain rfl := Option.some.inj H
                                        try go_wp2
                                        have n0_ := Aside0.mk (Kd.N_drew HO_9.out)
                                        have n1_ := Aside0.mk (below_drew1 HB.out)
                                        clear HO_9
                                        clear HB
                                        have HO_9 := n0_
                                        have HB := n1_
                                        clear n0_ n1_
                                        have q68 : (a2 : Int) ≤ ((t199.length : Int) : Int) := of_decide_eq_true (by (with_reducible assumption))
                                        obtain ⟨i068, hi068, _, hsz68, _⟩ := info_parts info31
                                        have hroom68 : t199.length ≤ co31 := (Kd.N_reads' HO_9.out).2.1
                                        have hC68 : Kd.F k31 _ _ Ao31 t199.length t199 := (Kd.V_at (base := w.heap.size) (Kd.N_V HO_9.out)).2.2
                                        have hcut68 := cut_to (P := Try.prog) 22 31 .i64 Try.underlying22 hi068 Ao31 t199.length co31 a2 (of_decide_eq_true (by (with_reducible assumption))) q68 hroom68
                                        have hr68 := Kd.F_take (m := (a2 : Int).toNat) hC68 (by omega)
                                        have hy68 : y212.length = (a2 : Int).toNat := (by rw [Ny212.out, List.length_take]; omega)
                                        rw [← Ny212.out] at hr68
                                        rw [← hy68] at hcut68
                                        have HO216 := Aside0.mk (show Kd.V k31 31 _ w.heap.size _ (.slice Ao31 y212.length co31) y212 from Kd.V_mk (by omega) hr68)
                                        have HC216 := Aside0.mk (show y212.length ≤ co31 from by omega)
                                        clear hr68 hC68 hroom68 hi068 hsz68
                                        have KY68 := Aside0.mk hy68
                                        clear hy68
                                        replace q68 := eq_true q68
                                        have q69 : ((ji47) : Int) ≤ ((t199.length : Int) : Int) := of_decide_eq_true (by (with_reducible assumption))
                                        obtain ⟨i069, hi069, _, hsz69, _⟩ := info_parts info31
                                        have hroom69 : t199.length ≤ co31 := (Kd.N_reads' HO_9.out).2.1
                                        have hC69 : Kd.F k31 _ _ Ao31 t199.length t199 := (Kd.V_at (base := w.heap.size) (Kd.N_V HO_9.out)).2.2
                                        have q069 : (0 : Int) ≤ ((ji47) : Int) := of_decide_eq_true (by (with_reducible assumption))
                                        have hcut69 := cut_from (P := Try.prog) 22 31 .i64 Try.underlying22 hi069 7 hsz69 Ao31 t199.length co31 (ji47) q069 q69
                                        have hr69 := Kd.F_cut (m := ((ji47) : Int).toNat) (c := co31) hC69 (by omega) hroom69
                                        obtain ⟨A69, hA69⟩ : ∃ A1, A1 = (if co31 = ((ji47) : Int).toNat then Ao31 else (Ao31 : Option Addr).map (·.add (((ji47) : Int).toNat * 7))) := ⟨_, rfl⟩
                                        obtain ⟨c69, hc69⟩ : ∃ c1, c1 = co31 - ((ji47) : Int).toNat := ⟨_, rfl⟩
                                        have hy69 : y220.length = t199.length - ((ji47) : Int).toNat := (by rw [Ny220.out, List.length_drop] <;> omega)
                                        rw [show (t199).drop ((ji47) : Int).toNat = y220 from Ny220.out.symm] at hr69
                                        replace hr69 : Kd.F k31 _ _ A69 y220.length y220 := (by rw [hA69]; exact hr69)
                                        rw [← hy69, ← hA69, ← hc69] at hcut69
                                        have HO224 := Aside0.mk (show Kd.V k31 31 _ w.heap.size _ (.slice A69 y220.length c69) y220 from Kd.V_mk (by rw [hy69, hc69]; exact Nat.sub_le_sub_right hroom69 _) hr69)
                                        have HC224 := Aside0.mk (show y220.length ≤ c69 from by rw [hy69, hc69]; exact Nat.sub_le_sub_right hroom69 _)
                                        clear hr69 hC69 hroom69 hi069 hsz69 hc69
                                        have KY69 := Aside0.mk hy69
                                        have KA69 := Aside0.mk hA69
                                        clear hy69 hA69
                                        replace q69 := eq_true q69
                                        refine start_ (n := 11) (S := fun w' => True) (ds := []) #[false, false, false, false, false, false, false, false, false, false, false] (by kernel_rfl) rfl rfl trivial (fun hHeld => ?_); refine with_tabW polyglotlaw14_DeltaBack.tab14 polyglotlaw14_DeltaBack.bits14 (fun HT_ HW_ => ?_)
                                        generalize wc.drew = w67 at HO_9 HB HO216 HO224 hHeld ⊢
                                        refine pure_ (i := 1) (N := some 79) (v := ?_) (a' := ?_) #[false, true, false, false, false, false, false, false, false, false, false] rfl rfl (any_of HT_.out (by kernel_rfl)) (fun _ _ _ h => h) (Or.inl ⟨by rfl, ?_⟩) ?_ ?_
                                        rotate_left
                                        · intro w'
                                          go_simp
                                          with_reducible rfl
                                        rotate_left
                                        · simp only [Act.put, List.setIfInBounds_toArray, List.set_cons_zero, List.set_cons_succ, i64_w, i32_w]
                                          rfl
                                        refine pure_ (i := 2) (N := some 80) (v := ?_) (a' := ?_) #[false, true, true, false, false, false, false, false, false, false, false] rfl rfl (any_of HT_.out (by kernel_rfl)) (fun _ _ _ h => h) (Or.inl ⟨by rfl, ?_⟩) ?_ ?_
                                        rotate_left
                                        · intro w'
                                          go_simp
                                          with_reducible rfl
                                        rotate_left
                                        · simp only [Act.put, List.setIfInBounds_toArray, List.set_cons_zero, List.set_cons_succ, i64_w, i32_w]
                                          rfl
                                        refine pure_ (i := 3) (N := some 81) (v := ?_) (a' := ?_) #[false, true, true, true, false, false, false, false, false, false, false] rfl rfl (any_of HT_.out (by kernel_rfl)) (fun _ _ _ h => h) (Or.inl ⟨by rfl, ?_⟩) ?_ ?_
                                        rotate_left
                                        · intro w'
                                          go_simp
                                          with_reducible rfl
                                        rotate_left
                                        · simp only [Act.put, List.setIfInBounds_toArray, List.set_cons_zero, List.set_cons_succ, i64_w, i32_w]
                                          rfl
                                        refine pure_ (i := 5) (N := some 83) (v := ?_) (a' := ?_) #[false, true, true, true, false, true, false, false, false, false, false] rfl rfl (any_of HT_.out (by kernel_rfl)) (fun _ _ _ h => h) (Or.inl ⟨by rfl, ?_⟩) ?_ ?_
                                        rotate_left
                                        · intro w'
                                          go_simp
                                          with_reducible rfl
                                        rotate_left
                                        · simp only [Act.put, List.setIfInBounds_toArray, List.set_cons_zero, List.set_cons_succ, i64_w, i32_w]
                                          rfl
                                        refine pure_ (i := 6) (N := some 84) (v := ?_) (a' := ?_) #[false, true, true, true, false, true, true, false, false, false, false] rfl rfl (any_of HT_.out (by kernel_rfl)) (fun _ _ _ h => h) (Or.inl ⟨by rfl, ?_⟩) ?_ ?_
                                        rotate_left
                                        · intro w'
                                          go_simp
                                          with_reducible rfl
                                        rotate_left
                                        · simp only [Act.put, List.setIfInBounds_toArray, List.set_cons_zero, List.set_cons_succ, i64_w, i32_w]
                                          rfl
                                        refine pure_ (i := 7) (N := some 85) (v := ?_) (a' := ?_) #[false, true, true, true, false, true, true, true, false, false, false] rfl rfl (any_of HT_.out (by kernel_rfl)) (fun _ _ _ h => h) (Or.inl ⟨by rfl, ?_⟩) ?_ ?_
                                        rotate_left
                                        · intro w'
                                          go_simp
                                          with_reducible rfl
                                        rotate_left
                                        · simp only [Act.put, List.setIfInBounds_toArray, List.set_cons_zero, List.set_cons_succ, i64_w, i32_w]
                                          rfl
                                        refine pure_ (i := 8) (N := some 86) (v := ?_) (a' := ?_) #[false, true, true, true, false, true, true, true, true, false, false] rfl rfl (any_of HT_.out (by kernel_rfl)) (fun _ _ _ h => h) (Or.inl ⟨by rfl, ?_⟩) ?_ ?_
                                        rotate_left
                                        · intro w'
                                          go_simp
                                          with_reducible rfl
                                        rotate_left
                                        · simp only [Act.put, List.setIfInBounds_toArray, List.set_cons_zero, List.set_cons_succ, i64_w, i32_w]
                                          rfl
                                        refine one_ (i := 0) (N := some 78) #[true, true, true, true, false, true, true, true, true, false, false] rfl rfl (one_of HT_.out (by kernel_rfl)) (by decide) (fun K hK => ?_)
                                        refine Kd.N_lit_step k31 _ 31 ?hg (N' := 78) ?hd (xs := ([] : List (S31))) (inner := []) (ok := (fun k_ => some k_ ≠ (.slice Ao31 t199.length co31 : Value).ownBlock)) (okp := (fun k_ => some k_ ≠ (.slice Ao31 t199.length co31 : Value).ownBlock)) ?hr ?hp (fun _ hk => hk) ((show ∀ k_, w67.heap.size ≤ k_ → (fun k_ => some k_ ≠ (.slice Ao31 t199.length co31 : Value).ownBlock) k_ from fun k_ hk => Kd.fresh' (Kd.N_lt (by (with_reducible repeat (apply Kd.N_drew)); exact HO_9.out)) k_ hk) _ (Nat.le_refl _)) (Below.refl _ _) (Nat.le_refl _) (by simp) ?_; (case hd => rfl); (case hg => rfl); (case hr => (go_simp; done)); (case hp => exact (Reps.none _ _))
                                        intro v210 w70 ho71 hb hg_ hnew_
                                        clear hg_ hnew_
                                        (rw [← Ny209.out] at ho71)
                                        have n0_ := Aside0.mk (Kd.N_elder' (by (with_reducible repeat (apply Kd.N_drew)); exact HO_9.out) (by exact Kd.N_base ho71) hb)
                                        have n1_ := Aside0.mk (Kd.V_elder' (by (with_reducible repeat (apply Kd.V_drew)); exact HO216.out) (by exact Kd.N_base ho71) hb)
                                        have n2_ := Aside0.mk (Kd.V_elder' (by (with_reducible repeat (apply Kd.V_drew)); exact HO224.out) (by exact Kd.N_base ho71) hb)
                                        have n3_ := Aside0.mk (Kd.N_lower ho71 (below_size (by repeat ((with_reducible exact HB.out)))))
                                        have n4_ := Aside0.mk (below_step (by repeat ((with_reducible exact HB.out))) hb)
                                        clear HO_9
                                        clear HO216
                                        clear HO224
                                        clear HB
                                        have HO_9 := n0_
                                        have HO216 := n1_
                                        have HO224 := n2_
                                        have HO211 := n3_
                                        have HB := n4_
                                        clear n0_ n1_ n2_ n3_ n4_
                                        clear hb ho71
                                        refine hK.out _ _ trivial (fun hHeld => ?_)
                                        clear hK K
                                        refine norm_ (a' := ?_) ?_ ?_
                                        rotate_left
                                        · show Act.put _ (some 78) _ = _
                                          simp only [Act.put, List.setIfInBounds_toArray, List.set_cons_zero, List.set_cons_succ, i64_w, i32_w]
                                          rfl
                                        refine one_ (i := 4) (N := some 82) #[true, true, true, true, true, true, true, true, true, false, false] rfl rfl (one_of HT_.out (by kernel_rfl)) (by decide) (fun K hK => ?_)
                                        refine Kd.N_append_rows_step k31 (w0 := w) w.heap.size (by rfl) (.tmp 78) (.tmp 81) 22 31 (.agg #[(.int .i64 0), (.int .i64 0), (.int .i64 0), (.int .i64 0), (.int .i64 0), (.bool false), (.slice none 0 0)]) 72 rfl Try.underlying22 info31 rfl (by decide) (by omega) v210 y209 y212 _ _ _ (fun _ => True) (fun k_ => ((fun _ => True)) k_ ∧ some k_ ≠ (v210 : Value).ownBlock) rfl rfl ?aO ?aR (fun _ hk => hk) ?aF ?aB ?aS ?aL ?_
                                        (case aR => exact (by skip; exact Kd.V_F (Kd.V_mono (ok' := (fun k_ => ((fun _ => True)) k_ ∧ some k_ ≠ (v210 : Value).ownBlock)) (by (with_reducible repeat (apply Kd.V_drew)); exact HO216.out) (by exact fun k_ hk => ⟨trivial, hk.2⟩))))
                                        (case aB => exact (by repeat ((with_reducible exact HB.out))))
                                        (case aF => exact (fun _ _ => trivial))
                                        (case aO => exact (by (with_reducible repeat (apply Kd.N_drew)); exact Kd.N_mono HO211.out (fun _ hk => trivial)))
                                        (case aS => exact (below_size (by repeat ((with_reducible exact HB.out)))))
                                        (case aL => have := LMc46.out; omega)
                                        intro v218 w72 ho hb hg hat
                                        rw [← Ny217.out] at ho
                                        have n0_ := Aside0.mk (Kd.N_afterv (ok := (fun _ => True)) (by (with_reducible repeat (apply Kd.N_drew)); exact HO_9.out) hg hat)
                                        have n1_ := Aside0.mk (Kd.V_afterv (ok := (fun _ => True)) (by (with_reducible repeat (apply Kd.V_drew)); exact HO216.out) hg hat)
                                        have n2_ := Aside0.mk (Kd.V_afterv (ok := (fun _ => True)) (by (with_reducible repeat (apply Kd.V_drew)); exact HO224.out) hg hat)
                                        have n3_ := Aside0.mk (hb)
                                        have n4_ := Aside0.mk (ho)
                                        clear HO_9
                                        clear HO216
                                        clear HO224
                                        clear HB
                                        clear HO211
                                        have HO_9 := n0_
                                        have HO216 := n1_
                                        have HO224 := n2_
                                        have HB := n3_
                                        have HO219 := n4_
                                        clear n0_ n1_ n2_ n3_ n4_
                                        clear ho hb hg hat
                                        refine hK.out _ _ trivial (fun hHeld => ?_)
                                        clear hK K
                                        refine norm_ (a' := ?_) ?_ ?_
                                        rotate_left
                                        · show Act.put _ (some 82) _ = _
                                          simp only [Act.put, List.setIfInBounds_toArray, List.set_cons_zero, List.set_cons_succ, i64_w, i32_w]
                                          rfl
                                        refine one_ (i := 9) (N := some 87) #[true, true, true, true, true, true, true, true, true, true, false] rfl rfl (one_of HT_.out (by kernel_rfl)) (by decide) (fun K hK => ?_)
                                        refine Kd.N_append_rows_step k31 (w0 := w) w.heap.size (by rfl) (.tmp 82) (.tmp 86) 22 31 (.agg #[(.int .i64 0), (.int .i64 0), (.int .i64 0), (.int .i64 0), (.int .i64 0), (.bool false), (.slice none 0 0)]) 72 rfl Try.underlying22 info31 rfl (by decide) (by omega) v218 y217 y220 _ _ _ (fun _ => True) (fun k_ => ((fun _ => True)) k_ ∧ some k_ ≠ (v218 : Value).ownBlock) rfl rfl ?aO ?aR (fun _ hk => hk) ?aF ?aB ?aS ?aL ?_
                                        (case aR => exact (by skip; exact Kd.V_F (Kd.V_mono (ok' := (fun k_ => ((fun _ => True)) k_ ∧ some k_ ≠ (v218 : Value).ownBlock)) (by (with_reducible repeat (apply Kd.V_drew)); exact HO224.out) (by exact fun k_ hk => ⟨trivial, hk.2⟩))))
                                        (case aB => exact (by repeat ((with_reducible exact HB.out))))
                                        (case aF => exact (fun _ _ => trivial))
                                        (case aO => exact (by (with_reducible repeat (apply Kd.N_drew)); exact HO219.out))
                                        (case aS => exact (below_size (by repeat ((with_reducible exact HB.out)))))
                                        (case aL => have := LMc50.out; omega)
                                        intro v226 w73 ho hb hg hat
                                        rw [← Ny225.out] at ho
                                        have n0_ := Aside0.mk (Kd.N_afterv (ok := (fun _ => True)) (by (with_reducible repeat (apply Kd.N_drew)); exact HO_9.out) hg hat)
                                        have n1_ := Aside0.mk (Kd.V_afterv (ok := (fun _ => True)) (by (with_reducible repeat (apply Kd.V_drew)); exact HO216.out) hg hat)
                                        have n2_ := Aside0.mk (Kd.V_afterv (ok := (fun _ => True)) (by (with_reducible repeat (apply Kd.V_drew)); exact HO224.out) hg hat)
                                        have n3_ := Aside0.mk (hb)
                                        have n4_ := Aside0.mk (ho)
                                        clear HO_9
                                        clear HO216
                                        clear HO224
                                        clear HB
                                        clear HO219
                                        have HO_9 := n0_
                                        have HO216 := n1_
                                        have HO224 := n2_
                                        have HB := n3_
                                        have HO227 := n4_
                                        clear n0_ n1_ n2_ n3_ n4_
                                        clear ho hb hg hat
                                        refine hK.out _ _ trivial (fun hHeld => ?_)
                                        clear hK K
                                        refine norm_ (a' := ?_) ?_ ?_
                                        rotate_left
                                        · show Act.put _ (some 87) _ = _
                                          simp only [Act.put, List.setIfInBounds_toArray, List.set_cons_zero, List.set_cons_succ, i64_w, i32_w]
                                          rfl
                                        refine pure_ (i := 10) (N := some 13) (v := ?_) (a' := ?_) #[true, true, true, true, true, true, true, true, true, true, true] rfl rfl (any_of HT_.out (by kernel_rfl)) (fun _ _ _ h => h) (Or.inl ⟨by rfl, ?_⟩) ?_ ?_
                                        rotate_left
                                        · intro w'
                                          go_simp
                                          with_reducible rfl
                                        rotate_left
                                        · simp only [Act.put, List.setIfInBounds_toArray, List.set_cons_zero, List.set_cons_succ, i64_w, i32_w]
                                          rfl
                                        refine done_ (done_of HT_.out (by kernel_rfl)) ?_
                                        obtain ⟨Ao74, co74, eo74⟩ := Kd.N_slice HO227.out
                                        subst eo74
                                        try go_wp2_with (first | ((with_reducible refine gate_callee (f := 35) rfl ?_); refine goesL_ (some 91) rfl rfl Try.func35 (by kernel_rfl) rfl #[.slice A0 l0.length c0, .slice Ao74 y225.length co74] rfl (by (try simp only [List.map_toArray, List.map_cons, List.map_nil]); rfl) ?_; (with_reducible refine (delta_Over.calls _ _ l0 _ _ y225 t228 true _ ?side1 ?side2 ?side3 ?side4 A51.out).mono ?_); (case side1 => repeat (exact (Kd.C_below HR0.out HB.out))); (case side2 => exact HC0.out); (case side3 => repeat (exact (Kd.N_reads' HO227.out).2.2)); (case side4 => exact (Kd.N_reads' HO227.out).2.1); rintro e w75 ⟨v230, rfl, ho0, hb⟩; refine ⟨_, rfl, ?_⟩; have n0_ := Aside0.mk (Kd.N_elder' (by (with_reducible repeat (apply Kd.N_drew)); exact HO_9.out) (by exact Kd.R_base ho0) hb); have n1_ := Aside0.mk (Kd.V_elder' (by (with_reducible repeat (apply Kd.V_drew)); exact HO216.out) (by exact Kd.R_base ho0) hb); have n2_ := Aside0.mk (Kd.V_elder' (by (with_reducible repeat (apply Kd.V_drew)); exact HO224.out) (by exact Kd.R_base ho0) hb); have n3_ := Aside0.mk (Kd.N_elder' (by (with_reducible repeat (apply Kd.N_drew)); exact HO227.out) (by exact Kd.R_base ho0) hb); have n4_ := Aside0.mk (Kd.N_lower (Kd.N_mono (ok' := fun k_ => some k_ ≠ (.slice Ao31 t199.length co31 : Value).ownBlock ∧ some k_ ≠ (.slice Ao74 y225.length co74 : Value).ownBlock) (Kd.R_N (Kd.R_bound ho0)) (fun k_ hk_ => ⟨(Kd.fresh' (Kd.N_lt (by (with_reducible repeat (apply Kd.N_drew)); exact HO_9.out)) k_ hk_.2.1), (Kd.fresh' (Kd.N_lt (by (with_reducible repeat (apply Kd.N_drew)); exact HO227.out)) k_ hk_.2.1)⟩)) (below_size (by repeat ((with_reducible exact HB.out))))); have n5_ := Aside0.mk (below_step (by repeat ((with_reducible exact HB.out))) hb); clear HO_9; clear HO216; clear HO224; clear HO227; clear HB; have HO_9 := n0_; have HO216 := n1_; have HO224 := n2_; have HO227 := n3_; have HO231 := n4_; have HB := n5_; clear n0_ n1_ n2_ n3_ n4_ n5_; (try clear hb); (try clear hb2); (try clear hk); (try clear hi); (try clear ho0); obtain ⟨Ao76, co76, eo76⟩ := Kd.N_slice HO231.out; subst eo76) | (go_at_call 36; (with_reducible refine (polyglotlaw08_AllAlike.calls kj38 _ _ t228 _ _ l1 false _ ?side1 ?side2 ?side3 ?side4 A53.out).mono ?_); (case side1 => repeat (exact (Kd.N_reads' HO231.out).2.2)); (case side2 => exact (Kd.N_reads' HO231.out).2.1); (case side3 => repeat (exact (Kd.C_below HR1.out HB.out))); (case side4 => exact HC1.out); rintro e w77 ⟨rfl, hb⟩; have n0_ := Aside0.mk (Kd.N_below (by (with_reducible repeat (apply Kd.N_drew)); exact HO_9.out) hb); have n1_ := Aside0.mk (Kd.V_below (by (with_reducible repeat (apply Kd.V_drew)); exact HO216.out) hb); have n2_ := Aside0.mk (Kd.V_below (by (with_reducible repeat (apply Kd.V_drew)); exact HO224.out) hb); have n3_ := Aside0.mk (Kd.N_below (by (with_reducible repeat (apply Kd.N_drew)); exact HO227.out) hb); have n4_ := Aside0.mk (Kd.N_below (by (with_reducible repeat (apply Kd.N_drew)); exact HO231.out) hb); have n5_ := Aside0.mk (below_step (by repeat ((with_reducible exact HB.out))) hb); clear HO_9; clear HO216; clear HO224; clear HO227; clear HO231; clear HB; have HO_9 := n0_; have HO216 := n1_; have HO224 := n2_; have HO227 := n3_; have HO231 := n4_; have HB := n5_; clear n0_ n1_ n2_ n3_ n4_ n5_; (try clear hb); (try clear hb2); (try clear hk); (try clear hi)) | (go_at_call 32; (with_reducible refine (polyglotlaw14_awake.calls  t233 _ A66.out).mono ?_); rintro e w78 ⟨rfl, hb⟩; have n0_ := Aside0.mk (Kd.N_below (by (with_reducible repeat (apply Kd.N_drew)); exact HO_9.out) hb); have n1_ := Aside0.mk (Kd.V_below (by (with_reducible repeat (apply Kd.V_drew)); exact HO216.out) hb); have n2_ := Aside0.mk (Kd.V_below (by (with_reducible repeat (apply Kd.V_drew)); exact HO224.out) hb); have n3_ := Aside0.mk (Kd.N_below (by (with_reducible repeat (apply Kd.N_drew)); exact HO227.out) hb); have n4_ := Aside0.mk (Kd.N_below (by (with_reducible repeat (apply Kd.N_drew)); exact HO231.out) hb); have n5_ := Aside0.mk (below_step (by repeat ((with_reducible exact HB.out))) hb); clear HO_9; clear HO216; clear HO224; clear HO227; clear HO231; clear HB; have HO_9 := n0_; have HO216 := n1_; have HO224 := n2_; have HO227 := n3_; have HO231 := n4_; have HB := n5_; clear n0_ n1_ n2_ n3_ n4_ n5_; (try clear hb); (try clear hb2); (try clear hk); (try clear hi)))
                                        go_ret
                                        exact ⟨by rfl, by repeat ((with_reducible exact HB.out))⟩
                                    · replace c52 := Bool.eq_false_iff.mpr c52
                                      subst c52
                                      have H1 : (some false) = some r := by rw [if_neg (show ¬ (false = true) by decide)] at H; exact H
                                      clear H
                                      have H := H1
                                      clear H1
                                      obtain rfl := Option.some.inj H
                                      try go_wp2
                                      have n0_ := Aside0.mk (Kd.N_drew HO_9.out)
                                      have n1_ := Aside0.mk (below_drew1 HB.out)
                                      clear HO_9
                                      clear HB
                                      have HO_9 := n0_
                                      have HB := n1_
                                      clear n0_ n1_
                                      have q80 : (a2 : Int) ≤ ((t199.length : Int) : Int) := of_decide_eq_true (by (with_reducible assumption))
                                      obtain ⟨i080, hi080, _, hsz80, _⟩ := info_parts info31
                                      have hroom80 : t199.length ≤ co31 := (Kd.N_reads' HO_9.out).2.1
                                      have hC80 : Kd.F k31 _ _ Ao31 t199.length t199 := (Kd.V_at (base := w.heap.size) (Kd.N_V HO_9.out)).2.2
                                      have hcut80 := cut_to (P := Try.prog) 22 31 .i64 Try.underlying22 hi080 Ao31 t199.length co31 a2 (of_decide_eq_true (by (with_reducible assumption))) q80 hroom80
                                      have hr80 := Kd.F_take (m := (a2 : Int).toNat) hC80 (by omega)
                                      have hy80 : y212.length = (a2 : Int).toNat := (by rw [Ny212.out, List.length_take]; omega)
                                      rw [← Ny212.out] at hr80
                                      rw [← hy80] at hcut80
                                      have HO216 := Aside0.mk (show Kd.V k31 31 _ w.heap.size _ (.slice Ao31 y212.length co31) y212 from Kd.V_mk (by omega) hr80)
                                      have HC216 := Aside0.mk (show y212.length ≤ co31 from by omega)
                                      clear hr80 hC80 hroom80 hi080 hsz80
                                      have KY80 := Aside0.mk hy80
                                      clear hy80
                                      replace q80 := eq_true q80
                                      have q81 : ((ji47) : Int) ≤ ((t199.length : Int) : Int) := of_decide_eq_true (by (with_reducible assumption))
                                      obtain ⟨i081, hi081, _, hsz81, _⟩ := info_parts info31
                                      have hroom81 : t199.length ≤ co31 := (Kd.N_reads' HO_9.out).2.1
                                      have hC81 : Kd.F k31 _ _ Ao31 t199.length t199 := (Kd.V_at (base := w.heap.size) (Kd.N_V HO_9.out)).2.2
                                      have q081 : (0 : Int) ≤ ((ji47) : Int) := of_decide_eq_true (by (with_reducible assumption))
                                      have hcut81 := cut_from (P := Try.prog) 22 31 .i64 Try.underlying22 hi081 7 hsz81 Ao31 t199.length co31 (ji47) q081 q81
                                      have hr81 := Kd.F_cut (m := ((ji47) : Int).toNat) (c := co31) hC81 (by omega) hroom81
                                      obtain ⟨A81, hA81⟩ : ∃ A1, A1 = (if co31 = ((ji47) : Int).toNat then Ao31 else (Ao31 : Option Addr).map (·.add (((ji47) : Int).toNat * 7))) := ⟨_, rfl⟩
                                      obtain ⟨c81, hc81⟩ : ∃ c1, c1 = co31 - ((ji47) : Int).toNat := ⟨_, rfl⟩
                                      have hy81 : y220.length = t199.length - ((ji47) : Int).toNat := (by rw [Ny220.out, List.length_drop] <;> omega)
                                      rw [show (t199).drop ((ji47) : Int).toNat = y220 from Ny220.out.symm] at hr81
                                      replace hr81 : Kd.F k31 _ _ A81 y220.length y220 := (by rw [hA81]; exact hr81)
                                      rw [← hy81, ← hA81, ← hc81] at hcut81
                                      have HO224 := Aside0.mk (show Kd.V k31 31 _ w.heap.size _ (.slice A81 y220.length c81) y220 from Kd.V_mk (by rw [hy81, hc81]; exact Nat.sub_le_sub_right hroom81 _) hr81)
                                      have HC224 := Aside0.mk (show y220.length ≤ c81 from by rw [hy81, hc81]; exact Nat.sub_le_sub_right hroom81 _)
                                      clear hr81 hC81 hroom81 hi081 hsz81 hc81
                                      have KY81 := Aside0.mk hy81
                                      have KA81 := Aside0.mk hA81
                                      clear hy81 hA81
                                      replace q81 := eq_true q81
                                      refine start_ (n := 11) (S := fun w' => True) (ds := []) #[false, false, false, false, false, false, false, false, false, false, false] (by kernel_rfl) rfl rfl trivial (fun hHeld => ?_); refine with_tabW polyglotlaw14_DeltaBack.tab14 polyglotlaw14_DeltaBack.bits14 (fun HT_ HW_ => ?_)
                                      generalize wc.drew = w79 at HO_9 HB HO216 HO224 hHeld ⊢
                                      refine pure_ (i := 1) (N := some 79) (v := ?_) (a' := ?_) #[false, true, false, false, false, false, false, false, false, false, false] rfl rfl (any_of HT_.out (by kernel_rfl)) (fun _ _ _ h => h) (Or.inl ⟨by rfl, ?_⟩) ?_ ?_
                                      rotate_left
                                      · intro w'
                                        go_simp
                                        with_reducible rfl
                                      rotate_left
                                      · simp only [Act.put, List.setIfInBounds_toArray, List.set_cons_zero, List.set_cons_succ, i64_w, i32_w]
                                        rfl
                                      refine pure_ (i := 2) (N := some 80) (v := ?_) (a' := ?_) #[false, true, true, false, false, false, false, false, false, false, false] rfl rfl (any_of HT_.out (by kernel_rfl)) (fun _ _ _ h => h) (Or.inl ⟨by rfl, ?_⟩) ?_ ?_
                                      rotate_left
                                      · intro w'
                                        go_simp
                                        with_reducible rfl
                                      rotate_left
                                      · simp only [Act.put, List.setIfInBounds_toArray, List.set_cons_zero, List.set_cons_succ, i64_w, i32_w]
                                        rfl
                                      refine pure_ (i := 3) (N := some 81) (v := ?_) (a' := ?_) #[false, true, true, true, false, false, false, false, false, false, false] rfl rfl (any_of HT_.out (by kernel_rfl)) (fun _ _ _ h => h) (Or.inl ⟨by rfl, ?_⟩) ?_ ?_
                                      rotate_left
                                      · intro w'
                                        go_simp
                                        with_reducible rfl
                                      rotate_left
                                      · simp only [Act.put, List.setIfInBounds_toArray, List.set_cons_zero, List.set_cons_succ, i64_w, i32_w]
                                        rfl
                                      refine pure_ (i := 5) (N := some 83) (v := ?_) (a' := ?_) #[false, true, true, true, false, true, false, false, false, false, false] rfl rfl (any_of HT_.out (by kernel_rfl)) (fun _ _ _ h => h) (Or.inl ⟨by rfl, ?_⟩) ?_ ?_
                                      rotate_left
                                      · intro w'
                                        go_simp
                                        with_reducible rfl
                                      rotate_left
                                      · simp only [Act.put, List.setIfInBounds_toArray, List.set_cons_zero, List.set_cons_succ, i64_w, i32_w]
                                        rfl
                                      refine pure_ (i := 6) (N := some 84) (v := ?_) (a' := ?_) #[false, true, true, true, false, true, true, false, false, false, false] rfl rfl (any_of HT_.out (by kernel_rfl)) (fun _ _ _ h => h) (Or.inl ⟨by rfl, ?_⟩) ?_ ?_
                                      rotate_left
                                      · intro w'
                                        go_simp
                                        with_reducible rfl
                                      rotate_left
                                      · simp only [Act.put, List.setIfInBounds_toArray, List.set_cons_zero, List.set_cons_succ, i64_w, i32_w]
                                        rfl
                                      refine pure_ (i := 7) (N := some 85) (v := ?_) (a' := ?_) #[false, true, true, true, false, true, true, true, false, false, false] rfl rfl (any_of HT_.out (by kernel_rfl)) (fun _ _ _ h => h) (Or.inl ⟨by rfl, ?_⟩) ?_ ?_
                                      rotate_left
                                      · intro w'
                                        go_simp
                                        with_reducible rfl
                                      rotate_left
                                      · simp only [Act.put, List.setIfInBounds_toArray, List.set_cons_zero, List.set_cons_succ, i64_w, i32_w]
                                        rfl
                                      refine pure_ (i := 8) (N := some 86) (v := ?_) (a' := ?_) #[false, true, true, true, false, true, true, true, true, false, false] rfl rfl (any_of HT_.out (by kernel_rfl)) (fun _ _ _ h => h) (Or.inl ⟨by rfl, ?_⟩) ?_ ?_
                                      rotate_left
                                      · intro w'
                                        go_simp
                                        with_reducible rfl
                                      rotate_left
                                      · simp only [Act.put, List.setIfInBounds_toArray, List.set_cons_zero, List.set_cons_succ, i64_w, i32_w]
                                        rfl
                                      refine one_ (i := 0) (N := some 78) #[true, true, true, true, false, true, true, true, true, false, false] rfl rfl (one_of HT_.out (by kernel_rfl)) (by decide) (fun K hK => ?_)
                                      refine Kd.N_lit_step k31 _ 31 ?hg (N' := 78) ?hd (xs := ([] : List (S31))) (inner := []) (ok := (fun k_ => some k_ ≠ (.slice Ao31 t199.length co31 : Value).ownBlock)) (okp := (fun k_ => some k_ ≠ (.slice Ao31 t199.length co31 : Value).ownBlock)) ?hr ?hp (fun _ hk => hk) ((show ∀ k_, w79.heap.size ≤ k_ → (fun k_ => some k_ ≠ (.slice Ao31 t199.length co31 : Value).ownBlock) k_ from fun k_ hk => Kd.fresh' (Kd.N_lt (by (with_reducible repeat (apply Kd.N_drew)); exact HO_9.out)) k_ hk) _ (Nat.le_refl _)) (Below.refl _ _) (Nat.le_refl _) (by simp) ?_; (case hd => rfl); (case hg => rfl); (case hr => (go_simp; done)); (case hp => exact (Reps.none _ _))
                                      intro v210 w82 ho83 hb hg_ hnew_
                                      clear hg_ hnew_
                                      (rw [← Ny209.out] at ho83)
                                      have n0_ := Aside0.mk (Kd.N_elder' (by (with_reducible repeat (apply Kd.N_drew)); exact HO_9.out) (by exact Kd.N_base ho83) hb)
                                      have n1_ := Aside0.mk (Kd.V_elder' (by (with_reducible repeat (apply Kd.V_drew)); exact HO216.out) (by exact Kd.N_base ho83) hb)
                                      have n2_ := Aside0.mk (Kd.V_elder' (by (with_reducible repeat (apply Kd.V_drew)); exact HO224.out) (by exact Kd.N_base ho83) hb)
                                      have n3_ := Aside0.mk (Kd.N_lower ho83 (below_size (by repeat ((with_reducible exact HB.out)))))
                                      have n4_ := Aside0.mk (below_step (by repeat ((with_reducible exact HB.out))) hb)
                                      clear HO_9
                                      clear HO216
                                      clear HO224
                                      clear HB
                                      have HO_9 := n0_
                                      have HO216 := n1_
                                      have HO224 := n2_
                                      have HO211 := n3_
                                      have HB := n4_
                                      clear n0_ n1_ n2_ n3_ n4_
                                      clear hb ho83
                                      refine hK.out _ _ trivial (fun hHeld => ?_)
                                      clear hK K
                                      refine norm_ (a' := ?_) ?_ ?_
                                      rotate_left
                                      · show Act.put _ (some 78) _ = _
                                        simp only [Act.put, List.setIfInBounds_toArray, List.set_cons_zero, List.set_cons_succ, i64_w, i32_w]
                                        rfl
                                      refine one_ (i := 4) (N := some 82) #[true, true, true, true, true, true, true, true, true, false, false] rfl rfl (one_of HT_.out (by kernel_rfl)) (by decide) (fun K hK => ?_)
                                      refine Kd.N_append_rows_step k31 (w0 := w) w.heap.size (by rfl) (.tmp 78) (.tmp 81) 22 31 (.agg #[(.int .i64 0), (.int .i64 0), (.int .i64 0), (.int .i64 0), (.int .i64 0), (.bool false), (.slice none 0 0)]) 72 rfl Try.underlying22 info31 rfl (by decide) (by omega) v210 y209 y212 _ _ _ (fun _ => True) (fun k_ => ((fun _ => True)) k_ ∧ some k_ ≠ (v210 : Value).ownBlock) rfl rfl ?aO ?aR (fun _ hk => hk) ?aF ?aB ?aS ?aL ?_
                                      (case aR => exact (by skip; exact Kd.V_F (Kd.V_mono (ok' := (fun k_ => ((fun _ => True)) k_ ∧ some k_ ≠ (v210 : Value).ownBlock)) (by (with_reducible repeat (apply Kd.V_drew)); exact HO216.out) (by exact fun k_ hk => ⟨trivial, hk.2⟩))))
                                      (case aB => exact (by repeat ((with_reducible exact HB.out))))
                                      (case aF => exact (fun _ _ => trivial))
                                      (case aO => exact (by (with_reducible repeat (apply Kd.N_drew)); exact Kd.N_mono HO211.out (fun _ hk => trivial)))
                                      (case aS => exact (below_size (by repeat ((with_reducible exact HB.out)))))
                                      (case aL => have := LMc46.out; omega)
                                      intro v218 w84 ho hb hg hat
                                      rw [← Ny217.out] at ho
                                      have n0_ := Aside0.mk (Kd.N_afterv (ok := (fun _ => True)) (by (with_reducible repeat (apply Kd.N_drew)); exact HO_9.out) hg hat)
                                      have n1_ := Aside0.mk (Kd.V_afterv (ok := (fun _ => True)) (by (with_reducible repeat (apply Kd.V_drew)); exact HO216.out) hg hat)
                                      have n2_ := Aside0.mk (Kd.V_afterv (ok := (fun _ => True)) (by (with_reducible repeat (apply Kd.V_drew)); exact HO224.out) hg hat)
                                      have n3_ := Aside0.mk (hb)
                                      have n4_ := Aside0.mk (ho)
                                      clear HO_9
                                      clear HO216
                                      clear HO224
                                      clear HB
                                      clear HO211
                                      have HO_9 := n0_
                                      have HO216 := n1_
                                      have HO224 := n2_
                                      have HB := n3_
                                      have HO219 := n4_
                                      clear n0_ n1_ n2_ n3_ n4_
                                      clear ho hb hg hat
                                      refine hK.out _ _ trivial (fun hHeld => ?_)
                                      clear hK K
                                      refine norm_ (a' := ?_) ?_ ?_
                                      rotate_left
                                      · show Act.put _ (some 82) _ = _
                                        simp only [Act.put, List.setIfInBounds_toArray, List.set_cons_zero, List.set_cons_succ, i64_w, i32_w]
                                        rfl
                                      refine one_ (i := 9) (N := some 87) #[true, true, true, true, true, true, true, true, true, true, false] rfl rfl (one_of HT_.out (by kernel_rfl)) (by decide) (fun K hK => ?_)
                                      refine Kd.N_append_rows_step k31 (w0 := w) w.heap.size (by rfl) (.tmp 82) (.tmp 86) 22 31 (.agg #[(.int .i64 0), (.int .i64 0), (.int .i64 0), (.int .i64 0), (.int .i64 0), (.bool false), (.slice none 0 0)]) 72 rfl Try.underlying22 info31 rfl (by decide) (by omega) v218 y217 y220 _ _ _ (fun _ => True) (fun k_ => ((fun _ => True)) k_ ∧ some k_ ≠ (v218 : Value).ownBlock) rfl rfl ?aO ?aR (fun _ hk => hk) ?aF ?aB ?aS ?aL ?_
                                      (case aR => exact (by skip; exact Kd.V_F (Kd.V_mono (ok' := (fun k_ => ((fun _ => True)) k_ ∧ some k_ ≠ (v218 : Value).ownBlock)) (by (with_reducible repeat (apply Kd.V_drew)); exact HO224.out) (by exact fun k_ hk => ⟨trivial, hk.2⟩))))
                                      (case aB => exact (by repeat ((with_reducible exact HB.out))))
                                      (case aF => exact (fun _ _ => trivial))
                                      (case aO => exact (by (with_reducible repeat (apply Kd.N_drew)); exact HO219.out))
                                      (case aS => exact (below_size (by repeat ((with_reducible exact HB.out)))))
                                      (case aL => have := LMc50.out; omega)
                                      intro v226 w85 ho hb hg hat
                                      rw [← Ny225.out] at ho
                                      have n0_ := Aside0.mk (Kd.N_afterv (ok := (fun _ => True)) (by (with_reducible repeat (apply Kd.N_drew)); exact HO_9.out) hg hat)
                                      have n1_ := Aside0.mk (Kd.V_afterv (ok := (fun _ => True)) (by (with_reducible repeat (apply Kd.V_drew)); exact HO216.out) hg hat)
                                      have n2_ := Aside0.mk (Kd.V_afterv (ok := (fun _ => True)) (by (with_reducible repeat (apply Kd.V_drew)); exact HO224.out) hg hat)
                                      have n3_ := Aside0.mk (hb)
                                      have n4_ := Aside0.mk (ho)
                                      clear HO_9
                                      clear HO216
                                      clear HO224
                                      clear HB
                                      clear HO219
                                      have HO_9 := n0_
                                      have HO216 := n1_
                                      have HO224 := n2_
                                      have HB := n3_
                                      have HO227 := n4_
                                      clear n0_ n1_ n2_ n3_ n4_
                                      clear ho hb hg hat
                                      refine hK.out _ _ trivial (fun hHeld => ?_)
                                      clear hK K
                                      refine norm_ (a' := ?_) ?_ ?_
                                      rotate_left
                                      · show Act.put _ (some 87) _ = _
                                        simp only [Act.put, List.setIfInBounds_toArray, List.set_cons_zero, List.set_cons_succ, i64_w, i32_w]
                                        rfl
                                      refine pure_ (i := 10) (N := some 13) (v := ?_) (a' := ?_) #[true, true, true, true, true, true, true, true, true, true, true] rfl rfl (any_of HT_.out (by kernel_rfl)) (fun _ _ _ h => h) (Or.inl ⟨by rfl, ?_⟩) ?_ ?_
                                      rotate_left
                                      · intro w'
                                        go_simp
                                        with_reducible rfl
                                      rotate_left
                                      · simp only [Act.put, List.setIfInBounds_toArray, List.set_cons_zero, List.set_cons_succ, i64_w, i32_w]
                                        rfl
                                      refine done_ (done_of HT_.out (by kernel_rfl)) ?_
                                      obtain ⟨Ao86, co86, eo86⟩ := Kd.N_slice HO227.out
                                      subst eo86
                                      try go_wp2_with (((with_reducible refine gate_callee (f := 35) rfl ?_); refine goesL_ (some 91) rfl rfl Try.func35 (by kernel_rfl) rfl #[.slice A0 l0.length c0, .slice Ao86 y225.length co86] rfl (by (try simp only [List.map_toArray, List.map_cons, List.map_nil]); rfl) ?_; (with_reducible refine (delta_Over.calls _ _ l0 _ _ y225 t228 false _ ?side1 ?side2 ?side3 ?side4 A51.out).mono ?_); (case side1 => repeat (exact (Kd.C_below HR0.out HB.out))); (case side2 => exact HC0.out); (case side3 => repeat (exact (Kd.N_reads' HO227.out).2.2)); (case side4 => exact (Kd.N_reads' HO227.out).2.1); rintro e w87 ⟨v230, rfl, ho0, hb⟩; refine ⟨_, rfl, ?_⟩; have n0_ := Aside0.mk (Kd.N_elder' (by (with_reducible repeat (apply Kd.N_drew)); exact HO_9.out) (by exact Kd.R_base ho0) hb); have n1_ := Aside0.mk (Kd.V_elder' (by (with_reducible repeat (apply Kd.V_drew)); exact HO216.out) (by exact Kd.R_base ho0) hb); have n2_ := Aside0.mk (Kd.V_elder' (by (with_reducible repeat (apply Kd.V_drew)); exact HO224.out) (by exact Kd.R_base ho0) hb); have n3_ := Aside0.mk (Kd.N_elder' (by (with_reducible repeat (apply Kd.N_drew)); exact HO227.out) (by exact Kd.R_base ho0) hb); have n4_ := Aside0.mk (Kd.N_lower (Kd.N_mono (ok' := fun k_ => some k_ ≠ (.slice Ao31 t199.length co31 : Value).ownBlock ∧ some k_ ≠ (.slice Ao86 y225.length co86 : Value).ownBlock) (Kd.R_N (Kd.R_bound ho0)) (fun k_ hk_ => ⟨(Kd.fresh' (Kd.N_lt (by (with_reducible repeat (apply Kd.N_drew)); exact HO_9.out)) k_ hk_.2.1), (Kd.fresh' (Kd.N_lt (by (with_reducible repeat (apply Kd.N_drew)); exact HO227.out)) k_ hk_.2.1)⟩)) (below_size (by repeat ((with_reducible exact HB.out))))); have n5_ := Aside0.mk (below_step (by repeat ((with_reducible exact HB.out))) hb); clear HO_9; clear HO216; clear HO224; clear HO227; clear HB; have HO_9 := n0_; have HO216 := n1_; have HO224 := n2_; have HO227 := n3_; have HO231 := n4_; have HB := n5_; clear n0_ n1_ n2_ n3_ n4_ n5_; (try clear hb); (try clear hb2); (try clear hk); (try clear hi); (try clear ho0)))
                                      go_ret
                                      exact ⟨by rfl, by repeat ((with_reducible exact HB.out))⟩
                                  · rw [if_neg c50] at H
                                    exact absurd H (by simp)
                                · rw [if_neg c49] at H
                                  exact absurd H (by simp)
                              · rw [if_neg c48] at H
                                exact absurd H (by simp)
                            · rw [if_neg c46] at H
                              exact absurd H (by simp)
                          · rw [if_neg c45] at H
                            exact absurd H (by simp)
                        · rw [if_neg c44] at H
                          exact absurd H (by simp)
        · replace c19 := Bool.eq_false_iff.mpr c19
          subst c19
          have H1 : (some false) = some r := by rw [if_neg (show ¬ (false = true) by decide)] at H; exact H
          clear H
          have H := H1
          clear H1
          obtain rfl := Option.some.inj H
          go_wp2_with (((with_reducible refine gate_callee (f := 33) rfl ?_); refine goesL_ (some 36) rfl rfl Try.func33 (by kernel_rfl) rfl #[.slice A0 l0.length c0, .slice A1 l1.length c1] rfl (by (try simp only [List.map_toArray, List.map_cons, List.map_nil]); rfl) ?_; (with_reducible refine (delta_Gone.calls _ _ l0 _ _ l1 t194 false _ ?side1 ?side2 ?side3 ?side4 A18.out).mono ?_); (case side1 => repeat (exact (Kd.C_below HR0.out HB.out))); (case side2 => exact HC0.out); (case side3 => repeat (exact (Kd.C_below HR1.out HB.out))); (case side4 => exact HC1.out); rintro e w88 ⟨v196, rfl, ho0, hb⟩; refine ⟨_, rfl, ?_⟩; have n0_ := Aside0.mk (Kd.R_lower ho0 (below_size (by repeat ((with_reducible exact HB.out))))); have n1_ := Aside0.mk (below_step (by repeat ((with_reducible exact HB.out))) hb); clear HB; have HO197 := n0_; have HB := n1_; clear n0_ n1_; (try clear hb); (try clear hb2); (try clear hk); (try clear hi); (try clear ho0)))
          go_ret
          exact ⟨by rfl, by repeat ((with_reducible exact HB.out))⟩

end Go.Proofs.Ythajahdjkmfnnaa.DB
