-- Printed by a program of this session (wip/pp.py) over the kit's printer, with functions proved by hand among them.
import Derived.Test.YthajahdjkmfnnaaDLx0
import Derived.Test.YthajahdjkmfnnaaDLx2
namespace Go.Proofs.Ythajahdjkmfnnaa.DL
open Go.RowKit Go.Proofs.YthajahdjkmfnnaaW.PrintWords Go.Proofs.YthajahdjkmfnnaaW.PrintLast Go.Proofs.YthajahdjkmfnnaaW.PrintMore
attribute [local go_sem] max2_int min2_int max_two min_two max_three min_three max_four min_four   -- for this text's walks alone
set_option linter.unusedVariables false
set_option linter.unusedSimpArgs false

/-! ### api_Rec_143: function 143 -/
set_option maxHeartbeats 2000000 in
set_option maxRecDepth 100000 in
theorem side31.calls (F : FuncId) (E : Option S31 → Option S31 → Option S31) (w0 : World) (a b : List S31)
    (hF : ∀ (args : Array Value) (W : World), (callFunc F args).run Try.prog W = .ok (.enter F args) W)
    (hclos : ∀ (x y : Option S31) (px py : Option Addr) (W : World), ¬ (x = none ∧ y = none) → PtrTo w0 x px → PtrTo w0 y py → Below w0.heap.size w0 W → (∀ u, x = some u → u ∈ a) → (∀ u, y = some u → u ∈ b) →
      Calls Try.prog F #[.pointer px, .pointer py] W (ClosR E w0 x y W))
    (A0 A1 : Option Addr) (c0 c1 : Nat) (hr0 : Kd.C k31 w0 A0 a.length a) (hc0 : a.length ≤ c0) (hr1 : Kd.C k31 w0 A1 b.length b) (hc1 : b.length ≤ c1) (hlen : a.length + b.length < 1954687338268)
    (w : World) (hB : Below w0.heap.size w0 w) :
    Calls Try.prog 143 #[.slice A0 a.length c0, .slice A1 b.length c1, .func (.func F) #[] #[]] w fun e w' => ∃ v, e = .returned v ∧ Kd.R (Kd.fixed k31 w0) 31 w' w.heap.size (fun _ => True) v (sideP E a b) ∧ Below w.heap.size w w' := by
  have HC := Aside0.mk hclos
  have HB0 := Aside0.mk hB
  obtain ⟨K, hK⟩ : ∃ K, K = a.length + b.length := ⟨_, rfl⟩
  have R0 : ∃ (Aa Ab : Option Addr) (ca cb : Nat), (Value.slice A0 a.length c0 = .slice Aa a.length ca) ∧ (Value.slice A1 b.length c1 = .slice Ab b.length cb) ∧ a.length + b.length ≤ K ∧ K ≤ K ∧ Kd.C k31 w0 Aa a.length a ∧ a.length ≤ ca ∧ Kd.C k31 w0 Ab b.length b ∧ b.length ≤ cb := ⟨A0, A1, c0, c1, rfl, rfl, by omega, Nat.le_refl _, hr0, hc0, hr1, hc1⟩
  have hu31 := Try.underlying31
  clear hclos hB hr0 hr1
  have HR0 := Aside0.mk R0
  have HK := Aside0.mk hK
  clear R0 hK
  go_enter Try.func143, Try.ntmps143
  go_wp2
  go_loopg [0, 1, 7] K (fun kq v0 v1 v7 wr => ∃ (la lb acc : List S31) (Aa Ab : Option Addr) (ca cb : Nat), v0 = .slice Aa la.length ca ∧ v1 = .slice Ab lb.length cb ∧ Aside0 (la.length + lb.length ≤ kq ∧ kq ≤ K) ∧ Aside0 (acc ++ (pairsF kq la lb).filterMap (fun p => E p.1 p.2) = sideP E a b) ∧ Aside0 ((∀ u ∈ la, u ∈ a) ∧ ∀ u ∈ lb, u ∈ b) ∧ Aside0 (acc.length + la.length + lb.length ≤ K) ∧ Aside0 (Kd.C k31 w0 Aa la.length la ∧ la.length ≤ ca) ∧ Aside0 (Kd.C k31 w0 Ab lb.length lb ∧ lb.length ≤ cb) ∧ Aside0 (Kd.R (Kd.fixed k31 w0) 31 wr w.heap.size (fun _ => True) v7 acc) ∧ Aside0 (Below w.heap.size w wr))
  case atStart =>
    obtain ⟨Aa, Ab, ca, cb, e1, e2, hk, hkk, h1, h2, h3, h4⟩ := HR0.out
    exact ⟨a, b, [], Aa, Ab, ca, cb, e1, e2, ⟨hk, hkk⟩, ⟨by rw [HK.out]; rfl⟩, ⟨fun _ h => h, fun _ h => h⟩, ⟨by simpa using hk⟩, ⟨h1, h2⟩, ⟨h3, h4⟩, ⟨Kd.R_nil _ _ _ _ _⟩, ⟨Below.refl _ _⟩⟩
  case round =>
    obtain ⟨la, lb, acc, Aa, Ab, ca, cb, rfl, rfl, HKQ, HE, HM, HL, HA, HBb, HO, HB⟩ := hrel
    clear HR0
    obtain ⟨i0, hi0, _, hsz, _⟩ := info_parts info31
    rcases la with _ | ⟨x, xs⟩
    · rcases lb with _ | ⟨y, ys⟩
      · have hE := HE.out
        have : pairsF gk [] [] = [] := by cases gk <;> rfl
        rw [this] at hE
        simp only [List.filterMap_nil, List.append_nil] at hE
        have HE2 := Aside0.mk hE
        clear hE this HE
        go_wp2
        go_ret
        exact ⟨_, rfl, by rw [← HE2.out]; exact HO.out, HB.out⟩
      · obtain ⟨bd, rfl, py, y0⟩ := head31 HBb.out.1
        replace y0 := (HB.out.cell (World.block_lt_of_cell? w _ ((HB0.out.cell (World.block_lt_of_cell? w0 _ y0)).trans y0))).trans ((HB0.out.cell (World.block_lt_of_cell? w0 _ y0)).trans y0)
        have PY := Aside0.mk py
        clear py
        have hlt := trivial
        have hgt := trivial
        have b3 : ((ys.length : Int) + 1 == 0) = false := by simp; omega
        have hps : pairsF gk [] (y :: ys) = (none, (some y)) :: pairsF (gk - 1) [] ys := by rw [pairsF_step gk _ _ HKQ.out.1]; try simp [hlt, hgt]
        have HE2 := HE.out
        rw [hps, List.filterMap_cons] at HE2
        dsimp only at HE2
        clear hps HE
        have hcB := HBb.out.2
        obtain ⟨B', hcutB, hB'⟩ : ∃ B', (∀ W : World, (Instr.slice 22 (.slice (some bd) (ys.length + 1) cb) (some (.int .i64 1)) none none).run Try.prog W = .ok (.slice B' ys.length (cb - 1)) W) ∧ Kd.C k31 w0 B' ys.length ys := ⟨_, cut_from (P := Try.prog) 22 31 .i64 Try.underlying22 hi0 7 hsz (some bd) (ys.length + 1) cb 1 (by omega) (by omega), Kd.C_drop (m := 1) (c := cb) HBb.out.1 (by simp) HBb.out.2⟩
        have HNB := Aside0.mk hB'
        clear hcB hB'
        rcases hE : E none (some y) with _ | tt
        · rw [hE] at HE2
          dsimp only at HE2
          have HE3 := Aside0.mk HE2
          have HEE := Aside0.mk hE
          clear HE2 hE
          go_wp2
          go_quiet (fail)
          go_wp2
          go_quiet (fail)
          go_wp2_with fail
          generalize hW : wr.drewN _ = W
          have HP : Aside0 (Below w0.heap.size w0 W) := ⟨by rw [← hW]; exact below_then HB0.out HB0.out.size (pw_below_drewN HB.out _)⟩
          have HBW : Aside0 (Below w.heap.size w W) := ⟨by rw [← hW]; exact pw_below_drewN HB.out _⟩
          have HOW : Aside0 ((Kd.fixed k31 w0).R 31 W w.heap.size (fun _ => True) u7 acc) := ⟨by rw [← hW]; exact Kd.R_drewN HO.out _⟩
          clear hW HO HB
          (with_reducible refine (HC.out none (some y) none (some bd) _ ?h1 (PtrTo.nil _) PY.out ?h2 (fun u hu => by cases hu) (fun u hu => by cases hu; exact HM.out.2 _ List.mem_cons_self)).mono ?_); (case h1 => simp); (case h2 => exact HP.out); rintro e w2 ⟨tq, T6, t6, rfl, ht, htl, htC, hb⟩; rw [HEE.out]; clear ht; (have HT := Aside0.mk htC); (have HTL := Aside0.mk htl); (have HB2 := Aside0.mk hb); clear htC htl hb
          go_wp2
          go_roundg (gk - 1)
          case measure => have := HKQ.out.1; simp only [List.length_cons, List.length_nil] at this; omega
          case rel => exact ⟨[], ys, acc, _, _, _, _, rfl, rfl, ⟨by have := HKQ.out; simp only [List.length_cons, List.length_nil, List.length_append] at this ⊢; omega⟩, HE3, ⟨HM.out.1, fun u hu => HM.out.2 u (List.mem_cons_of_mem _ hu)⟩, ⟨by have := HL.out; simp only [List.length_cons, List.length_nil, List.length_append] at this ⊢; omega⟩, ⟨HA.out.1, by have := HA.out.2; simp only [List.length_cons, List.length_nil] at this ⊢; omega⟩, ⟨HNB.out, by have := HBb.out.2; simp only [List.length_cons, List.length_nil] at this ⊢; omega⟩, ⟨Kd.R_alloc (Kd.R_below HOW.out HB2.out) _⟩, ⟨below_alloc (below_then HBW.out HBW.out.size HB2.out) _⟩⟩
        · rw [hE] at HE2
          dsimp only at HE2
          have HE3 := Aside0.mk HE2
          have HEE := Aside0.mk hE
          clear HE2 hE
          go_wp2
          go_quiet (fail)
          go_wp2
          go_quiet (fail)
          go_wp2_with fail
          generalize hW : wr.drewN _ = W
          have HP : Aside0 (Below w0.heap.size w0 W) := ⟨by rw [← hW]; exact below_then HB0.out HB0.out.size (pw_below_drewN HB.out _)⟩
          have HBW : Aside0 (Below w.heap.size w W) := ⟨by rw [← hW]; exact pw_below_drewN HB.out _⟩
          have HOW : Aside0 ((Kd.fixed k31 w0).R 31 W w.heap.size (fun _ => True) u7 acc) := ⟨by rw [← hW]; exact Kd.R_drewN HO.out _⟩
          clear hW HO HB
          (with_reducible refine (HC.out none (some y) none (some bd) _ ?h1 (PtrTo.nil _) PY.out ?h2 (fun u hu => by cases hu) (fun u hu => by cases hu; exact HM.out.2 _ List.mem_cons_self)).mono ?_); (case h1 => simp); (case h2 => exact HP.out); rintro e w2 ⟨tq, T6, t6, rfl, ht, htl, htC, hb⟩; rw [HEE.out]; obtain rfl := ht _ HEE.out; clear ht; (have HT := Aside0.mk htC); (have HTL := Aside0.mk htl); (have HB2 := Aside0.mk hb); clear htC htl hb
          go_wp2_with (first | ((with_reducible refine gate_builtin (b := .append) (xs := #[.tmp 70, .tmp 72]) rfl ?_); at_builtin; refine Kd.R_append (Kd.fixed k31 w0) (w0 := w) w.heap.size rfl (.tmp 70) (.tmp 72) 22 31 (.agg #[(.int .i64 0), (.int .i64 0), (.int .i64 0), (.int .i64 0), (.int .i64 0), (.bool false), (.slice none 0 0)]) 72 rfl Try.underlying22 info31 rfl (show 0 < 7 from by decide) (by omega) u7 acc tt [.int .i64 tt.f0, .int .i64 tt.f1, .int .i64 tt.f2, .int .i64 tt.f3.f0, .int .i64 tt.f3.f1, .bool tt.f4, .slice T6 tt.f5.length t6] (fun _ => True) (fun k_ => True ∧ some k_ ≠ (u7 : Value).ownBlock) rfl (show Value.slice (some ⟨w2.heap.size + 1, 0, none⟩) 1 1 = _ by simp) ?aP (fun _ hk => hk) (fun _ _ => trivial) ?aO ?aB ?aS ?aL ?_; (case aP => exact k31_mk w0 tt HTL.out HT.out); (case aO => exact Kd.R_alloc (Kd.R_below HOW.out HB2.out) _); (case aB => exact below_alloc (below_then HBW.out HBW.out.size HB2.out) _); (case aS => exact (below_alloc (below_then HBW.out HBW.out.size HB2.out) _).size); (case aL => have h1 := HL.out; have h2 := HK.out; simp only [List.length_cons, List.length_nil] at h1; omega); intro v1 w3 ho hb3 hg hat; (have HO3 := Aside0.mk ho); (have HB3 := Aside0.mk hb3); clear ho hb3 hg hat))
          go_roundg (gk - 1)
          case measure => have := HKQ.out.1; simp only [List.length_cons, List.length_nil] at this; omega
          case rel => exact ⟨[], ys, acc ++ [tt], _, _, _, _, rfl, rfl, ⟨by have := HKQ.out; simp only [List.length_cons, List.length_nil, List.length_append] at this ⊢; omega⟩, ⟨by rw [← HE3.out]; simp⟩, ⟨HM.out.1, fun u hu => HM.out.2 u (List.mem_cons_of_mem _ hu)⟩, ⟨by have := HL.out; simp only [List.length_cons, List.length_nil, List.length_append] at this ⊢; omega⟩, ⟨HA.out.1, by have := HA.out.2; simp only [List.length_cons, List.length_nil] at this ⊢; omega⟩, ⟨HNB.out, by have := HBb.out.2; simp only [List.length_cons, List.length_nil] at this ⊢; omega⟩, HO3, HB3⟩
    · rcases lb with _ | ⟨y, ys⟩
      · obtain ⟨ad, rfl, px, x0⟩ := head31 HA.out.1
        replace x0 := (HB.out.cell (World.block_lt_of_cell? w _ ((HB0.out.cell (World.block_lt_of_cell? w0 _ x0)).trans x0))).trans ((HB0.out.cell (World.block_lt_of_cell? w0 _ x0)).trans x0)
        have PX := Aside0.mk px
        clear px
        have hlt := trivial
        have hgt := trivial
        have b4 : ((xs.length : Int) + 1 == 0) = false := by simp; omega
        have hps : pairsF gk (x :: xs) [] = ((some x), none) :: pairsF (gk - 1) xs [] := by rw [pairsF_step gk _ _ HKQ.out.1]; try simp [hlt, hgt]
        have HE2 := HE.out
        rw [hps, List.filterMap_cons] at HE2
        dsimp only at HE2
        clear hps HE
        have hcA := HA.out.2
        obtain ⟨A', hcutA, hA'⟩ : ∃ A', (∀ W : World, (Instr.slice 22 (.slice (some ad) (xs.length + 1) ca) (some (.int .i64 1)) none none).run Try.prog W = .ok (.slice A' xs.length (ca - 1)) W) ∧ Kd.C k31 w0 A' xs.length xs := ⟨_, cut_from (P := Try.prog) 22 31 .i64 Try.underlying22 hi0 7 hsz (some ad) (xs.length + 1) ca 1 (by omega) (by omega), Kd.C_drop (m := 1) (c := ca) HA.out.1 (by simp) HA.out.2⟩
        have HNA := Aside0.mk hA'
        clear hcA hA'
        rcases hE : E (some x) none with _ | tt
        · rw [hE] at HE2
          dsimp only at HE2
          have HE3 := Aside0.mk HE2
          have HEE := Aside0.mk hE
          clear HE2 hE
          go_wp2
          go_quiet (fail)
          go_wp2
          go_quiet (fail)
          go_wp2_with fail
          generalize hW : wr.drewN _ = W
          have HP : Aside0 (Below w0.heap.size w0 W) := ⟨by rw [← hW]; exact below_then HB0.out HB0.out.size (pw_below_drewN HB.out _)⟩
          have HBW : Aside0 (Below w.heap.size w W) := ⟨by rw [← hW]; exact pw_below_drewN HB.out _⟩
          have HOW : Aside0 ((Kd.fixed k31 w0).R 31 W w.heap.size (fun _ => True) u7 acc) := ⟨by rw [← hW]; exact Kd.R_drewN HO.out _⟩
          clear hW HO HB
          (with_reducible refine (HC.out (some x) none (some ad) none _ ?h1 PX.out (PtrTo.nil _) ?h2 (fun u hu => by cases hu; exact HM.out.1 _ List.mem_cons_self) (fun u hu => by cases hu)).mono ?_); (case h1 => simp); (case h2 => exact HP.out); rintro e w2 ⟨tq, T6, t6, rfl, ht, htl, htC, hb⟩; rw [HEE.out]; clear ht; (have HT := Aside0.mk htC); (have HTL := Aside0.mk htl); (have HB2 := Aside0.mk hb); clear htC htl hb
          go_wp2
          go_roundg (gk - 1)
          case measure => have := HKQ.out.1; simp only [List.length_cons, List.length_nil] at this; omega
          case rel => exact ⟨xs, [], acc, _, _, _, _, rfl, rfl, ⟨by have := HKQ.out; simp only [List.length_cons, List.length_nil, List.length_append] at this ⊢; omega⟩, HE3, ⟨fun u hu => HM.out.1 u (List.mem_cons_of_mem _ hu), HM.out.2⟩, ⟨by have := HL.out; simp only [List.length_cons, List.length_nil, List.length_append] at this ⊢; omega⟩, ⟨HNA.out, by have := HA.out.2; simp only [List.length_cons, List.length_nil] at this ⊢; omega⟩, ⟨HBb.out.1, by have := HBb.out.2; simp only [List.length_cons, List.length_nil] at this ⊢; omega⟩, ⟨Kd.R_alloc (Kd.R_below HOW.out HB2.out) _⟩, ⟨below_alloc (below_then HBW.out HBW.out.size HB2.out) _⟩⟩
        · rw [hE] at HE2
          dsimp only at HE2
          have HE3 := Aside0.mk HE2
          have HEE := Aside0.mk hE
          clear HE2 hE
          go_wp2
          go_quiet (fail)
          go_wp2
          go_quiet (fail)
          go_wp2_with fail
          generalize hW : wr.drewN _ = W
          have HP : Aside0 (Below w0.heap.size w0 W) := ⟨by rw [← hW]; exact below_then HB0.out HB0.out.size (pw_below_drewN HB.out _)⟩
          have HBW : Aside0 (Below w.heap.size w W) := ⟨by rw [← hW]; exact pw_below_drewN HB.out _⟩
          have HOW : Aside0 ((Kd.fixed k31 w0).R 31 W w.heap.size (fun _ => True) u7 acc) := ⟨by rw [← hW]; exact Kd.R_drewN HO.out _⟩
          clear hW HO HB
          (with_reducible refine (HC.out (some x) none (some ad) none _ ?h1 PX.out (PtrTo.nil _) ?h2 (fun u hu => by cases hu; exact HM.out.1 _ List.mem_cons_self) (fun u hu => by cases hu)).mono ?_); (case h1 => simp); (case h2 => exact HP.out); rintro e w2 ⟨tq, T6, t6, rfl, ht, htl, htC, hb⟩; rw [HEE.out]; obtain rfl := ht _ HEE.out; clear ht; (have HT := Aside0.mk htC); (have HTL := Aside0.mk htl); (have HB2 := Aside0.mk hb); clear htC htl hb
          go_wp2_with (first | ((with_reducible refine gate_builtin (b := .append) (xs := #[.tmp 70, .tmp 72]) rfl ?_); at_builtin; refine Kd.R_append (Kd.fixed k31 w0) (w0 := w) w.heap.size rfl (.tmp 70) (.tmp 72) 22 31 (.agg #[(.int .i64 0), (.int .i64 0), (.int .i64 0), (.int .i64 0), (.int .i64 0), (.bool false), (.slice none 0 0)]) 72 rfl Try.underlying22 info31 rfl (show 0 < 7 from by decide) (by omega) u7 acc tt [.int .i64 tt.f0, .int .i64 tt.f1, .int .i64 tt.f2, .int .i64 tt.f3.f0, .int .i64 tt.f3.f1, .bool tt.f4, .slice T6 tt.f5.length t6] (fun _ => True) (fun k_ => True ∧ some k_ ≠ (u7 : Value).ownBlock) rfl (show Value.slice (some ⟨w2.heap.size + 1, 0, none⟩) 1 1 = _ by simp) ?aP (fun _ hk => hk) (fun _ _ => trivial) ?aO ?aB ?aS ?aL ?_; (case aP => exact k31_mk w0 tt HTL.out HT.out); (case aO => exact Kd.R_alloc (Kd.R_below HOW.out HB2.out) _); (case aB => exact below_alloc (below_then HBW.out HBW.out.size HB2.out) _); (case aS => exact (below_alloc (below_then HBW.out HBW.out.size HB2.out) _).size); (case aL => have h1 := HL.out; have h2 := HK.out; simp only [List.length_cons, List.length_nil] at h1; omega); intro v1 w3 ho hb3 hg hat; (have HO3 := Aside0.mk ho); (have HB3 := Aside0.mk hb3); clear ho hb3 hg hat))
          go_roundg (gk - 1)
          case measure => have := HKQ.out.1; simp only [List.length_cons, List.length_nil] at this; omega
          case rel => exact ⟨xs, [], acc ++ [tt], _, _, _, _, rfl, rfl, ⟨by have := HKQ.out; simp only [List.length_cons, List.length_nil, List.length_append] at this ⊢; omega⟩, ⟨by rw [← HE3.out]; simp⟩, ⟨fun u hu => HM.out.1 u (List.mem_cons_of_mem _ hu), HM.out.2⟩, ⟨by have := HL.out; simp only [List.length_cons, List.length_nil, List.length_append] at this ⊢; omega⟩, ⟨HNA.out, by have := HA.out.2; simp only [List.length_cons, List.length_nil] at this ⊢; omega⟩, ⟨HBb.out.1, by have := HBb.out.2; simp only [List.length_cons, List.length_nil] at this ⊢; omega⟩, HO3, HB3⟩
      · obtain ⟨ad, rfl, px, x0⟩ := head31 HA.out.1
        replace x0 := (HB.out.cell (World.block_lt_of_cell? w _ ((HB0.out.cell (World.block_lt_of_cell? w0 _ x0)).trans x0))).trans ((HB0.out.cell (World.block_lt_of_cell? w0 _ x0)).trans x0)
        have PX := Aside0.mk px
        clear px
        obtain ⟨bd, rfl, py, y0⟩ := head31 HBb.out.1
        replace y0 := (HB.out.cell (World.block_lt_of_cell? w _ ((HB0.out.cell (World.block_lt_of_cell? w0 _ y0)).trans y0))).trans ((HB0.out.cell (World.block_lt_of_cell? w0 _ y0)).trans y0)
        have PY := Aside0.mk py
        clear py
        have b4 : ((xs.length : Int) + 1 == 0) = false := by simp; omega
        have b3 : ((ys.length : Int) + 1 == 0) = false := by simp; omega
        by_cases hlt : x.f0 < y.f0
        · have hgt := trivial
          have b1 : decide (x.f0 ≤ y.f0) = true := by simp; omega
          have b2 : decide (y.f0 ≤ x.f0) = false := by simp; omega
          have hps : pairsF gk (x :: xs) (y :: ys) = ((some x), none) :: pairsF (gk - 1) xs (y :: ys) := by rw [pairsF_step gk _ _ HKQ.out.1]; try simp [hlt, hgt]
          have HE2 := HE.out
          rw [hps, List.filterMap_cons] at HE2
          dsimp only at HE2
          clear hps HE
          have hcA := HA.out.2
          obtain ⟨A', hcutA, hA'⟩ : ∃ A', (∀ W : World, (Instr.slice 22 (.slice (some ad) (xs.length + 1) ca) (some (.int .i64 1)) none none).run Try.prog W = .ok (.slice A' xs.length (ca - 1)) W) ∧ Kd.C k31 w0 A' xs.length xs := ⟨_, cut_from (P := Try.prog) 22 31 .i64 Try.underlying22 hi0 7 hsz (some ad) (xs.length + 1) ca 1 (by omega) (by omega), Kd.C_drop (m := 1) (c := ca) HA.out.1 (by simp) HA.out.2⟩
          have HNA := Aside0.mk hA'
          clear hcA hA'
          rcases hE : E (some x) none with _ | tt
          · rw [hE] at HE2
            dsimp only at HE2
            have HE3 := Aside0.mk HE2
            have HEE := Aside0.mk hE
            clear HE2 hE
            go_wp2
            go_quiet (fail)
            go_wp2
            go_quiet (fail)
            go_wp2_with fail
            generalize hW : wr.drewN _ = W
            have HP : Aside0 (Below w0.heap.size w0 W) := ⟨by rw [← hW]; exact below_then HB0.out HB0.out.size (pw_below_drewN HB.out _)⟩
            have HBW : Aside0 (Below w.heap.size w W) := ⟨by rw [← hW]; exact pw_below_drewN HB.out _⟩
            have HOW : Aside0 ((Kd.fixed k31 w0).R 31 W w.heap.size (fun _ => True) u7 acc) := ⟨by rw [← hW]; exact Kd.R_drewN HO.out _⟩
            clear hW HO HB
            (with_reducible refine (HC.out (some x) none (some ad) none _ ?h1 PX.out (PtrTo.nil _) ?h2 (fun u hu => by cases hu; exact HM.out.1 _ List.mem_cons_self) (fun u hu => by cases hu)).mono ?_); (case h1 => simp); (case h2 => exact HP.out); rintro e w2 ⟨tq, T6, t6, rfl, ht, htl, htC, hb⟩; rw [HEE.out]; clear ht; (have HT := Aside0.mk htC); (have HTL := Aside0.mk htl); (have HB2 := Aside0.mk hb); clear htC htl hb
            go_wp2
            go_roundg (gk - 1)
            case measure => have := HKQ.out.1; simp only [List.length_cons, List.length_nil] at this; omega
            case rel => exact ⟨xs, (y :: ys), acc, _, _, _, _, rfl, rfl, ⟨by have := HKQ.out; simp only [List.length_cons, List.length_nil, List.length_append] at this ⊢; omega⟩, HE3, ⟨fun u hu => HM.out.1 u (List.mem_cons_of_mem _ hu), HM.out.2⟩, ⟨by have := HL.out; simp only [List.length_cons, List.length_nil, List.length_append] at this ⊢; omega⟩, ⟨HNA.out, by have := HA.out.2; simp only [List.length_cons, List.length_nil] at this ⊢; omega⟩, ⟨HBb.out.1, by have := HBb.out.2; simp only [List.length_cons, List.length_nil] at this ⊢; omega⟩, ⟨Kd.R_alloc (Kd.R_below HOW.out HB2.out) _⟩, ⟨below_alloc (below_then HBW.out HBW.out.size HB2.out) _⟩⟩
          · rw [hE] at HE2
            dsimp only at HE2
            have HE3 := Aside0.mk HE2
            have HEE := Aside0.mk hE
            clear HE2 hE
            go_wp2
            go_quiet (fail)
            go_wp2
            go_quiet (fail)
            go_wp2_with fail
            generalize hW : wr.drewN _ = W
            have HP : Aside0 (Below w0.heap.size w0 W) := ⟨by rw [← hW]; exact below_then HB0.out HB0.out.size (pw_below_drewN HB.out _)⟩
            have HBW : Aside0 (Below w.heap.size w W) := ⟨by rw [← hW]; exact pw_below_drewN HB.out _⟩
            have HOW : Aside0 ((Kd.fixed k31 w0).R 31 W w.heap.size (fun _ => True) u7 acc) := ⟨by rw [← hW]; exact Kd.R_drewN HO.out _⟩
            clear hW HO HB
            (with_reducible refine (HC.out (some x) none (some ad) none _ ?h1 PX.out (PtrTo.nil _) ?h2 (fun u hu => by cases hu; exact HM.out.1 _ List.mem_cons_self) (fun u hu => by cases hu)).mono ?_); (case h1 => simp); (case h2 => exact HP.out); rintro e w2 ⟨tq, T6, t6, rfl, ht, htl, htC, hb⟩; rw [HEE.out]; obtain rfl := ht _ HEE.out; clear ht; (have HT := Aside0.mk htC); (have HTL := Aside0.mk htl); (have HB2 := Aside0.mk hb); clear htC htl hb
            go_wp2_with (first | ((with_reducible refine gate_builtin (b := .append) (xs := #[.tmp 70, .tmp 72]) rfl ?_); at_builtin; refine Kd.R_append (Kd.fixed k31 w0) (w0 := w) w.heap.size rfl (.tmp 70) (.tmp 72) 22 31 (.agg #[(.int .i64 0), (.int .i64 0), (.int .i64 0), (.int .i64 0), (.int .i64 0), (.bool false), (.slice none 0 0)]) 72 rfl Try.underlying22 info31 rfl (show 0 < 7 from by decide) (by omega) u7 acc tt [.int .i64 tt.f0, .int .i64 tt.f1, .int .i64 tt.f2, .int .i64 tt.f3.f0, .int .i64 tt.f3.f1, .bool tt.f4, .slice T6 tt.f5.length t6] (fun _ => True) (fun k_ => True ∧ some k_ ≠ (u7 : Value).ownBlock) rfl (show Value.slice (some ⟨w2.heap.size + 1, 0, none⟩) 1 1 = _ by simp) ?aP (fun _ hk => hk) (fun _ _ => trivial) ?aO ?aB ?aS ?aL ?_; (case aP => exact k31_mk w0 tt HTL.out HT.out); (case aO => exact Kd.R_alloc (Kd.R_below HOW.out HB2.out) _); (case aB => exact below_alloc (below_then HBW.out HBW.out.size HB2.out) _); (case aS => exact (below_alloc (below_then HBW.out HBW.out.size HB2.out) _).size); (case aL => have h1 := HL.out; have h2 := HK.out; simp only [List.length_cons, List.length_nil] at h1; omega); intro v1 w3 ho hb3 hg hat; (have HO3 := Aside0.mk ho); (have HB3 := Aside0.mk hb3); clear ho hb3 hg hat))
            go_roundg (gk - 1)
            case measure => have := HKQ.out.1; simp only [List.length_cons, List.length_nil] at this; omega
            case rel => exact ⟨xs, (y :: ys), acc ++ [tt], _, _, _, _, rfl, rfl, ⟨by have := HKQ.out; simp only [List.length_cons, List.length_nil, List.length_append] at this ⊢; omega⟩, ⟨by rw [← HE3.out]; simp⟩, ⟨fun u hu => HM.out.1 u (List.mem_cons_of_mem _ hu), HM.out.2⟩, ⟨by have := HL.out; simp only [List.length_cons, List.length_nil, List.length_append] at this ⊢; omega⟩, ⟨HNA.out, by have := HA.out.2; simp only [List.length_cons, List.length_nil] at this ⊢; omega⟩, ⟨HBb.out.1, by have := HBb.out.2; simp only [List.length_cons, List.length_nil] at this ⊢; omega⟩, HO3, HB3⟩
        · by_cases hgt : y.f0 < x.f0
          · have b1 : decide (x.f0 ≤ y.f0) = false := by simp; omega
            have b2 : decide (y.f0 ≤ x.f0) = true := by simp; omega
            have hps : pairsF gk (x :: xs) (y :: ys) = (none, (some y)) :: pairsF (gk - 1) (x :: xs) ys := by rw [pairsF_step gk _ _ HKQ.out.1]; try simp [hlt, hgt]
            have HE2 := HE.out
            rw [hps, List.filterMap_cons] at HE2
            dsimp only at HE2
            clear hps HE
            have hcB := HBb.out.2
            obtain ⟨B', hcutB, hB'⟩ : ∃ B', (∀ W : World, (Instr.slice 22 (.slice (some bd) (ys.length + 1) cb) (some (.int .i64 1)) none none).run Try.prog W = .ok (.slice B' ys.length (cb - 1)) W) ∧ Kd.C k31 w0 B' ys.length ys := ⟨_, cut_from (P := Try.prog) 22 31 .i64 Try.underlying22 hi0 7 hsz (some bd) (ys.length + 1) cb 1 (by omega) (by omega), Kd.C_drop (m := 1) (c := cb) HBb.out.1 (by simp) HBb.out.2⟩
            have HNB := Aside0.mk hB'
            clear hcB hB'
            rcases hE : E none (some y) with _ | tt
            · rw [hE] at HE2
              dsimp only at HE2
              have HE3 := Aside0.mk HE2
              have HEE := Aside0.mk hE
              clear HE2 hE
              go_wp2
              go_quiet (fail)
              go_wp2
              go_quiet (fail)
              go_wp2_with fail
              generalize hW : wr.drewN _ = W
              have HP : Aside0 (Below w0.heap.size w0 W) := ⟨by rw [← hW]; exact below_then HB0.out HB0.out.size (pw_below_drewN HB.out _)⟩
              have HBW : Aside0 (Below w.heap.size w W) := ⟨by rw [← hW]; exact pw_below_drewN HB.out _⟩
              have HOW : Aside0 ((Kd.fixed k31 w0).R 31 W w.heap.size (fun _ => True) u7 acc) := ⟨by rw [← hW]; exact Kd.R_drewN HO.out _⟩
              clear hW HO HB
              (with_reducible refine (HC.out none (some y) none (some bd) _ ?h1 (PtrTo.nil _) PY.out ?h2 (fun u hu => by cases hu) (fun u hu => by cases hu; exact HM.out.2 _ List.mem_cons_self)).mono ?_); (case h1 => simp); (case h2 => exact HP.out); rintro e w2 ⟨tq, T6, t6, rfl, ht, htl, htC, hb⟩; rw [HEE.out]; clear ht; (have HT := Aside0.mk htC); (have HTL := Aside0.mk htl); (have HB2 := Aside0.mk hb); clear htC htl hb
              go_wp2
              go_roundg (gk - 1)
              case measure => have := HKQ.out.1; simp only [List.length_cons, List.length_nil] at this; omega
              case rel => exact ⟨(x :: xs), ys, acc, _, _, _, _, rfl, rfl, ⟨by have := HKQ.out; simp only [List.length_cons, List.length_nil, List.length_append] at this ⊢; omega⟩, HE3, ⟨HM.out.1, fun u hu => HM.out.2 u (List.mem_cons_of_mem _ hu)⟩, ⟨by have := HL.out; simp only [List.length_cons, List.length_nil, List.length_append] at this ⊢; omega⟩, ⟨HA.out.1, by have := HA.out.2; simp only [List.length_cons, List.length_nil] at this ⊢; omega⟩, ⟨HNB.out, by have := HBb.out.2; simp only [List.length_cons, List.length_nil] at this ⊢; omega⟩, ⟨Kd.R_alloc (Kd.R_below HOW.out HB2.out) _⟩, ⟨below_alloc (below_then HBW.out HBW.out.size HB2.out) _⟩⟩
            · rw [hE] at HE2
              dsimp only at HE2
              have HE3 := Aside0.mk HE2
              have HEE := Aside0.mk hE
              clear HE2 hE
              go_wp2
              go_quiet (fail)
              go_wp2
              go_quiet (fail)
              go_wp2_with fail
              generalize hW : wr.drewN _ = W
              have HP : Aside0 (Below w0.heap.size w0 W) := ⟨by rw [← hW]; exact below_then HB0.out HB0.out.size (pw_below_drewN HB.out _)⟩
              have HBW : Aside0 (Below w.heap.size w W) := ⟨by rw [← hW]; exact pw_below_drewN HB.out _⟩
              have HOW : Aside0 ((Kd.fixed k31 w0).R 31 W w.heap.size (fun _ => True) u7 acc) := ⟨by rw [← hW]; exact Kd.R_drewN HO.out _⟩
              clear hW HO HB
              (with_reducible refine (HC.out none (some y) none (some bd) _ ?h1 (PtrTo.nil _) PY.out ?h2 (fun u hu => by cases hu) (fun u hu => by cases hu; exact HM.out.2 _ List.mem_cons_self)).mono ?_); (case h1 => simp); (case h2 => exact HP.out); rintro e w2 ⟨tq, T6, t6, rfl, ht, htl, htC, hb⟩; rw [HEE.out]; obtain rfl := ht _ HEE.out; clear ht; (have HT := Aside0.mk htC); (have HTL := Aside0.mk htl); (have HB2 := Aside0.mk hb); clear htC htl hb
              go_wp2_with (first | ((with_reducible refine gate_builtin (b := .append) (xs := #[.tmp 70, .tmp 72]) rfl ?_); at_builtin; refine Kd.R_append (Kd.fixed k31 w0) (w0 := w) w.heap.size rfl (.tmp 70) (.tmp 72) 22 31 (.agg #[(.int .i64 0), (.int .i64 0), (.int .i64 0), (.int .i64 0), (.int .i64 0), (.bool false), (.slice none 0 0)]) 72 rfl Try.underlying22 info31 rfl (show 0 < 7 from by decide) (by omega) u7 acc tt [.int .i64 tt.f0, .int .i64 tt.f1, .int .i64 tt.f2, .int .i64 tt.f3.f0, .int .i64 tt.f3.f1, .bool tt.f4, .slice T6 tt.f5.length t6] (fun _ => True) (fun k_ => True ∧ some k_ ≠ (u7 : Value).ownBlock) rfl (show Value.slice (some ⟨w2.heap.size + 1, 0, none⟩) 1 1 = _ by simp) ?aP (fun _ hk => hk) (fun _ _ => trivial) ?aO ?aB ?aS ?aL ?_; (case aP => exact k31_mk w0 tt HTL.out HT.out); (case aO => exact Kd.R_alloc (Kd.R_below HOW.out HB2.out) _); (case aB => exact below_alloc (below_then HBW.out HBW.out.size HB2.out) _); (case aS => exact (below_alloc (below_then HBW.out HBW.out.size HB2.out) _).size); (case aL => have h1 := HL.out; have h2 := HK.out; simp only [List.length_cons, List.length_nil] at h1; omega); intro v1 w3 ho hb3 hg hat; (have HO3 := Aside0.mk ho); (have HB3 := Aside0.mk hb3); clear ho hb3 hg hat))
              go_roundg (gk - 1)
              case measure => have := HKQ.out.1; simp only [List.length_cons, List.length_nil] at this; omega
              case rel => exact ⟨(x :: xs), ys, acc ++ [tt], _, _, _, _, rfl, rfl, ⟨by have := HKQ.out; simp only [List.length_cons, List.length_nil, List.length_append] at this ⊢; omega⟩, ⟨by rw [← HE3.out]; simp⟩, ⟨HM.out.1, fun u hu => HM.out.2 u (List.mem_cons_of_mem _ hu)⟩, ⟨by have := HL.out; simp only [List.length_cons, List.length_nil, List.length_append] at this ⊢; omega⟩, ⟨HA.out.1, by have := HA.out.2; simp only [List.length_cons, List.length_nil] at this ⊢; omega⟩, ⟨HNB.out, by have := HBb.out.2; simp only [List.length_cons, List.length_nil] at this ⊢; omega⟩, HO3, HB3⟩
          · have b1 : decide (x.f0 ≤ y.f0) = true := by simp; omega
            have b2 : decide (y.f0 ≤ x.f0) = true := by simp; omega
            have hps : pairsF gk (x :: xs) (y :: ys) = ((some x), (some y)) :: pairsF (gk - 1) xs ys := by rw [pairsF_step gk _ _ HKQ.out.1]; try simp [hlt, hgt]
            have HE2 := HE.out
            rw [hps, List.filterMap_cons] at HE2
            dsimp only at HE2
            clear hps HE
            have hcA := HA.out.2
            obtain ⟨A', hcutA, hA'⟩ : ∃ A', (∀ W : World, (Instr.slice 22 (.slice (some ad) (xs.length + 1) ca) (some (.int .i64 1)) none none).run Try.prog W = .ok (.slice A' xs.length (ca - 1)) W) ∧ Kd.C k31 w0 A' xs.length xs := ⟨_, cut_from (P := Try.prog) 22 31 .i64 Try.underlying22 hi0 7 hsz (some ad) (xs.length + 1) ca 1 (by omega) (by omega), Kd.C_drop (m := 1) (c := ca) HA.out.1 (by simp) HA.out.2⟩
            have HNA := Aside0.mk hA'
            clear hcA hA'
            have hcB := HBb.out.2
            obtain ⟨B', hcutB, hB'⟩ : ∃ B', (∀ W : World, (Instr.slice 22 (.slice (some bd) (ys.length + 1) cb) (some (.int .i64 1)) none none).run Try.prog W = .ok (.slice B' ys.length (cb - 1)) W) ∧ Kd.C k31 w0 B' ys.length ys := ⟨_, cut_from (P := Try.prog) 22 31 .i64 Try.underlying22 hi0 7 hsz (some bd) (ys.length + 1) cb 1 (by omega) (by omega), Kd.C_drop (m := 1) (c := cb) HBb.out.1 (by simp) HBb.out.2⟩
            have HNB := Aside0.mk hB'
            clear hcB hB'
            rcases hE : E (some x) (some y) with _ | tt
            · rw [hE] at HE2
              dsimp only at HE2
              have HE3 := Aside0.mk HE2
              have HEE := Aside0.mk hE
              clear HE2 hE
              go_wp2
              go_quiet (fail)
              go_wp2
              go_quiet (fail)
              go_wp2_with fail
              generalize hW : wr.drewN _ = W
              have HP : Aside0 (Below w0.heap.size w0 W) := ⟨by rw [← hW]; exact below_then HB0.out HB0.out.size (pw_below_drewN HB.out _)⟩
              have HBW : Aside0 (Below w.heap.size w W) := ⟨by rw [← hW]; exact pw_below_drewN HB.out _⟩
              have HOW : Aside0 ((Kd.fixed k31 w0).R 31 W w.heap.size (fun _ => True) u7 acc) := ⟨by rw [← hW]; exact Kd.R_drewN HO.out _⟩
              clear hW HO HB
              (with_reducible refine (HC.out (some x) (some y) (some ad) (some bd) _ ?h1 PX.out PY.out ?h2 (fun u hu => by cases hu; exact HM.out.1 _ List.mem_cons_self) (fun u hu => by cases hu; exact HM.out.2 _ List.mem_cons_self)).mono ?_); (case h1 => simp); (case h2 => exact HP.out); rintro e w2 ⟨tq, T6, t6, rfl, ht, htl, htC, hb⟩; rw [HEE.out]; clear ht; (have HT := Aside0.mk htC); (have HTL := Aside0.mk htl); (have HB2 := Aside0.mk hb); clear htC htl hb
              go_wp2
              go_roundg (gk - 1)
              case measure => have := HKQ.out.1; simp only [List.length_cons, List.length_nil] at this; omega
              case rel => exact ⟨xs, ys, acc, _, _, _, _, rfl, rfl, ⟨by have := HKQ.out; simp only [List.length_cons, List.length_nil, List.length_append] at this ⊢; omega⟩, HE3, ⟨fun u hu => HM.out.1 u (List.mem_cons_of_mem _ hu), fun u hu => HM.out.2 u (List.mem_cons_of_mem _ hu)⟩, ⟨by have := HL.out; simp only [List.length_cons, List.length_nil, List.length_append] at this ⊢; omega⟩, ⟨HNA.out, by have := HA.out.2; simp only [List.length_cons, List.length_nil] at this ⊢; omega⟩, ⟨HNB.out, by have := HBb.out.2; simp only [List.length_cons, List.length_nil] at this ⊢; omega⟩, ⟨Kd.R_alloc (Kd.R_below HOW.out HB2.out) _⟩, ⟨below_alloc (below_then HBW.out HBW.out.size HB2.out) _⟩⟩
            · rw [hE] at HE2
              dsimp only at HE2
              have HE3 := Aside0.mk HE2
              have HEE := Aside0.mk hE
              clear HE2 hE
              go_wp2
              go_quiet (fail)
              go_wp2
              go_quiet (fail)
              go_wp2_with fail
              generalize hW : wr.drewN _ = W
              have HP : Aside0 (Below w0.heap.size w0 W) := ⟨by rw [← hW]; exact below_then HB0.out HB0.out.size (pw_below_drewN HB.out _)⟩
              have HBW : Aside0 (Below w.heap.size w W) := ⟨by rw [← hW]; exact pw_below_drewN HB.out _⟩
              have HOW : Aside0 ((Kd.fixed k31 w0).R 31 W w.heap.size (fun _ => True) u7 acc) := ⟨by rw [← hW]; exact Kd.R_drewN HO.out _⟩
              clear hW HO HB
              (with_reducible refine (HC.out (some x) (some y) (some ad) (some bd) _ ?h1 PX.out PY.out ?h2 (fun u hu => by cases hu; exact HM.out.1 _ List.mem_cons_self) (fun u hu => by cases hu; exact HM.out.2 _ List.mem_cons_self)).mono ?_); (case h1 => simp); (case h2 => exact HP.out); rintro e w2 ⟨tq, T6, t6, rfl, ht, htl, htC, hb⟩; rw [HEE.out]; obtain rfl := ht _ HEE.out; clear ht; (have HT := Aside0.mk htC); (have HTL := Aside0.mk htl); (have HB2 := Aside0.mk hb); clear htC htl hb
              go_wp2_with (first | ((with_reducible refine gate_builtin (b := .append) (xs := #[.tmp 70, .tmp 72]) rfl ?_); at_builtin; refine Kd.R_append (Kd.fixed k31 w0) (w0 := w) w.heap.size rfl (.tmp 70) (.tmp 72) 22 31 (.agg #[(.int .i64 0), (.int .i64 0), (.int .i64 0), (.int .i64 0), (.int .i64 0), (.bool false), (.slice none 0 0)]) 72 rfl Try.underlying22 info31 rfl (show 0 < 7 from by decide) (by omega) u7 acc tt [.int .i64 tt.f0, .int .i64 tt.f1, .int .i64 tt.f2, .int .i64 tt.f3.f0, .int .i64 tt.f3.f1, .bool tt.f4, .slice T6 tt.f5.length t6] (fun _ => True) (fun k_ => True ∧ some k_ ≠ (u7 : Value).ownBlock) rfl (show Value.slice (some ⟨w2.heap.size + 1, 0, none⟩) 1 1 = _ by simp) ?aP (fun _ hk => hk) (fun _ _ => trivial) ?aO ?aB ?aS ?aL ?_; (case aP => exact k31_mk w0 tt HTL.out HT.out); (case aO => exact Kd.R_alloc (Kd.R_below HOW.out HB2.out) _); (case aB => exact below_alloc (below_then HBW.out HBW.out.size HB2.out) _); (case aS => exact (below_alloc (below_then HBW.out HBW.out.size HB2.out) _).size); (case aL => have h1 := HL.out; have h2 := HK.out; simp only [List.length_cons, List.length_nil] at h1; omega); intro v1 w3 ho hb3 hg hat; (have HO3 := Aside0.mk ho); (have HB3 := Aside0.mk hb3); clear ho hb3 hg hat))
              go_roundg (gk - 1)
              case measure => have := HKQ.out.1; simp only [List.length_cons, List.length_nil] at this; omega
              case rel => exact ⟨xs, ys, acc ++ [tt], _, _, _, _, rfl, rfl, ⟨by have := HKQ.out; simp only [List.length_cons, List.length_nil, List.length_append] at this ⊢; omega⟩, ⟨by rw [← HE3.out]; simp⟩, ⟨fun u hu => HM.out.1 u (List.mem_cons_of_mem _ hu), fun u hu => HM.out.2 u (List.mem_cons_of_mem _ hu)⟩, ⟨by have := HL.out; simp only [List.length_cons, List.length_nil, List.length_append] at this ⊢; omega⟩, ⟨HNA.out, by have := HA.out.2; simp only [List.length_cons, List.length_nil] at this ⊢; omega⟩, ⟨HNB.out, by have := HBb.out.2; simp only [List.length_cons, List.length_nil] at this ⊢; omega⟩, HO3, HB3⟩


/-! ### cmp_isNaN_byte: function 296 -/
def cmp_isNaN_byte.f (a0 : Int) : Option (Bool) := some (a0 != a0)
set_option maxHeartbeats 8000000 in
set_option maxRecDepth 100000 in
theorem cmp_isNaN_byte.calls (a0 : Int) (r : Bool) (w : World) (h : cmp_isNaN_byte.f a0 = some r) :
    Calls Try.prog 296 #[.int .u8 a0] w fun e w' => e = .returned (.bool r) ∧ Drawn0 w w' := by
  have H : (some (a0 != a0)) = some r := h
  clear h
  obtain rfl := Option.some.inj H
  go_enter Try.func296, Try.ntmps296
  go_wp2
  go_ret
  exact ⟨by first | rfl | (simp; done) | (simp [*]; done), by repeat (first | exact Drawn0.refl _ | apply Drawn0.step)⟩

/-! ### cmp_Compare_byte: function 286 -/
def cmp_Compare_byte.f (a0 : Int) (a1 : Int) : Option (Int) := (cmp_isNaN_byte.f a0).bind fun t140 => ((cmp_isNaN_byte.f a1).bind fun t141 => (if t140 = true then (if t141 = true then (some 0) else (some (-1))) else (if t141 = true then (some 1) else (if a0 < a1 then (some (-1)) else (if a0 > a1 then (some 1) else (some 0))))))
set_option maxHeartbeats 8000000 in
set_option maxRecDepth 100000 in
theorem cmp_Compare_byte.calls (a0 : Int) (a1 : Int) (r : Int) (w : World) (h : cmp_Compare_byte.f a0 a1 = some r) :
    Calls Try.prog 286 #[.int .u8 a0, .int .u8 a1] w fun e w' => e = .returned (.int .i64 r) ∧ Drawn0 w w' := by
  have H : ((cmp_isNaN_byte.f a0).bind fun t140 => ((cmp_isNaN_byte.f a1).bind fun t141 => (if t140 = true then (if t141 = true then (some 0) else (some (-1))) else (if t141 = true then (some 1) else (if a0 < a1 then (some (-1)) else (if a0 > a1 then (some 1) else (some 0))))))) = some r := h
  clear h
  replace H := Option.bind_eq_some_iff.mp H
  obtain ⟨t140, A30, H⟩ := H
  replace H : ((cmp_isNaN_byte.f a1).bind fun t141 => (if t140 = true then (if t141 = true then (some 0) else (some (-1))) else (if t141 = true then (some 1) else (if a0 < a1 then (some (-1)) else (if a0 > a1 then (some 1) else (some 0)))))) = some r := H
  have A3 := Aside0.mk A30
  clear A30
  replace H := Option.bind_eq_some_iff.mp H
  obtain ⟨t141, A40, H⟩ := H
  replace H : (if t140 = true then (if t141 = true then (some 0) else (some (-1))) else (if t141 = true then (some 1) else (if a0 < a1 then (some (-1)) else (if a0 > a1 then (some 1) else (some 0))))) = some r := H
  have A4 := Aside0.mk A40
  clear A40
  by_cases c5 : t140 = true
  · subst c5
    have H1 : (if t141 = true then (some 0) else (some (-1))) = some r := by rw [if_pos rfl] at H; exact H
    clear H
    have H := H1
    clear H1
    by_cases c6 : t141 = true
    · subst c6
      have H1 : (some 0) = some r := by rw [if_pos rfl] at H; exact H
      clear H
      have H := H1
      clear H1
      obtain rfl := Option.some.inj H
      go_enter Try.func286, Try.ntmps286
      go_wp2_with (first | ((with_reducible refine gate_callee (f := 296) rfl ?_); refine goesL_ (some 8) rfl rfl Try.func296 (by kernel_rfl) rfl #[.int .u8 a0] rfl (by (try simp only [List.map_toArray, List.map_cons, List.map_nil]); first | done | rfl | (simp only [List.length_drop, List.length_take]; rfl)) ?_; (with_reducible refine (cmp_isNaN_byte.calls a0 true _ A3.out).mono ?_); rintro e w' ⟨rfl, ⟨nd, rfl⟩⟩; refine ⟨_, rfl, ?_⟩) | ((with_reducible refine gate_callee (f := 296) rfl ?_); refine goesL_ (some 10) rfl rfl Try.func296 (by kernel_rfl) rfl #[.int .u8 a1] rfl (by (try simp only [List.map_toArray, List.map_cons, List.map_nil]); first | done | rfl | (simp only [List.length_drop, List.length_take]; rfl)) ?_; (with_reducible refine (cmp_isNaN_byte.calls a1 true _ A4.out).mono ?_); rintro e w' ⟨rfl, ⟨nd, rfl⟩⟩; refine ⟨_, rfl, ?_⟩))
      go_ret
      exact ⟨by first | rfl | (simp; done) | (simp [*]; done), by repeat (first | exact Drawn0.refl _ | apply Drawn0.step)⟩
    · replace c6 := Bool.eq_false_iff.mpr c6
      subst c6
      have H1 : (some (-1)) = some r := by rw [if_neg (show ¬ (false = true) by decide)] at H; exact H
      clear H
      have H := H1
      clear H1
      obtain rfl := Option.some.inj H
      go_enter Try.func286, Try.ntmps286
      go_wp2_with (first | ((with_reducible refine gate_callee (f := 296) rfl ?_); refine goesL_ (some 8) rfl rfl Try.func296 (by kernel_rfl) rfl #[.int .u8 a0] rfl (by (try simp only [List.map_toArray, List.map_cons, List.map_nil]); first | done | rfl | (simp only [List.length_drop, List.length_take]; rfl)) ?_; (with_reducible refine (cmp_isNaN_byte.calls a0 true _ A3.out).mono ?_); rintro e w' ⟨rfl, ⟨nd, rfl⟩⟩; refine ⟨_, rfl, ?_⟩) | ((with_reducible refine gate_callee (f := 296) rfl ?_); refine goesL_ (some 10) rfl rfl Try.func296 (by kernel_rfl) rfl #[.int .u8 a1] rfl (by (try simp only [List.map_toArray, List.map_cons, List.map_nil]); first | done | rfl | (simp only [List.length_drop, List.length_take]; rfl)) ?_; (with_reducible refine (cmp_isNaN_byte.calls a1 false _ A4.out).mono ?_); rintro e w' ⟨rfl, ⟨nd, rfl⟩⟩; refine ⟨_, rfl, ?_⟩))
      go_ret
      exact ⟨by first | rfl | (simp; done) | (simp [*]; done), by repeat (first | exact Drawn0.refl _ | apply Drawn0.step)⟩
  · replace c5 := Bool.eq_false_iff.mpr c5
    subst c5
    have H1 : (if t141 = true then (some 1) else (if a0 < a1 then (some (-1)) else (if a0 > a1 then (some 1) else (some 0)))) = some r := by rw [if_neg (show ¬ (false = true) by decide)] at H; exact H
    clear H
    have H := H1
    clear H1
    by_cases c7 : t141 = true
    · subst c7
      have H1 : (some 1) = some r := by rw [if_pos rfl] at H; exact H
      clear H
      have H := H1
      clear H1
      obtain rfl := Option.some.inj H
      go_enter Try.func286, Try.ntmps286
      go_wp2_with (first | ((with_reducible refine gate_callee (f := 296) rfl ?_); refine goesL_ (some 8) rfl rfl Try.func296 (by kernel_rfl) rfl #[.int .u8 a0] rfl (by (try simp only [List.map_toArray, List.map_cons, List.map_nil]); first | done | rfl | (simp only [List.length_drop, List.length_take]; rfl)) ?_; (with_reducible refine (cmp_isNaN_byte.calls a0 false _ A3.out).mono ?_); rintro e w' ⟨rfl, ⟨nd, rfl⟩⟩; refine ⟨_, rfl, ?_⟩) | ((with_reducible refine gate_callee (f := 296) rfl ?_); refine goesL_ (some 10) rfl rfl Try.func296 (by kernel_rfl) rfl #[.int .u8 a1] rfl (by (try simp only [List.map_toArray, List.map_cons, List.map_nil]); first | done | rfl | (simp only [List.length_drop, List.length_take]; rfl)) ?_; (with_reducible refine (cmp_isNaN_byte.calls a1 true _ A4.out).mono ?_); rintro e w' ⟨rfl, ⟨nd, rfl⟩⟩; refine ⟨_, rfl, ?_⟩))
      go_ret
      exact ⟨by first | rfl | (simp; done) | (simp [*]; done), by repeat (first | exact Drawn0.refl _ | apply Drawn0.step)⟩
    · replace c7 := Bool.eq_false_iff.mpr c7
      subst c7
      have H1 : (if a0 < a1 then (some (-1)) else (if a0 > a1 then (some 1) else (some 0))) = some r := by rw [if_neg (show ¬ (false = true) by decide)] at H; exact H
      clear H
      have H := H1
      clear H1
      by_cases c8 : a0 < a1
      · rw [if_pos c8] at H
        have c8b0 : decide (a0 < a1) = true := decide_eq_true c8
        clear c8
        obtain rfl := Option.some.inj H
        go_enter Try.func286, Try.ntmps286
        go_wp2_with (first | ((with_reducible refine gate_callee (f := 296) rfl ?_); refine goesL_ (some 8) rfl rfl Try.func296 (by kernel_rfl) rfl #[.int .u8 a0] rfl (by (try simp only [List.map_toArray, List.map_cons, List.map_nil]); first | done | rfl | (simp only [List.length_drop, List.length_take]; rfl)) ?_; (with_reducible refine (cmp_isNaN_byte.calls a0 false _ A3.out).mono ?_); rintro e w' ⟨rfl, ⟨nd, rfl⟩⟩; refine ⟨_, rfl, ?_⟩) | ((with_reducible refine gate_callee (f := 296) rfl ?_); refine goesL_ (some 10) rfl rfl Try.func296 (by kernel_rfl) rfl #[.int .u8 a1] rfl (by (try simp only [List.map_toArray, List.map_cons, List.map_nil]); first | done | rfl | (simp only [List.length_drop, List.length_take]; rfl)) ?_; (with_reducible refine (cmp_isNaN_byte.calls a1 false _ A4.out).mono ?_); rintro e w' ⟨rfl, ⟨nd, rfl⟩⟩; refine ⟨_, rfl, ?_⟩))
        go_ret
        exact ⟨by first | rfl | (simp; done) | (simp [*]; done), by repeat (first | exact Drawn0.refl _ | apply Drawn0.step)⟩
      · rw [if_neg c8] at H
        have c8b0 : decide (a0 < a1) = false := decide_eq_false c8
        clear c8
        by_cases c9 : a0 > a1
        · rw [if_pos c9] at H
          have c9b0 : decide (a1 < a0) = true := decide_eq_true c9
          clear c9
          obtain rfl := Option.some.inj H
          go_enter Try.func286, Try.ntmps286
          go_wp2_with (first | ((with_reducible refine gate_callee (f := 296) rfl ?_); refine goesL_ (some 8) rfl rfl Try.func296 (by kernel_rfl) rfl #[.int .u8 a0] rfl (by (try simp only [List.map_toArray, List.map_cons, List.map_nil]); first | done | rfl | (simp only [List.length_drop, List.length_take]; rfl)) ?_; (with_reducible refine (cmp_isNaN_byte.calls a0 false _ A3.out).mono ?_); rintro e w' ⟨rfl, ⟨nd, rfl⟩⟩; refine ⟨_, rfl, ?_⟩) | ((with_reducible refine gate_callee (f := 296) rfl ?_); refine goesL_ (some 10) rfl rfl Try.func296 (by kernel_rfl) rfl #[.int .u8 a1] rfl (by (try simp only [List.map_toArray, List.map_cons, List.map_nil]); first | done | rfl | (simp only [List.length_drop, List.length_take]; rfl)) ?_; (with_reducible refine (cmp_isNaN_byte.calls a1 false _ A4.out).mono ?_); rintro e w' ⟨rfl, ⟨nd, rfl⟩⟩; refine ⟨_, rfl, ?_⟩))
          go_ret
          exact ⟨by first | rfl | (simp; done) | (simp [*]; done), by repeat (first | exact Drawn0.refl _ | apply Drawn0.step)⟩
        · rw [if_neg c9] at H
          have c9b0 : decide (a1 < a0) = false := decide_eq_false c9
          clear c9
          obtain rfl := Option.some.inj H
          go_enter Try.func286, Try.ntmps286
          go_wp2_with (first | ((with_reducible refine gate_callee (f := 296) rfl ?_); refine goesL_ (some 8) rfl rfl Try.func296 (by kernel_rfl) rfl #[.int .u8 a0] rfl (by (try simp only [List.map_toArray, List.map_cons, List.map_nil]); first | done | rfl | (simp only [List.length_drop, List.length_take]; rfl)) ?_; (with_reducible refine (cmp_isNaN_byte.calls a0 false _ A3.out).mono ?_); rintro e w' ⟨rfl, ⟨nd, rfl⟩⟩; refine ⟨_, rfl, ?_⟩) | ((with_reducible refine gate_callee (f := 296) rfl ?_); refine goesL_ (some 10) rfl rfl Try.func296 (by kernel_rfl) rfl #[.int .u8 a1] rfl (by (try simp only [List.map_toArray, List.map_cons, List.map_nil]); first | done | rfl | (simp only [List.length_drop, List.length_take]; rfl)) ?_; (with_reducible refine (cmp_isNaN_byte.calls a1 false _ A4.out).mono ?_); rintro e w' ⟨rfl, ⟨nd, rfl⟩⟩; refine ⟨_, rfl, ?_⟩))
          go_ret
          exact ⟨by first | rfl | (simp; done) | (simp [*]; done), by repeat (first | exact Drawn0.refl _ | apply Drawn0.step)⟩

/-! ### slices_Compare_byte_byte: function 276 -/
def slices_Compare_byte_byte.l0 : Nat → List Int → List Int → List Int → Int → Int → Option (Int)
  | 0, _, _, _, _, _ => none
  | k + 1, x0, x1, x9, x10, x11 => if x11 < x10 then (if 0 ≤ x11 then (if x11 < (x9.length : Int) then (if x11 ≥ (x1.length : Int) then (some 1) else (if x11 < (x1.length : Int) then ((cmp_Compare_byte.f (rd x9 x11) (rd x1 x11)).bind fun t144 => (if t144 = 0 then (slices_Compare_byte_byte.l0 k x0 x1 x9 x10 (wrap64 (x11 + 1))) else (some t144))) else (none))) else (none)) else (none)) else (if (x0.length : Int) < (x1.length : Int) then (some (-1)) else (some 0))
def slices_Compare_byte_byte.f (k : Nat) (l0 : List Int) (l1 : List Int) : Option (Int) := slices_Compare_byte_byte.l0 k l0 l1 l0 (l0.length : Int) 0
theorem slices_Compare_byte_byte.mono_l : ∀ k, (∀ y0 y1 y2 y3 y4, LeO (slices_Compare_byte_byte.l0 k y0 y1 y2 y3 y4) (slices_Compare_byte_byte.l0 (k + 1) y0 y1 y2 y3 y4))
  | 0 => fun _ _ _ _ _ r h => by simp [slices_Compare_byte_byte.l0] at h
  | k + 1 => by
    have ih0 := slices_Compare_byte_byte.mono_l k
    · intro y0 y1 y2 y3 y4
      unfold slices_Compare_byte_byte.l0
      repeat' first
      | (with_reducible exact ih0 _ _ _ _ _)
      | (with_reducible exact LeO.refl _)
      | (with_reducible exact LeO.none _)
      | (with_reducible refine LeO.ite ?_ ?_)
      | (with_reducible refine LeO.bind ?_ (fun _ => ?_))
      | exact ih0 _ _ _ _ _
      | exact LeO.none _
      | refine LeO.ite ?_ ?_
      | refine LeO.bind ?_ (fun _ => ?_)
theorem slices_Compare_byte_byte.mono : ∀ a0 a1 k, LeO (slices_Compare_byte_byte.f k a0 a1) (slices_Compare_byte_byte.f (k + 1) a0 a1) := by
  intro a0 a1 k
  have ih0 := slices_Compare_byte_byte.mono_l k
  unfold slices_Compare_byte_byte.f
  repeat' first
      | (with_reducible exact ih0 _ _ _ _ _)
      | (with_reducible exact LeO.refl _)
      | (with_reducible exact LeO.none _)
      | (with_reducible refine LeO.ite ?_ ?_)
      | (with_reducible refine LeO.bind ?_ (fun _ => ?_))
      | exact ih0 _ _ _ _ _
      | exact LeO.none _
      | refine LeO.ite ?_ ?_
      | refine LeO.bind ?_ (fun _ => ?_)
set_option maxHeartbeats 8000000 in
set_option maxRecDepth 100000 in
theorem slices_Compare_byte_byte.calls (k : Nat) (A0 : Option Addr) (c0 : Nat) (l0 : List Int) (A1 : Option Addr) (c1 : Nat) (l1 : List Int) (r : Int) (w : World) (hr0 : Kd.C (Kd.int .u8) w A0 l0.length l0) (hc0 : l0.length ≤ c0) (hr1 : Kd.C (Kd.int .u8) w A1 l1.length l1) (hc1 : l1.length ≤ c1) (h : slices_Compare_byte_byte.f k l0 l1 = some r) :
    Calls Try.prog 276 #[.slice A0 l0.length c0, .slice A1 l1.length c1] w fun e w' => e = .returned (.int .i64 r) ∧ Drawn0 w w' := by
  have HR0 := Aside0.mk hr0
  have HC0 := Aside0.mk hc0
  clear hr0 hc0
  have HR1 := Aside0.mk hr1
  have HC1 := Aside0.mk hc1
  clear hr1 hc1
  have H : (slices_Compare_byte_byte.l0 k l0 l1 l0 (l0.length : Int) 0) = some r := h
  clear h
  have H' := Aside0.mk H
  clear H
  go_enter Try.func276, Try.ntmps276
  go_wp2
  go_loopg [11] k (fun kq v11 w' => ∃ (x11_1 : Int), v11 = .int .i64 x11_1 ∧ Aside0 (slices_Compare_byte_byte.l0 kq l0 l1 l0 (l0.length : Int) x11_1 = some r) ∧ Aside0 (kq ≤ k) ∧ Drawn0 w w')
  case atStart => exact ⟨(0), (by first | rfl | (simp; done) | (simp [*]; done)), H', ⟨Nat.le_refl _⟩, by repeat (first | exact Drawn0.refl _ | apply Drawn0.step)⟩
  case round =>
    clear H'
    try clear c1
    try clear c2
    try clear p2
    obtain ⟨x11_1, rfl, HA, HK1, ⟨m1, rfl⟩⟩ := hrel
    cases gk with
    | zero => exact absurd HA.out (by simp [slices_Compare_byte_byte.l0])
    | succ k1 =>
      have H := HA.out
      clear HA
      simp only [slices_Compare_byte_byte.l0] at H
      by_cases c3 : x11_1 < (l0.length : Int)
      · rw [if_pos c3] at H
        have c3b0 : decide (x11_1 < (l0.length : Int)) = true := decide_eq_true c3
        clear c3
        by_cases c4 : 0 ≤ x11_1
        · rw [if_pos c4] at H
          have c4b0 : decide (0 ≤ x11_1) = true := decide_eq_true c4
          clear c4
          by_cases c5 : x11_1 < (l0.length : Int)
          · rw [if_pos c5] at H
            have c5b0 : decide (x11_1 < (l0.length : Int)) = true := decide_eq_true c5
            clear c5
            by_cases c6 : x11_1 ≥ (l1.length : Int)
            · rw [if_pos c6] at H
              have c6b0 : decide ((l1.length : Int) ≤ x11_1) = true := decide_eq_true c6
              clear c6
              obtain rfl := Option.some.inj H
              have p142 : 0 ≤ (x11_1 : Int) := of_decide_eq_true (by first | (with_reducible assumption) | assumption)
              have q142 : x11_1 < (l0.length : Int) := of_decide_eq_true (by first | (with_reducible assumption) | assumption)
              obtain ⟨ad142, e142, hx142_0⟩ := Kd.at_int HR0.out x11_1 p142 q142
              cases e142
              replace p142 := eq_true p142
              replace q142 := eq_true q142
              go_wp2
              go_ret
              exact ⟨by first | rfl | (simp; done) | (simp [*]; done), by repeat (first | exact Drawn0.refl _ | apply Drawn0.step)⟩
            · rw [if_neg c6] at H
              have c6b0 : decide ((l1.length : Int) ≤ x11_1) = false := decide_eq_false c6
              clear c6
              by_cases c7 : x11_1 < (l1.length : Int)
              · rw [if_pos c7] at H
                have c7b0 : decide (x11_1 < (l1.length : Int)) = true := decide_eq_true c7
                clear c7
                replace H := Option.bind_eq_some_iff.mp H
                obtain ⟨t144, A80, H⟩ := H
                replace H : (if t144 = 0 then (slices_Compare_byte_byte.l0 k1 l0 l1 l0 (l0.length : Int) (wrap64 (x11_1 + 1))) else (some t144)) = some r := H
                have A8 := Aside0.mk A80
                clear A80
                by_cases c9 : t144 = 0
                · rw [if_pos c9] at H
                  have c9b0 : (t144 == 0) = true := beq_iff_eq.mpr c9
                  have c9b1 : (t144 != 0) = false := bne_eq_false_iff_eq.mpr c9
                  clear c9
                  have H' := Aside0.mk H
                  clear H
                  have p142 : 0 ≤ (x11_1 : Int) := of_decide_eq_true (by first | (with_reducible assumption) | assumption)
                  have q142 : x11_1 < (l0.length : Int) := of_decide_eq_true (by first | (with_reducible assumption) | assumption)
                  obtain ⟨ad142, e142, hx142_0⟩ := Kd.at_int HR0.out x11_1 p142 q142
                  cases e142
                  replace p142 := eq_true p142
                  replace q142 := eq_true q142
                  have p143 : 0 ≤ (x11_1 : Int) := of_decide_eq_true (by first | (with_reducible assumption) | assumption)
                  have q143 : x11_1 < (l1.length : Int) := of_decide_eq_true (by first | (with_reducible assumption) | assumption)
                  obtain ⟨ad143, e143, hx143_0⟩ := Kd.at_int HR1.out x11_1 p143 q143
                  cases e143
                  replace p143 := eq_true p143
                  replace q143 := eq_true q143
                  go_wp2_with (first | ((with_reducible refine gate_callee (f := 286) rfl ?_); refine goesL_ (some 26) rfl rfl Try.func286 (by kernel_rfl) rfl #[.int .u8 (rd l0 x11_1), .int .u8 (rd l1 x11_1)] rfl (by (try simp only [List.map_toArray, List.map_cons, List.map_nil]); first | done | rfl | (simp only [List.length_drop, List.length_take]; rfl)) ?_; (with_reducible refine (cmp_Compare_byte.calls (rd l0 x11_1) (rd l1 x11_1) t144 _ A8.out).mono ?_); rintro e w' ⟨rfl, ⟨nd, rfl⟩⟩; refine ⟨_, rfl, ?_⟩))
                  go_roundg k1
                  case measure => have := HK1.out; omega
                  case rel => exact ⟨(wrap64 (x11_1 + 1)), (by first | rfl | (simp; done) | (simp [*]; done)), H', ⟨by have := HK1.out; omega⟩, by repeat (first | exact Drawn0.refl _ | apply Drawn0.step)⟩
                · rw [if_neg c9] at H
                  have c9b0 : (t144 == 0) = false := beq_eq_false_iff_ne.mpr c9
                  have c9b1 : (t144 != 0) = true := bne_iff_ne.mpr c9
                  obtain rfl := Option.some.inj H
                  have p142 : 0 ≤ (x11_1 : Int) := of_decide_eq_true (by first | (with_reducible assumption) | assumption)
                  have q142 : x11_1 < (l0.length : Int) := of_decide_eq_true (by first | (with_reducible assumption) | assumption)
                  obtain ⟨ad142, e142, hx142_0⟩ := Kd.at_int HR0.out x11_1 p142 q142
                  cases e142
                  replace p142 := eq_true p142
                  replace q142 := eq_true q142
                  have p143 : 0 ≤ (x11_1 : Int) := of_decide_eq_true (by first | (with_reducible assumption) | assumption)
                  have q143 : x11_1 < (l1.length : Int) := of_decide_eq_true (by first | (with_reducible assumption) | assumption)
                  obtain ⟨ad143, e143, hx143_0⟩ := Kd.at_int HR1.out x11_1 p143 q143
                  cases e143
                  replace p143 := eq_true p143
                  replace q143 := eq_true q143
                  go_wp2_with (first | ((with_reducible refine gate_callee (f := 286) rfl ?_); refine goesL_ (some 26) rfl rfl Try.func286 (by kernel_rfl) rfl #[.int .u8 (rd l0 x11_1), .int .u8 (rd l1 x11_1)] rfl (by (try simp only [List.map_toArray, List.map_cons, List.map_nil]); first | done | rfl | (simp only [List.length_drop, List.length_take]; rfl)) ?_; (with_reducible refine (cmp_Compare_byte.calls (rd l0 x11_1) (rd l1 x11_1) t144 _ A8.out).mono ?_); rintro e w' ⟨rfl, ⟨nd, rfl⟩⟩; refine ⟨_, rfl, ?_⟩))
                  go_ret
                  exact ⟨by first | rfl | (simp; done) | (simp [*]; done), by repeat (first | exact Drawn0.refl _ | apply Drawn0.step)⟩
              · rw [if_neg c7] at H
                exact absurd H (by simp)
          · rw [if_neg c5] at H
            exact absurd H (by simp)
        · rw [if_neg c4] at H
          exact absurd H (by simp)
      · rw [if_neg c3] at H
        have c3b0 : decide (x11_1 < (l0.length : Int)) = false := decide_eq_false c3
        clear c3
        by_cases c10 : (l0.length : Int) < (l1.length : Int)
        · rw [if_pos c10] at H
          have c10b0 : decide ((l0.length : Int) < (l1.length : Int)) = true := decide_eq_true c10
          have c10b1 : decide (l0.length < l1.length) = true := decide_eq_true (Int.ofNat_lt.mp c10)
          clear c10
          obtain rfl := Option.some.inj H
          go_wp2
          go_ret
          exact ⟨by first | rfl | (simp; done) | (simp [*]; done), by repeat (first | exact Drawn0.refl _ | apply Drawn0.step)⟩
        · rw [if_neg c10] at H
          have c10b0 : decide ((l0.length : Int) < (l1.length : Int)) = false := decide_eq_false c10
          have c10b1 : decide (l0.length < l1.length) = false := decide_eq_false (fun h => c10 (Int.ofNat_lt.mpr h))
          clear c10
          obtain rfl := Option.some.inj H
          go_wp2
          go_ret
          exact ⟨by first | rfl | (simp; done) | (simp [*]; done), by repeat (first | exact Drawn0.refl _ | apply Drawn0.step)⟩

/-- How two rows of bytes stand to each other. -/
def cmpL : List Int → List Int → Int
  | [], [] => 0
  | [], _ :: _ => -1
  | _ :: _, [] => 1
  | x :: xs, y :: ys => if x < y then -1 else if y < x then 1 else cmpL xs ys
theorem cmpL_zero : ∀ (a b : List Int), cmpL a b = 0 ↔ a = b
  | [], [] => by simp [cmpL]
  | [], _ :: _ => by simp [cmpL]
  | _ :: _, [] => by simp [cmpL]
  | x :: xs, y :: ys => by
    have ih := cmpL_zero xs ys
    unfold cmpL
    split
    · simp; omega
    · split
      · simp; omega
      · rw [ih]; simp; omega
theorem drop_rdI (l : List Int) (k : Nat) (h : k < l.length) : l.drop k = rd l (k : Int) :: l.drop (k + 1) := by
  rw [List.drop_eq_getElem_cons h]
  simp [rd, List.getD_eq_getElem?_getD, List.getElem?_eq_getElem h]
theorem cmp_byte_f (a b : Int) : cmp_Compare_byte.f a b = some (if a < b then -1 else if b < a then 1 else 0) := by
  unfold cmp_Compare_byte.f cmp_isNaN_byte.f
  simp only [bne_self_eq_false, Option.bind_some, Bool.false_eq_true, if_false]
  by_cases h : a < b
  · rw [if_pos h, if_pos h]
  · rw [if_neg h, if_neg h]
    by_cases h2 : b < a
    · rw [if_pos h2, if_pos h2]
    · rw [if_neg h2, if_neg h2]
theorem cmpB_l0 (a b : List Int) (ha : a.length < 4611686018427387904) : ∀ (d i : Nat) (k : Nat), i + d = a.length → i ≤ b.length → d + 1 ≤ k → slices_Compare_byte_byte.l0 k a b a (a.length : Int) (i : Int) = some (cmpL (a.drop i) (b.drop i)) := by
  intro d
  induction d with
  | zero =>
    intro i k hi hb hk
    obtain ⟨k, rfl⟩ : ∃ m, k = m + 1 := ⟨k - 1, by omega⟩
    simp only [slices_Compare_byte_byte.l0]
    rw [if_neg (by omega), List.drop_eq_nil_of_le (by omega)]
    by_cases h : a.length < b.length
    · rw [if_pos (by omega), drop_rdI b i (by omega)]; rfl
    · rw [if_neg (by omega), List.drop_eq_nil_of_le (by omega)]; rfl
  | succ d ih =>
    intro i k hi hb hk
    obtain ⟨k, rfl⟩ : ∃ m, k = m + 1 := ⟨k - 1, by omega⟩
    simp only [slices_Compare_byte_byte.l0]
    rw [if_pos (by omega), if_pos (by omega), if_pos (by omega), drop_rdI a i (by omega)]
    by_cases h : i < b.length
    · rw [if_neg (by omega), if_pos (by omega), cmp_byte_f, drop_rdI b i h]
      simp only [Option.bind_some]
      unfold cmpL
      have hw : wrap64 ((i : Int) + 1) = ((i + 1 : Nat) : Int) := by rw [w64 (by omega) (by omega)]; omega
      by_cases h1 : rd a (i : Int) < rd b (i : Int)
      · rw [if_pos h1, if_pos h1, if_neg (by omega)]
      · rw [if_neg h1, if_neg h1]
        by_cases h2 : rd b (i : Int) < rd a (i : Int)
        · rw [if_pos h2, if_pos h2, if_neg (by omega)]
        · rw [if_neg h2, if_neg h2, if_pos rfl, hw, ih (i + 1) k (by omega) (by omega) (by omega)]
    · rw [if_pos (by omega), show b.drop i = [] from List.drop_eq_nil_of_le (by omega)]; rfl
theorem cmpB_f (a b : List Int) (ha : a.length < 4611686018427387904) (k : Nat) (hk : a.length + 1 ≤ k) : slices_Compare_byte_byte.f k a b = some (cmpL a b) := by
  have := cmpB_l0 a b ha a.length 0 k (by omega) (by omega) (by omega)
  unfold slices_Compare_byte_byte.f
  simpa using this

/-! ### bag_sign: function 256 -/
def bag_sign.f (k : Nat) (a0_0 : Int) (l0_1 : List Int) (a1_0 : Int) (l1_1 : List Int) : Option (Int) := if a0_0 = a1_0 then ((slices_Compare_byte_byte.f k l0_1 l1_1).bind fun t147 => (some t147)) else (if a0_0 < a1_0 then (some (-1)) else (some 1))
theorem bag_sign.mono : ∀ a0 a1 a2 a3 k, LeO (bag_sign.f k a0 a1 a2 a3) (bag_sign.f (k + 1) a0 a1 a2 a3) := by
  intro a0 a1 a2 a3 k
  unfold bag_sign.f
  repeat' first
      | (with_reducible exact slices_Compare_byte_byte.mono _ _ _)
      | (with_reducible exact LeO.refl _)
      | (with_reducible exact LeO.none _)
      | (with_reducible refine LeO.ite ?_ ?_)
      | (with_reducible refine LeO.bind ?_ (fun _ => ?_))
      | exact slices_Compare_byte_byte.mono _ _ _
      | exact LeO.none _
      | refine LeO.ite ?_ ?_
      | refine LeO.bind ?_ (fun _ => ?_)
set_option maxHeartbeats 8000000 in
set_option maxRecDepth 100000 in
theorem bag_sign.calls (k : Nat) (a0_0 : Int) (A0_1 : Option Addr) (c0_1 : Nat) (l0_1 : List Int) (a1_0 : Int) (A1_1 : Option Addr) (c1_1 : Nat) (l1_1 : List Int) (r : Int) (w : World) (hr0_1 : Kd.C (Kd.int .u8) w A0_1 l0_1.length l0_1) (hc0_1 : l0_1.length ≤ c0_1) (hr1_1 : Kd.C (Kd.int .u8) w A1_1 l1_1.length l1_1) (hc1_1 : l1_1.length ≤ c1_1) (h : bag_sign.f k a0_0 l0_1 a1_0 l1_1 = some r) :
    Calls Try.prog 256 #[.agg #[.int .i64 a0_0, .slice A0_1 l0_1.length c0_1], .agg #[.int .i64 a1_0, .slice A1_1 l1_1.length c1_1]] w fun e w' => e = .returned (.int .i64 r) ∧ Below w.heap.size w w' := by
  have hu332 := Try.underlying332
  have HR0_1 := Aside0.mk hr0_1
  have HC0_1 := Aside0.mk hc0_1
  clear hr0_1 hc0_1
  have HR1_1 := Aside0.mk hr1_1
  have HC1_1 := Aside0.mk hc1_1
  clear hr1_1 hc1_1
  have HB := Aside0.mk (Below.refl w.heap.size w)
  have H : (if a0_0 = a1_0 then ((slices_Compare_byte_byte.f k l0_1 l1_1).bind fun t147 => (some t147)) else (if a0_0 < a1_0 then (some (-1)) else (some 1))) = some r := h
  clear h
  by_cases c3 : a0_0 = a1_0
  · rw [if_pos c3] at H
    have c3b0 : (a0_0 == a1_0) = true := beq_iff_eq.mpr c3
    have c3b1 : (a0_0 != a1_0) = false := bne_eq_false_iff_eq.mpr c3
    clear c3
    replace H := Option.bind_eq_some_iff.mp H
    obtain ⟨t147, A40, H⟩ := H
    replace H : (some t147) = some r := H
    have A4 := Aside0.mk A40
    clear A40
    obtain rfl := Option.some.inj H
    go_enter Try.func256, Try.ntmps256
    go_wp2_with (first | ((with_reducible refine gate_dst (N := 2) rfl ?_); refine box_event ?hg (N := 2) ?hd (cs := #[.int .i64 a0_0, .slice A0_1 l0_1.length c0_1]) (t := 332) ?hr ?_; (case hd => rfl); (case hg => rfl); (case hr => first | (go_simp; done) | (go_simp; rfl)); intro gb145 hg w5 hbox hb; have n0_ := Aside0.mk (below_step (by repeat (first | (with_reducible first | exact HB.out | apply below_alloc | apply pw_below_drewN | apply below_drew1) | exact HB.out)) hb); have n1_ := Aside0.mk (hbox); have n2_ := Aside0.mk ((by rw [hg]; exact (below_size (by repeat (first | (with_reducible first | exact HB.out | apply below_alloc | apply pw_below_drewN | apply below_drew1) | exact HB.out))) : w.heap.size ≤ gb145)); have n3_ := Aside0.mk ((by rw [hg]; exact (below_size (by repeat (first | (with_reducible first | exact HB.out | apply below_alloc | apply pw_below_drewN | apply below_drew1) | exact HB.out))) : w.heap.size ≤ gb145)); clear HB; have HB := n0_; have BK145 := n1_; have GW145 := n2_; have GE145 := n3_; clear n0_ n1_ n2_ n3_; clear hb hbox hg) | ((with_reducible refine gate_dst (N := 3) rfl ?_); refine box_event ?hg (N := 3) ?hd (cs := #[.int .i64 a1_0, .slice A1_1 l1_1.length c1_1]) (t := 332) ?hr ?_; (case hd => rfl); (case hg => rfl); (case hr => first | (go_simp; done) | (go_simp; rfl)); intro gb146 hg w6 hbox hb; have n0_ := Aside0.mk (blk_below (g := gb145) (o := .cells #[.int .i64 a0_0, .slice A0_1 l0_1.length c0_1] 332 (0, 0)) (by (with_reducible repeat (first | refine blk_drewN ?_ _ | refine blk_drew ?_ | refine blk_alloc ?_ _)); exact BK145.out) hb); have n1_ := Aside0.mk (below_step (by repeat (first | (with_reducible first | exact HB.out | apply below_alloc | apply pw_below_drewN | apply below_drew1 | refine below_set ?_ GE145.out) | exact HB.out)) hb); have n2_ := Aside0.mk (hbox); have n3_ := Aside0.mk ((by rw [hg]; exact (below_size (by repeat (first | (with_reducible first | exact HB.out | apply below_alloc | apply pw_below_drewN | apply below_drew1 | refine below_set ?_ GE145.out) | exact HB.out))) : w.heap.size ≤ gb146)); have n4_ := Aside0.mk ((by rw [hg]; exact (below_size (by repeat (first | (with_reducible first | exact HB.out | apply below_alloc | apply pw_below_drewN | apply below_drew1 | refine below_set ?_ GE145.out) | exact HB.out))) : w.heap.size ≤ gb146)); have n5_ := Aside0.mk ((by rw [hg]; exact Nat.ne_of_lt (blk_lt (g := gb145) (o := .cells #[.int .i64 a0_0, .slice A0_1 l0_1.length c0_1] 332 (0, 0)) (by (with_reducible repeat (first | refine blk_drewN ?_ _ | refine blk_drew ?_ | refine blk_alloc ?_ _)); exact BK145.out)) : gb145 ≠ gb146)); have n6_ := Aside0.mk ((by rw [hg]; exact Nat.ne_of_gt (blk_lt (g := gb145) (o := .cells #[.int .i64 a0_0, .slice A0_1 l0_1.length c0_1] 332 (0, 0)) (by (with_reducible repeat (first | refine blk_drewN ?_ _ | refine blk_drew ?_ | refine blk_alloc ?_ _)); exact BK145.out)) : gb146 ≠ gb145)); clear BK145; clear HB; have BK145 := n0_; have HB := n1_; have BK146 := n2_; have GW146 := n3_; have GE146 := n4_; have NB145_146 := n5_; have NB146_145 := n6_; clear n0_ n1_ n2_ n3_ n4_ n5_ n6_; clear hb hbox hg; have hnb7 := NB145_146.out; have hnc7 := NB146_145.out; have hcz8_0 : w6.cell? ⟨gb145, 0, none⟩ = some (.int .i64 a0_0) := (blk_cell BK145.out 0).trans rfl; have hcz8_1 : w6.cell? ⟨gb145, 1, none⟩ = some (.slice A0_1 l0_1.length c0_1) := (blk_cell BK145.out 1).trans rfl; have hfz8_0 := blk_frozen BK145.out 0; have hfz8_1 := blk_frozen BK145.out 1; have hcz9_0 : w6.cell? ⟨gb146, 0, none⟩ = some (.int .i64 a1_0) := (blk_cell BK146.out 0).trans rfl; have hcz9_1 : w6.cell? ⟨gb146, 1, none⟩ = some (.slice A1_1 l1_1.length c1_1) := (blk_cell BK146.out 1).trans rfl; have hfz9_0 := blk_frozen BK146.out 0; have hfz9_1 := blk_frozen BK146.out 1) | ((with_reducible refine gate_callee (f := 276) rfl ?_); refine goesL_ (some 19) rfl rfl Try.func276 (by kernel_rfl) rfl #[.slice A0_1 l0_1.length c0_1, .slice A1_1 l1_1.length c1_1] rfl (by (try simp only [List.map_toArray, List.map_cons, List.map_nil]); first | done | rfl | (simp only [List.length_drop, List.length_take]; rfl)) ?_; (with_reducible refine (slices_Compare_byte_byte.calls k _ _ l0_1 _ _ l1_1 t147 _ ?side1 ?side2 ?side3 ?side4 A4.out).mono ?_); (case side1 => repeat (first | exact (Kd.C_below HR0_1.out HB.out) | (with_reducible refine Kd.C_alloc ?_ _) | (with_reducible refine Kd.C_drewN ?_ _) | (with_reducible refine Kd.C_drew ?_))); (case side2 => exact HC0_1.out); (case side3 => repeat (first | exact (Kd.C_below HR1_1.out HB.out) | (with_reducible refine Kd.C_alloc ?_ _) | (with_reducible refine Kd.C_drewN ?_ _) | (with_reducible refine Kd.C_drew ?_))); (case side4 => exact HC1_1.out); rintro e w' ⟨rfl, ⟨nd, rfl⟩⟩; refine ⟨_, rfl, ?_⟩))
    go_ret
    exact ⟨by first | rfl | (simp [errW_none, errW_some] <;> rfl) | (simp [*, errW_none, errW_some] <;> rfl), by repeat (first | (with_reducible first | exact HB.out | apply below_alloc | apply pw_below_drewN | apply below_drew1 | refine below_set ?_ GE145.out | refine below_set ?_ GE146.out) | exact HB.out)⟩
  · rw [if_neg c3] at H
    have c3b0 : (a0_0 == a1_0) = false := beq_eq_false_iff_ne.mpr c3
    have c3b1 : (a0_0 != a1_0) = true := bne_iff_ne.mpr c3
    by_cases c10 : a0_0 < a1_0
    · rw [if_pos c10] at H
      have c10b0 : decide (a0_0 < a1_0) = true := decide_eq_true c10
      clear c10
      obtain rfl := Option.some.inj H
      go_enter Try.func256, Try.ntmps256
      go_wp2_with (first | ((with_reducible refine gate_dst (N := 2) rfl ?_); refine box_event ?hg (N := 2) ?hd (cs := #[.int .i64 a0_0, .slice A0_1 l0_1.length c0_1]) (t := 332) ?hr ?_; (case hd => rfl); (case hg => rfl); (case hr => first | (go_simp; done) | (go_simp; rfl)); intro gb145 hg w11 hbox hb; have n0_ := Aside0.mk (below_step (by repeat (first | (with_reducible first | exact HB.out | apply below_alloc | apply pw_below_drewN | apply below_drew1) | exact HB.out)) hb); have n1_ := Aside0.mk (hbox); have n2_ := Aside0.mk ((by rw [hg]; exact (below_size (by repeat (first | (with_reducible first | exact HB.out | apply below_alloc | apply pw_below_drewN | apply below_drew1) | exact HB.out))) : w.heap.size ≤ gb145)); have n3_ := Aside0.mk ((by rw [hg]; exact (below_size (by repeat (first | (with_reducible first | exact HB.out | apply below_alloc | apply pw_below_drewN | apply below_drew1) | exact HB.out))) : w.heap.size ≤ gb145)); clear HB; have HB := n0_; have BK145 := n1_; have GW145 := n2_; have GE145 := n3_; clear n0_ n1_ n2_ n3_; clear hb hbox hg) | ((with_reducible refine gate_dst (N := 3) rfl ?_); refine box_event ?hg (N := 3) ?hd (cs := #[.int .i64 a1_0, .slice A1_1 l1_1.length c1_1]) (t := 332) ?hr ?_; (case hd => rfl); (case hg => rfl); (case hr => first | (go_simp; done) | (go_simp; rfl)); intro gb146 hg w12 hbox hb; have n0_ := Aside0.mk (blk_below (g := gb145) (o := .cells #[.int .i64 a0_0, .slice A0_1 l0_1.length c0_1] 332 (0, 0)) (by (with_reducible repeat (first | refine blk_drewN ?_ _ | refine blk_drew ?_ | refine blk_alloc ?_ _)); exact BK145.out) hb); have n1_ := Aside0.mk (below_step (by repeat (first | (with_reducible first | exact HB.out | apply below_alloc | apply pw_below_drewN | apply below_drew1 | refine below_set ?_ GE145.out) | exact HB.out)) hb); have n2_ := Aside0.mk (hbox); have n3_ := Aside0.mk ((by rw [hg]; exact (below_size (by repeat (first | (with_reducible first | exact HB.out | apply below_alloc | apply pw_below_drewN | apply below_drew1 | refine below_set ?_ GE145.out) | exact HB.out))) : w.heap.size ≤ gb146)); have n4_ := Aside0.mk ((by rw [hg]; exact (below_size (by repeat (first | (with_reducible first | exact HB.out | apply below_alloc | apply pw_below_drewN | apply below_drew1 | refine below_set ?_ GE145.out) | exact HB.out))) : w.heap.size ≤ gb146)); have n5_ := Aside0.mk ((by rw [hg]; exact Nat.ne_of_lt (blk_lt (g := gb145) (o := .cells #[.int .i64 a0_0, .slice A0_1 l0_1.length c0_1] 332 (0, 0)) (by (with_reducible repeat (first | refine blk_drewN ?_ _ | refine blk_drew ?_ | refine blk_alloc ?_ _)); exact BK145.out)) : gb145 ≠ gb146)); have n6_ := Aside0.mk ((by rw [hg]; exact Nat.ne_of_gt (blk_lt (g := gb145) (o := .cells #[.int .i64 a0_0, .slice A0_1 l0_1.length c0_1] 332 (0, 0)) (by (with_reducible repeat (first | refine blk_drewN ?_ _ | refine blk_drew ?_ | refine blk_alloc ?_ _)); exact BK145.out)) : gb146 ≠ gb145)); clear BK145; clear HB; have BK145 := n0_; have HB := n1_; have BK146 := n2_; have GW146 := n3_; have GE146 := n4_; have NB145_146 := n5_; have NB146_145 := n6_; clear n0_ n1_ n2_ n3_ n4_ n5_ n6_; clear hb hbox hg; have hnb13 := NB145_146.out; have hnc13 := NB146_145.out; have hcz14_0 : w12.cell? ⟨gb145, 0, none⟩ = some (.int .i64 a0_0) := (blk_cell BK145.out 0).trans rfl; have hcz14_1 : w12.cell? ⟨gb145, 1, none⟩ = some (.slice A0_1 l0_1.length c0_1) := (blk_cell BK145.out 1).trans rfl; have hfz14_0 := blk_frozen BK145.out 0; have hfz14_1 := blk_frozen BK145.out 1; have hcz15_0 : w12.cell? ⟨gb146, 0, none⟩ = some (.int .i64 a1_0) := (blk_cell BK146.out 0).trans rfl; have hcz15_1 : w12.cell? ⟨gb146, 1, none⟩ = some (.slice A1_1 l1_1.length c1_1) := (blk_cell BK146.out 1).trans rfl; have hfz15_0 := blk_frozen BK146.out 0; have hfz15_1 := blk_frozen BK146.out 1))
      go_ret
      exact ⟨by first | rfl | (simp [errW_none, errW_some] <;> rfl) | (simp [*, errW_none, errW_some] <;> rfl), by repeat (first | (with_reducible first | exact HB.out | apply below_alloc | apply pw_below_drewN | apply below_drew1 | refine below_set ?_ GE145.out | refine below_set ?_ GE146.out) | exact HB.out)⟩
    · rw [if_neg c10] at H
      have c10b0 : decide (a0_0 < a1_0) = false := decide_eq_false c10
      clear c10
      obtain rfl := Option.some.inj H
      go_enter Try.func256, Try.ntmps256
      go_wp2_with (first | ((with_reducible refine gate_dst (N := 2) rfl ?_); refine box_event ?hg (N := 2) ?hd (cs := #[.int .i64 a0_0, .slice A0_1 l0_1.length c0_1]) (t := 332) ?hr ?_; (case hd => rfl); (case hg => rfl); (case hr => first | (go_simp; done) | (go_simp; rfl)); intro gb145 hg w16 hbox hb; have n0_ := Aside0.mk (below_step (by repeat (first | (with_reducible first | exact HB.out | apply below_alloc | apply pw_below_drewN | apply below_drew1) | exact HB.out)) hb); have n1_ := Aside0.mk (hbox); have n2_ := Aside0.mk ((by rw [hg]; exact (below_size (by repeat (first | (with_reducible first | exact HB.out | apply below_alloc | apply pw_below_drewN | apply below_drew1) | exact HB.out))) : w.heap.size ≤ gb145)); have n3_ := Aside0.mk ((by rw [hg]; exact (below_size (by repeat (first | (with_reducible first | exact HB.out | apply below_alloc | apply pw_below_drewN | apply below_drew1) | exact HB.out))) : w.heap.size ≤ gb145)); clear HB; have HB := n0_; have BK145 := n1_; have GW145 := n2_; have GE145 := n3_; clear n0_ n1_ n2_ n3_; clear hb hbox hg) | ((with_reducible refine gate_dst (N := 3) rfl ?_); refine box_event ?hg (N := 3) ?hd (cs := #[.int .i64 a1_0, .slice A1_1 l1_1.length c1_1]) (t := 332) ?hr ?_; (case hd => rfl); (case hg => rfl); (case hr => first | (go_simp; done) | (go_simp; rfl)); intro gb146 hg w17 hbox hb; have n0_ := Aside0.mk (blk_below (g := gb145) (o := .cells #[.int .i64 a0_0, .slice A0_1 l0_1.length c0_1] 332 (0, 0)) (by (with_reducible repeat (first | refine blk_drewN ?_ _ | refine blk_drew ?_ | refine blk_alloc ?_ _)); exact BK145.out) hb); have n1_ := Aside0.mk (below_step (by repeat (first | (with_reducible first | exact HB.out | apply below_alloc | apply pw_below_drewN | apply below_drew1 | refine below_set ?_ GE145.out) | exact HB.out)) hb); have n2_ := Aside0.mk (hbox); have n3_ := Aside0.mk ((by rw [hg]; exact (below_size (by repeat (first | (with_reducible first | exact HB.out | apply below_alloc | apply pw_below_drewN | apply below_drew1 | refine below_set ?_ GE145.out) | exact HB.out))) : w.heap.size ≤ gb146)); have n4_ := Aside0.mk ((by rw [hg]; exact (below_size (by repeat (first | (with_reducible first | exact HB.out | apply below_alloc | apply pw_below_drewN | apply below_drew1 | refine below_set ?_ GE145.out) | exact HB.out))) : w.heap.size ≤ gb146)); have n5_ := Aside0.mk ((by rw [hg]; exact Nat.ne_of_lt (blk_lt (g := gb145) (o := .cells #[.int .i64 a0_0, .slice A0_1 l0_1.length c0_1] 332 (0, 0)) (by (with_reducible repeat (first | refine blk_drewN ?_ _ | refine blk_drew ?_ | refine blk_alloc ?_ _)); exact BK145.out)) : gb145 ≠ gb146)); have n6_ := Aside0.mk ((by rw [hg]; exact Nat.ne_of_gt (blk_lt (g := gb145) (o := .cells #[.int .i64 a0_0, .slice A0_1 l0_1.length c0_1] 332 (0, 0)) (by (with_reducible repeat (first | refine blk_drewN ?_ _ | refine blk_drew ?_ | refine blk_alloc ?_ _)); exact BK145.out)) : gb146 ≠ gb145)); clear BK145; clear HB; have BK145 := n0_; have HB := n1_; have BK146 := n2_; have GW146 := n3_; have GE146 := n4_; have NB145_146 := n5_; have NB146_145 := n6_; clear n0_ n1_ n2_ n3_ n4_ n5_ n6_; clear hb hbox hg; have hnb18 := NB145_146.out; have hnc18 := NB146_145.out; have hcz19_0 : w17.cell? ⟨gb145, 0, none⟩ = some (.int .i64 a0_0) := (blk_cell BK145.out 0).trans rfl; have hcz19_1 : w17.cell? ⟨gb145, 1, none⟩ = some (.slice A0_1 l0_1.length c0_1) := (blk_cell BK145.out 1).trans rfl; have hfz19_0 := blk_frozen BK145.out 0; have hfz19_1 := blk_frozen BK145.out 1; have hcz20_0 : w17.cell? ⟨gb146, 0, none⟩ = some (.int .i64 a1_0) := (blk_cell BK146.out 0).trans rfl; have hcz20_1 : w17.cell? ⟨gb146, 1, none⟩ = some (.slice A1_1 l1_1.length c1_1) := (blk_cell BK146.out 1).trans rfl; have hfz20_0 := blk_frozen BK146.out 0; have hfz20_1 := blk_frozen BK146.out 1))
      go_ret
      exact ⟨by first | rfl | (simp [errW_none, errW_some] <;> rfl) | (simp [*, errW_none, errW_some] <;> rfl), by repeat (first | (with_reducible first | exact HB.out | apply below_alloc | apply pw_below_drewN | apply below_drew1 | refine below_set ?_ GE145.out | refine below_set ?_ GE146.out) | exact HB.out)⟩

end Go.Proofs.Ythajahdjkmfnnaa.DL
