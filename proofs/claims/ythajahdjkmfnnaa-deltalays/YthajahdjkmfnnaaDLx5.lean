-- Printed by a program of this session (wip/pp.py) over the kit's printer, with functions proved by hand among them.
import Derived.Test.YthajahdjkmfnnaaDLx0
import Derived.Test.YthajahdjkmfnnaaDLx2
import Derived.Test.YthajahdjkmfnnaaDLx4
namespace Go.Proofs.Ythajahdjkmfnnaa.DL
open Go.RowKit Go.Proofs.YthajahdjkmfnnaaW.PrintWords Go.Proofs.YthajahdjkmfnnaaW.PrintLast Go.Proofs.YthajahdjkmfnnaaW.PrintMore
attribute [local go_sem] max2_int min2_int max_two min_two max_three min_three max_four min_four   -- for this text's walks alone
set_option linter.unusedVariables false
set_option linter.unusedSimpArgs false

/-! ### rec_Sorted: function 30 -/
/-- What the closure of rec.Sorted does: bad or not, and the last id. -/
def stepS (last : Int) (x : S31) : Bool × Int := (!recV x || decide (x.f0 ≤ last), x.f0)
def sortedB (l : List S31) : Bool := decide (whr stepS (-1) l = l.length)
theorem Sorted1.calls (w0 W : World) (last : Int) (g : Nat) (hg : w0.heap.size ≤ g) (x : S31) (A : Option Addr) (c : Nat) (hlc : x.f5.length ≤ c) (hr : k332.C w0 A x.f5.length x.f5) (hB : Below w0.heap.size w0 W)
    (hs : W.heap[g]? = some (.cells #[.int .i64 last] 3 (0, 0))) :
    Calls Try.prog 138 #[.agg #[.int .i64 x.f0, .int .i64 x.f1, .int .i64 x.f2, .int .i64 x.f3.f0, .int .i64 x.f3.f1, .bool x.f4, .slice A x.f5.length c], .pointer (some ⟨g, 0, none⟩)] W fun e W' =>
      e = .returned (.bool (stepS last x).1) ∧ W'.heap[g]? = some (.cells #[.int .i64 (stepS last x).2] 3 (0, 0)) ∧ Below w0.heap.size w0 W' ∧ KeepBut W W' g none := by
  have HR := Aside0.mk hr
  have HB := Aside0.mk hB
  have HS := Aside0.mk hs
  have HG := Aside0.mk (blk_lt hs)
  have HL := Aside0.mk hlc
  have HV := Aside0.mk (rec_Valid_f x 70 (Nat.le_refl _))
  clear hr hB hs hlc
  have hu31 := Try.underlying31
  have c0 := blk_cell HS.out 0
  have f0 := blk_frozen HS.out 0
  simp only [List.getElem?_toArray, List.getElem?_cons_zero] at c0
  have HG0 := Aside0.mk hg
  clear hg
  have cp : ∀ (w2 : World), Below (W.alloc (.cells #[.int .i64 x.f0, .int .i64 x.f1, .int .i64 x.f2, .int .i64 x.f3.f0, .int .i64 x.f3.f1, .bool x.f4, .slice A x.f5.length c] 31)).heap.size (W.alloc (.cells #[.int .i64 x.f0, .int .i64 x.f1, .int .i64 x.f2, .int .i64 x.f3.f0, .int .i64 x.f3.f1, .bool x.f4, .slice A x.f5.length c] 31)) w2 →
      w2.cell? ⟨W.heap.size, 0, none⟩ = some (.int .i64 x.f0) ∧ w2.heap[g]? = some (.cells #[.int .i64 last] 3 (0, 0)) := fun w2 hb =>
    ⟨(blk_cell (blk_below (blk_new W _) hb) 0).trans rfl, blk_below (blk_alloc HS.out _) hb⟩
  have CP := Aside0.mk cp
  clear cp
  cases hv : recV x
  · have hx : stepS last x = (true, x.f0) := by simp [stepS, hv]
    rw [hv] at HV
    go_enter Try.func138, Try.ntmps138
    go_wp2_with (go_at_call 60; ((with_reducible refine (rec_Valid.calls 70 x.f0 x.f1 x.f2 x.f3.f0 x.f3.f1 x.f4 A c x.f5 false _ ?h1 HL.out HV.out).mono ?_); (case h1 => exact Kd.C_alloc (Kd.C_below HR.out HB.out) _); rintro e w2 ⟨rfl, hb⟩; obtain ⟨p0, p1⟩ := CP.out w2 hb; (have q0 := (blk_cell p1 0).trans rfl); (have q1 := blk_frozen p1 0); (have P1 := Aside0.mk p1); (have HB2 := Aside0.mk hb); clear p1 hb))
    go_ret
    rw [hx]
    exact ⟨rfl, by simpa using blk_set P1.out 0 (.int .i64 x.f0), (below_then (below_alloc_of HB.out _) (below_alloc_of HB.out _).size HB2.out).setCell HG0.out _, (keep_after HB2.out).set_ 0 _⟩
  · have hx : stepS last x = (decide (x.f0 ≤ last), x.f0) := by simp [stepS, hv]
    rw [hv] at HV
    go_enter Try.func138, Try.ntmps138
    go_wp2_with (go_at_call 60; ((with_reducible refine (rec_Valid.calls 70 x.f0 x.f1 x.f2 x.f3.f0 x.f3.f1 x.f4 A c x.f5 true _ ?h1 HL.out HV.out).mono ?_); (case h1 => exact Kd.C_alloc (Kd.C_below HR.out HB.out) _); rintro e w2 ⟨rfl, hb⟩; obtain ⟨p0, p1⟩ := CP.out w2 hb; (have q0 := (blk_cell p1 0).trans rfl); (have q1 := blk_frozen p1 0); (have P1 := Aside0.mk p1); (have HB2 := Aside0.mk hb); clear p1 hb))
    go_ret
    rw [hx]
    exact ⟨rfl, by simpa using blk_set P1.out 0 (.int .i64 x.f0), (below_then (below_alloc_of HB.out _) (below_alloc_of HB.out _).size HB2.out).setCell HG0.out _, (keep_after HB2.out).set_ 0 _⟩
def rec_Sorted.f (l0 : List S31) : Option Bool := some (sortedB l0)
set_option maxRecDepth 100000 in
theorem rec_Sorted.calls (A0 : Option Addr) (c0 : Nat) (l0 : List S31) (r : Bool) (w : World) (hr0 : Kd.C k31 w A0 l0.length l0) (hc0 : l0.length ≤ c0) (h : rec_Sorted.f l0 = some r) :
    Calls Try.prog 30 #[.slice A0 l0.length c0] w fun e w' => e = .returned (.bool r) ∧ Below w.heap.size w w' := by
  obtain rfl : sortedB l0 = r := Option.some.inj h
  have hlen := hr0.2.1
  have HR := Aside0.mk hr0
  clear hr0 h
  have hmf : ∀ (fn : Fn) (first cap : Array Value) (w : World), (Instr.makeFunc fn first cap).run Try.prog w = .ok (.func fn first cap) w := fun _ _ _ _ => rfl
  go_enter Try.func30, Try.ntmps30
  go_wp2_with (go_at_call 135; ((with_reducible refine (where31.calls 138 (fun s : Int => #[.int .i64 s]) 3 stepS w.heap.size w (Nat.le_refl _) l0 (enters_ Try.func138 (by kernel_rfl) rfl) ?hC A0 c0 HR.out hc0 hlen (-1) _ ?hB ?hS).mono ?_); (case hC => intro s x A c W _ h1 h2 h3 h4; exact Sorted1.calls w W s w.heap.size (Nat.le_refl _) x A c h1 h2 h3 h4); (case hB => exact below_alloc (Below.refl _ _) _); (case hS => exact blk_new _ _); rintro e w2 ⟨rfl, -, hb, -⟩))
  go_ret
  exact ⟨by rw [sortedB, ← beq_cast]; rfl, hb⟩


/-! ### delta_both: function 140 -/
def delta_both.f (l0 : List (S31)) (l1 : List (S31)) : Option (Bool) := (rec_Sorted.f l0).bind fun t110 => (if t110 = true then ((rec_Sorted.f l1).bind fun t111 => (some t111)) else (some false))
set_option maxHeartbeats 8000000 in
set_option maxRecDepth 100000 in
theorem delta_both.calls (A0 : Option Addr) (c0 : Nat) (l0 : List (S31)) (A1 : Option Addr) (c1 : Nat) (l1 : List (S31)) (r : Bool) (w : World) (hr0 : Kd.C k31 w A0 l0.length l0) (hc0 : l0.length ≤ c0) (hr1 : Kd.C k31 w A1 l1.length l1) (hc1 : l1.length ≤ c1) (h : delta_both.f l0 l1 = some r) :
    Calls Try.prog 140 #[.slice A0 l0.length c0, .slice A1 l1.length c1] w fun e w' => e = .returned (.bool r) ∧ Below w.heap.size w w' := by
  have HR0 := Aside0.mk hr0
  have HC0 := Aside0.mk hc0
  clear hr0 hc0
  have HR1 := Aside0.mk hr1
  have HC1 := Aside0.mk hc1
  clear hr1 hc1
  have HB := Aside0.mk (Below.refl w.heap.size w)
  have H : ((rec_Sorted.f l0).bind fun t110 => (if t110 = true then ((rec_Sorted.f l1).bind fun t111 => (some t111)) else (some false))) = some r := h
  clear h
  replace H := Option.bind_eq_some_iff.mp H
  obtain ⟨t110, A30, H⟩ := H
  replace H : (if t110 = true then ((rec_Sorted.f l1).bind fun t111 => (some t111)) else (some false)) = some r := H
  have A3 := Aside0.mk A30
  clear A30
  by_cases c4 : t110 = true
  · subst c4
    have H1 : ((rec_Sorted.f l1).bind fun t111 => (some t111)) = some r := by rw [if_pos rfl] at H; exact H
    clear H
    have H := H1
    clear H1
    replace H := Option.bind_eq_some_iff.mp H
    obtain ⟨t111, A50, H⟩ := H
    replace H : (some t111) = some r := H
    have A5 := Aside0.mk A50
    clear A50
    obtain rfl := Option.some.inj H
    go_enter Try.func140, Try.ntmps140
    go_wp2_with (first | ((with_reducible refine gate_callee (f := 30) rfl ?_); refine goesL_ (some 6) rfl rfl Try.func30 (by kernel_rfl) rfl #[.slice A0 l0.length c0] rfl (by (try simp only [List.map_toArray, List.map_cons, List.map_nil]); first | done | rfl | (simp only [List.length_drop, List.length_take]; rfl)) ?_; (with_reducible refine (rec_Sorted.calls _ _ l0 true _ ?side1 ?side2 A3.out).mono ?_); (case side1 => repeat (first | exact HR0.out | (with_reducible refine Kd.C_alloc ?_ _) | (with_reducible refine Kd.C_drewN ?_ _) | (with_reducible refine Kd.C_drew ?_))); (case side2 => exact HC0.out); rintro e w6 ⟨rfl, hb⟩; refine ⟨_, rfl, ?_⟩; have n0_ := Aside0.mk (below_step (by repeat (first | (with_reducible first | exact HB.out | apply below_alloc | apply pw_below_drewN | apply below_drew1) | exact HB.out)) hb); clear HB; have HB := n0_; clear n0_; (try clear hb); (try clear hb2); (try clear hk); (try clear hi)) | (go_at_call 30; (with_reducible refine (rec_Sorted.calls _ _ l1 t111 _ ?side1 ?side2 A5.out).mono ?_); (case side1 => repeat (first | exact (Kd.C_below HR1.out HB.out) | (with_reducible refine Kd.C_alloc ?_ _) | (with_reducible refine Kd.C_drewN ?_ _) | (with_reducible refine Kd.C_drew ?_))); (case side2 => exact HC1.out); rintro e w7 ⟨rfl, hb⟩; have n0_ := Aside0.mk (below_step (by repeat (first | (with_reducible first | exact HB.out | apply below_alloc | apply pw_below_drewN | apply below_drew1) | exact HB.out)) hb); clear HB; have HB := n0_; clear n0_; (try clear hb); (try clear hb2); (try clear hk); (try clear hi)))
    go_ret
    exact ⟨by first | rfl | (simp [errW_none, errW_some] <;> rfl) | (simp [*, errW_none, errW_some] <;> rfl), by repeat (first | (with_reducible first | exact HB.out | apply below_alloc | apply pw_below_drewN | apply below_drew1) | exact HB.out)⟩
  · replace c4 := Bool.eq_false_iff.mpr c4
    subst c4
    have H1 : (some false) = some r := by rw [if_neg (show ¬ (false = true) by decide)] at H; exact H
    clear H
    have H := H1
    clear H1
    obtain rfl := Option.some.inj H
    go_enter Try.func140, Try.ntmps140
    go_wp2_with (first | ((with_reducible refine gate_callee (f := 30) rfl ?_); refine goesL_ (some 6) rfl rfl Try.func30 (by kernel_rfl) rfl #[.slice A0 l0.length c0] rfl (by (try simp only [List.map_toArray, List.map_cons, List.map_nil]); first | done | rfl | (simp only [List.length_drop, List.length_take]; rfl)) ?_; (with_reducible refine (rec_Sorted.calls _ _ l0 false _ ?side1 ?side2 A3.out).mono ?_); (case side1 => repeat (first | exact HR0.out | (with_reducible refine Kd.C_alloc ?_ _) | (with_reducible refine Kd.C_drewN ?_ _) | (with_reducible refine Kd.C_drew ?_))); (case side2 => exact HC0.out); rintro e w8 ⟨rfl, hb⟩; refine ⟨_, rfl, ?_⟩; have n0_ := Aside0.mk (below_step (by repeat (first | (with_reducible first | exact HB.out | apply below_alloc | apply pw_below_drewN | apply below_drew1) | exact HB.out)) hb); clear HB; have HB := n0_; clear n0_; (try clear hb); (try clear hb2); (try clear hk); (try clear hi)))
    go_ret
    exact ⟨by first | rfl | (simp [errW_none, errW_some] <;> rfl) | (simp [*, errW_none, errW_some] <;> rfl), by repeat (first | (with_reducible first | exact HB.out | apply below_alloc | apply pw_below_drewN | apply below_drew1) | exact HB.out)⟩

theorem delta_both_f (a b : List S31) : delta_both.f a b = some (sortedB a && sortedB b) := by
  unfold delta_both.f rec_Sorted.f
  cases sortedB a <;> simp

/-! ### delta_side_int: function 141 -/
set_option maxHeartbeats 2000000 in
set_option maxRecDepth 100000 in
theorem sideI.calls (F : FuncId) (E : Option S31 → Option S31 → Option Int) (w0 : World) (a b : List S31)
    (hF : ∀ (args : Array Value) (W : World), (callFunc F args).run Try.prog W = .ok (.enter F args) W)
    (hclos : ∀ (x y : Option S31) (px py : Option Addr) (W : World), ¬ (x = none ∧ y = none) → PtrTo w0 x px → PtrTo w0 y py → Below w0.heap.size w0 W → (∀ u, x = some u → u ∈ a) → (∀ u, y = some u → u ∈ b) →
      Calls Try.prog F #[.pointer px, .pointer py] W (ClosI E x y W))
    (A0 A1 : Option Addr) (c0 c1 : Nat) (hr0 : Kd.C k31 w0 A0 a.length a) (hc0 : a.length ≤ c0) (hr1 : Kd.C k31 w0 A1 b.length b) (hc1 : b.length ≤ c1) (hlen : a.length + b.length < 1954687338268)
    (w : World) (hB : Below w0.heap.size w0 w) :
    Calls Try.prog 141 #[.slice A0 a.length c0, .slice A1 b.length c1, .func (.func F) #[] #[]] w fun e w' => ∃ v, e = .returned v ∧ Kd.R (Kd.int .i64) 3 w' w.heap.size (fun _ => True) v (sideP E a b) ∧ Below w.heap.size w w' := by
  have HC := Aside0.mk hclos
  have HB0 := Aside0.mk hB
  obtain ⟨K, hK⟩ : ∃ K, K = a.length + b.length := ⟨_, rfl⟩
  have R0 : ∃ (Aa Ab : Option Addr) (ca cb : Nat), (Value.slice A0 a.length c0 = .slice Aa a.length ca) ∧ (Value.slice A1 b.length c1 = .slice Ab b.length cb) ∧ a.length + b.length ≤ K ∧ K ≤ K ∧ Kd.C k31 w0 Aa a.length a ∧ a.length ≤ ca ∧ Kd.C k31 w0 Ab b.length b ∧ b.length ≤ cb := ⟨A0, A1, c0, c1, rfl, rfl, by omega, Nat.le_refl _, hr0, hc0, hr1, hc1⟩
  have hu31 := Try.underlying31
  clear hclos hB hr0 hr1
  have HR0 := Aside0.mk R0
  have HK := Aside0.mk hK
  clear R0 hK
  go_enter Try.func141, Try.ntmps141
  go_wp2
  go_loopg [0, 1, 7] K (fun kq v0 v1 v7 wr => ∃ (la lb : List S31) (acc : List Int) (Aa Ab : Option Addr) (ca cb : Nat), v0 = .slice Aa la.length ca ∧ v1 = .slice Ab lb.length cb ∧ Aside0 (la.length + lb.length ≤ kq ∧ kq ≤ K) ∧ Aside0 (acc ++ (pairsF kq la lb).filterMap (fun p => E p.1 p.2) = sideP E a b) ∧ Aside0 ((∀ u ∈ la, u ∈ a) ∧ ∀ u ∈ lb, u ∈ b) ∧ Aside0 (acc.length + la.length + lb.length ≤ K) ∧ Aside0 (Kd.C k31 w0 Aa la.length la ∧ la.length ≤ ca) ∧ Aside0 (Kd.C k31 w0 Ab lb.length lb ∧ lb.length ≤ cb) ∧ Aside0 (Kd.R (Kd.int .i64) 3 wr w.heap.size (fun _ => True) v7 acc) ∧ Aside0 (Below w.heap.size w wr))
  case atStart =>
    obtain ⟨Aa, Ab, ca, cb, e1, e2, hk, hkk, h1, h2, h3, h4⟩ := HR0.out
    exact ⟨a, b, [], Aa, Ab, ca, cb, e1, e2, ⟨hk, hkk⟩, ⟨by rw [HK.out]; rfl⟩, ⟨fun _ h => h, fun _ h => h⟩, ⟨by simpa using hk⟩, ⟨h1, h2⟩, ⟨h3, h4⟩, ⟨Kd.R_nil _ _ _ _ _⟩, ⟨Below.refl _ _⟩⟩
  case round =>
    obtain ⟨la, lb, acc, Aa, Ab, ca, cb, rfl, rfl, HKQ, HE, HM, HL, HA, HBb, HO, HB⟩ := hrel
    clear HR0
    obtain ⟨i0, hi0, _, hsz, _⟩ := info_parts info31
    rcases la with _ | ⟨x, xs⟩
    · rcases lb with _ | ⟨y, ys⟩
      · have hE := HE.out
        have : pairsF gk [] [] = [] := by cases gk <;> rfl
        rw [this] at hE
        simp only [List.filterMap_nil, List.append_nil] at hE
        have HE2 := Aside0.mk hE
        clear hE this HE
        go_wp2
        go_ret
        exact ⟨_, rfl, by rw [← HE2.out]; exact HO.out, HB.out⟩
      · obtain ⟨bd, rfl, py, y0⟩ := head31 HBb.out.1
        replace y0 := (HB.out.cell (World.block_lt_of_cell? w _ ((HB0.out.cell (World.block_lt_of_cell? w0 _ y0)).trans y0))).trans ((HB0.out.cell (World.block_lt_of_cell? w0 _ y0)).trans y0)
        have PY := Aside0.mk py
        clear py
        have hlt := trivial
        have hgt := trivial
        have b3 : ((ys.length : Int) + 1 == 0) = false := by simp; omega
        have hps : pairsF gk [] (y :: ys) = (none, (some y)) :: pairsF (gk - 1) [] ys := by rw [pairsF_step gk _ _ HKQ.out.1]; try simp [hlt, hgt]
        have HE2 := HE.out
        rw [hps, List.filterMap_cons] at HE2
        dsimp only at HE2
        clear hps HE
        have hcB := HBb.out.2
        obtain ⟨B', hcutB, hB'⟩ : ∃ B', (∀ W : World, (Instr.slice 22 (.slice (some bd) (ys.length + 1) cb) (some (.int .i64 1)) none none).run Try.prog W = .ok (.slice B' ys.length (cb - 1)) W) ∧ Kd.C k31 w0 B' ys.length ys := ⟨_, cut_from (P := Try.prog) 22 31 .i64 Try.underlying22 hi0 7 hsz (some bd) (ys.length + 1) cb 1 (by omega) (by omega), Kd.C_drop (m := 1) (c := cb) HBb.out.1 (by simp) HBb.out.2⟩
        have HNB := Aside0.mk hB'
        clear hcB hB'
        rcases hE : E none (some y) with _ | tt
        · rw [hE] at HE2
          dsimp only at HE2
          have HE3 := Aside0.mk HE2
          have HEE := Aside0.mk hE
          clear HE2 hE
          go_wp2
          go_quiet (fail)
          go_wp2
          go_quiet (fail)
          go_wp2_with fail
          generalize hW : wr.drewN _ = W
          have HP : Aside0 (Below w0.heap.size w0 W) := ⟨by rw [← hW]; exact below_then HB0.out HB0.out.size (pw_below_drewN HB.out _)⟩
          have HBW : Aside0 (Below w.heap.size w W) := ⟨by rw [← hW]; exact pw_below_drewN HB.out _⟩
          have HOW : Aside0 ((Kd.int .i64).R 3 W w.heap.size (fun _ => True) u7 acc) := ⟨by rw [← hW]; exact Kd.R_drewN HO.out _⟩
          clear hW HO HB
          (with_reducible refine (HC.out none (some y) none (some bd) _ ?h1 (PtrTo.nil _) PY.out ?h2 (fun u hu => by cases hu) (fun u hu => by cases hu; exact HM.out.2 _ List.mem_cons_self)).mono ?_); (case h1 => simp); (case h2 => exact HP.out); rintro e w2 ⟨tq, rfl, ht, hb⟩; rw [HEE.out]; clear ht; (have HB2 := Aside0.mk hb); clear hb
          go_wp2
          go_roundg (gk - 1)
          case measure => have := HKQ.out.1; simp only [List.length_cons, List.length_nil] at this; omega
          case rel => exact ⟨[], ys, acc, _, _, _, _, rfl, rfl, ⟨by have := HKQ.out; simp only [List.length_cons, List.length_nil, List.length_append] at this ⊢; omega⟩, HE3, ⟨HM.out.1, fun u hu => HM.out.2 u (List.mem_cons_of_mem _ hu)⟩, ⟨by have := HL.out; simp only [List.length_cons, List.length_nil, List.length_append] at this ⊢; omega⟩, ⟨HA.out.1, by have := HA.out.2; simp only [List.length_cons, List.length_nil] at this ⊢; omega⟩, ⟨HNB.out, by have := HBb.out.2; simp only [List.length_cons, List.length_nil] at this ⊢; omega⟩, ⟨Kd.R_below HOW.out HB2.out⟩, ⟨below_then HBW.out HBW.out.size HB2.out⟩⟩
        · rw [hE] at HE2
          dsimp only at HE2
          have HE3 := Aside0.mk HE2
          have HEE := Aside0.mk hE
          clear HE2 hE
          go_wp2
          go_quiet (fail)
          go_wp2
          go_quiet (fail)
          go_wp2_with fail
          generalize hW : wr.drewN _ = W
          have HP : Aside0 (Below w0.heap.size w0 W) := ⟨by rw [← hW]; exact below_then HB0.out HB0.out.size (pw_below_drewN HB.out _)⟩
          have HBW : Aside0 (Below w.heap.size w W) := ⟨by rw [← hW]; exact pw_below_drewN HB.out _⟩
          have HOW : Aside0 ((Kd.int .i64).R 3 W w.heap.size (fun _ => True) u7 acc) := ⟨by rw [← hW]; exact Kd.R_drewN HO.out _⟩
          clear hW HO HB
          (with_reducible refine (HC.out none (some y) none (some bd) _ ?h1 (PtrTo.nil _) PY.out ?h2 (fun u hu => by cases hu) (fun u hu => by cases hu; exact HM.out.2 _ List.mem_cons_self)).mono ?_); (case h1 => simp); (case h2 => exact HP.out); rintro e w2 ⟨tq, rfl, ht, hb⟩; rw [HEE.out]; obtain rfl := ht _ HEE.out; clear ht; (have HB2 := Aside0.mk hb); clear hb
          go_wp2_with (first | ((with_reducible refine gate_builtin (b := .append) (xs := #[.tmp 70, .tmp 72]) rfl ?_); at_builtin; refine Kd.R_append (Kd.int .i64) (w0 := w) w.heap.size rfl (.tmp 70) (.tmp 72) 36 3 (.int .i64 0) 8 rfl Try.underlying36 info3 rfl (show 0 < 1 from by decide) (by omega) u7 acc tt [.int .i64 tt] (fun _ => True) (fun k_ => True ∧ some k_ ≠ (u7 : Value).ownBlock) rfl rfl ?aP (fun _ hk => hk) (fun _ _ => trivial) ?aO ?aB ?aS ?aL ?_; (case aP => exact rfl); (case aO => exact Kd.R_below HOW.out HB2.out); (case aB => exact below_then HBW.out HBW.out.size HB2.out); (case aS => exact (below_then HBW.out HBW.out.size HB2.out).size); (case aL => have h1 := HL.out; have h2 := HK.out; simp only [List.length_cons, List.length_nil] at h1; omega); intro v1 w3 ho hb3 hg hat; (have HO3 := Aside0.mk ho); (have HB3 := Aside0.mk hb3); clear ho hb3 hg hat))
          go_roundg (gk - 1)
          case measure => have := HKQ.out.1; simp only [List.length_cons, List.length_nil] at this; omega
          case rel => exact ⟨[], ys, acc ++ [tt], _, _, _, _, rfl, rfl, ⟨by have := HKQ.out; simp only [List.length_cons, List.length_nil, List.length_append] at this ⊢; omega⟩, ⟨by rw [← HE3.out]; simp⟩, ⟨HM.out.1, fun u hu => HM.out.2 u (List.mem_cons_of_mem _ hu)⟩, ⟨by have := HL.out; simp only [List.length_cons, List.length_nil, List.length_append] at this ⊢; omega⟩, ⟨HA.out.1, by have := HA.out.2; simp only [List.length_cons, List.length_nil] at this ⊢; omega⟩, ⟨HNB.out, by have := HBb.out.2; simp only [List.length_cons, List.length_nil] at this ⊢; omega⟩, HO3, HB3⟩
    · rcases lb with _ | ⟨y, ys⟩
      · obtain ⟨ad, rfl, px, x0⟩ := head31 HA.out.1
        replace x0 := (HB.out.cell (World.block_lt_of_cell? w _ ((HB0.out.cell (World.block_lt_of_cell? w0 _ x0)).trans x0))).trans ((HB0.out.cell (World.block_lt_of_cell? w0 _ x0)).trans x0)
        have PX := Aside0.mk px
        clear px
        have hlt := trivial
        have hgt := trivial
        have b4 : ((xs.length : Int) + 1 == 0) = false := by simp; omega
        have hps : pairsF gk (x :: xs) [] = ((some x), none) :: pairsF (gk - 1) xs [] := by rw [pairsF_step gk _ _ HKQ.out.1]; try simp [hlt, hgt]
        have HE2 := HE.out
        rw [hps, List.filterMap_cons] at HE2
        dsimp only at HE2
        clear hps HE
        have hcA := HA.out.2
        obtain ⟨A', hcutA, hA'⟩ : ∃ A', (∀ W : World, (Instr.slice 22 (.slice (some ad) (xs.length + 1) ca) (some (.int .i64 1)) none none).run Try.prog W = .ok (.slice A' xs.length (ca - 1)) W) ∧ Kd.C k31 w0 A' xs.length xs := ⟨_, cut_from (P := Try.prog) 22 31 .i64 Try.underlying22 hi0 7 hsz (some ad) (xs.length + 1) ca 1 (by omega) (by omega), Kd.C_drop (m := 1) (c := ca) HA.out.1 (by simp) HA.out.2⟩
        have HNA := Aside0.mk hA'
        clear hcA hA'
        rcases hE : E (some x) none with _ | tt
        · rw [hE] at HE2
          dsimp only at HE2
          have HE3 := Aside0.mk HE2
          have HEE := Aside0.mk hE
          clear HE2 hE
          go_wp2
          go_quiet (fail)
          go_wp2
          go_quiet (fail)
          go_wp2_with fail
          generalize hW : wr.drewN _ = W
          have HP : Aside0 (Below w0.heap.size w0 W) := ⟨by rw [← hW]; exact below_then HB0.out HB0.out.size (pw_below_drewN HB.out _)⟩
          have HBW : Aside0 (Below w.heap.size w W) := ⟨by rw [← hW]; exact pw_below_drewN HB.out _⟩
          have HOW : Aside0 ((Kd.int .i64).R 3 W w.heap.size (fun _ => True) u7 acc) := ⟨by rw [← hW]; exact Kd.R_drewN HO.out _⟩
          clear hW HO HB
          (with_reducible refine (HC.out (some x) none (some ad) none _ ?h1 PX.out (PtrTo.nil _) ?h2 (fun u hu => by cases hu; exact HM.out.1 _ List.mem_cons_self) (fun u hu => by cases hu)).mono ?_); (case h1 => simp); (case h2 => exact HP.out); rintro e w2 ⟨tq, rfl, ht, hb⟩; rw [HEE.out]; clear ht; (have HB2 := Aside0.mk hb); clear hb
          go_wp2
          go_roundg (gk - 1)
          case measure => have := HKQ.out.1; simp only [List.length_cons, List.length_nil] at this; omega
          case rel => exact ⟨xs, [], acc, _, _, _, _, rfl, rfl, ⟨by have := HKQ.out; simp only [List.length_cons, List.length_nil, List.length_append] at this ⊢; omega⟩, HE3, ⟨fun u hu => HM.out.1 u (List.mem_cons_of_mem _ hu), HM.out.2⟩, ⟨by have := HL.out; simp only [List.length_cons, List.length_nil, List.length_append] at this ⊢; omega⟩, ⟨HNA.out, by have := HA.out.2; simp only [List.length_cons, List.length_nil] at this ⊢; omega⟩, ⟨HBb.out.1, by have := HBb.out.2; simp only [List.length_cons, List.length_nil] at this ⊢; omega⟩, ⟨Kd.R_below HOW.out HB2.out⟩, ⟨below_then HBW.out HBW.out.size HB2.out⟩⟩
        · rw [hE] at HE2
          dsimp only at HE2
          have HE3 := Aside0.mk HE2
          have HEE := Aside0.mk hE
          clear HE2 hE
          go_wp2
          go_quiet (fail)
          go_wp2
          go_quiet (fail)
          go_wp2_with fail
          generalize hW : wr.drewN _ = W
          have HP : Aside0 (Below w0.heap.size w0 W) := ⟨by rw [← hW]; exact below_then HB0.out HB0.out.size (pw_below_drewN HB.out _)⟩
          have HBW : Aside0 (Below w.heap.size w W) := ⟨by rw [← hW]; exact pw_below_drewN HB.out _⟩
          have HOW : Aside0 ((Kd.int .i64).R 3 W w.heap.size (fun _ => True) u7 acc) := ⟨by rw [← hW]; exact Kd.R_drewN HO.out _⟩
          clear hW HO HB
          (with_reducible refine (HC.out (some x) none (some ad) none _ ?h1 PX.out (PtrTo.nil _) ?h2 (fun u hu => by cases hu; exact HM.out.1 _ List.mem_cons_self) (fun u hu => by cases hu)).mono ?_); (case h1 => simp); (case h2 => exact HP.out); rintro e w2 ⟨tq, rfl, ht, hb⟩; rw [HEE.out]; obtain rfl := ht _ HEE.out; clear ht; (have HB2 := Aside0.mk hb); clear hb
          go_wp2_with (first | ((with_reducible refine gate_builtin (b := .append) (xs := #[.tmp 70, .tmp 72]) rfl ?_); at_builtin; refine Kd.R_append (Kd.int .i64) (w0 := w) w.heap.size rfl (.tmp 70) (.tmp 72) 36 3 (.int .i64 0) 8 rfl Try.underlying36 info3 rfl (show 0 < 1 from by decide) (by omega) u7 acc tt [.int .i64 tt] (fun _ => True) (fun k_ => True ∧ some k_ ≠ (u7 : Value).ownBlock) rfl rfl ?aP (fun _ hk => hk) (fun _ _ => trivial) ?aO ?aB ?aS ?aL ?_; (case aP => exact rfl); (case aO => exact Kd.R_below HOW.out HB2.out); (case aB => exact below_then HBW.out HBW.out.size HB2.out); (case aS => exact (below_then HBW.out HBW.out.size HB2.out).size); (case aL => have h1 := HL.out; have h2 := HK.out; simp only [List.length_cons, List.length_nil] at h1; omega); intro v1 w3 ho hb3 hg hat; (have HO3 := Aside0.mk ho); (have HB3 := Aside0.mk hb3); clear ho hb3 hg hat))
          go_roundg (gk - 1)
          case measure => have := HKQ.out.1; simp only [List.length_cons, List.length_nil] at this; omega
          case rel => exact ⟨xs, [], acc ++ [tt], _, _, _, _, rfl, rfl, ⟨by have := HKQ.out; simp only [List.length_cons, List.length_nil, List.length_append] at this ⊢; omega⟩, ⟨by rw [← HE3.out]; simp⟩, ⟨fun u hu => HM.out.1 u (List.mem_cons_of_mem _ hu), HM.out.2⟩, ⟨by have := HL.out; simp only [List.length_cons, List.length_nil, List.length_append] at this ⊢; omega⟩, ⟨HNA.out, by have := HA.out.2; simp only [List.length_cons, List.length_nil] at this ⊢; omega⟩, ⟨HBb.out.1, by have := HBb.out.2; simp only [List.length_cons, List.length_nil] at this ⊢; omega⟩, HO3, HB3⟩
      · obtain ⟨ad, rfl, px, x0⟩ := head31 HA.out.1
        replace x0 := (HB.out.cell (World.block_lt_of_cell? w _ ((HB0.out.cell (World.block_lt_of_cell? w0 _ x0)).trans x0))).trans ((HB0.out.cell (World.block_lt_of_cell? w0 _ x0)).trans x0)
        have PX := Aside0.mk px
        clear px
        obtain ⟨bd, rfl, py, y0⟩ := head31 HBb.out.1
        replace y0 := (HB.out.cell (World.block_lt_of_cell? w _ ((HB0.out.cell (World.block_lt_of_cell? w0 _ y0)).trans y0))).trans ((HB0.out.cell (World.block_lt_of_cell? w0 _ y0)).trans y0)
        have PY := Aside0.mk py
        clear py
        have b4 : ((xs.length : Int) + 1 == 0) = false := by simp; omega
        have b3 : ((ys.length : Int) + 1 == 0) = false := by simp; omega
        by_cases hlt : x.f0 < y.f0
        · have hgt := trivial
          have b1 : decide (x.f0 ≤ y.f0) = true := by simp; omega
          have b2 : decide (y.f0 ≤ x.f0) = false := by simp; omega
          have hps : pairsF gk (x :: xs) (y :: ys) = ((some x), none) :: pairsF (gk - 1) xs (y :: ys) := by rw [pairsF_step gk _ _ HKQ.out.1]; try simp [hlt, hgt]
          have HE2 := HE.out
          rw [hps, List.filterMap_cons] at HE2
          dsimp only at HE2
          clear hps HE
          have hcA := HA.out.2
          obtain ⟨A', hcutA, hA'⟩ : ∃ A', (∀ W : World, (Instr.slice 22 (.slice (some ad) (xs.length + 1) ca) (some (.int .i64 1)) none none).run Try.prog W = .ok (.slice A' xs.length (ca - 1)) W) ∧ Kd.C k31 w0 A' xs.length xs := ⟨_, cut_from (P := Try.prog) 22 31 .i64 Try.underlying22 hi0 7 hsz (some ad) (xs.length + 1) ca 1 (by omega) (by omega), Kd.C_drop (m := 1) (c := ca) HA.out.1 (by simp) HA.out.2⟩
          have HNA := Aside0.mk hA'
          clear hcA hA'
          rcases hE : E (some x) none with _ | tt
          · rw [hE] at HE2
            dsimp only at HE2
            have HE3 := Aside0.mk HE2
            have HEE := Aside0.mk hE
            clear HE2 hE
            go_wp2
            go_quiet (fail)
            go_wp2
            go_quiet (fail)
            go_wp2_with fail
            generalize hW : wr.drewN _ = W
            have HP : Aside0 (Below w0.heap.size w0 W) := ⟨by rw [← hW]; exact below_then HB0.out HB0.out.size (pw_below_drewN HB.out _)⟩
            have HBW : Aside0 (Below w.heap.size w W) := ⟨by rw [← hW]; exact pw_below_drewN HB.out _⟩
            have HOW : Aside0 ((Kd.int .i64).R 3 W w.heap.size (fun _ => True) u7 acc) := ⟨by rw [← hW]; exact Kd.R_drewN HO.out _⟩
            clear hW HO HB
            (with_reducible refine (HC.out (some x) none (some ad) none _ ?h1 PX.out (PtrTo.nil _) ?h2 (fun u hu => by cases hu; exact HM.out.1 _ List.mem_cons_self) (fun u hu => by cases hu)).mono ?_); (case h1 => simp); (case h2 => exact HP.out); rintro e w2 ⟨tq, rfl, ht, hb⟩; rw [HEE.out]; clear ht; (have HB2 := Aside0.mk hb); clear hb
            go_wp2
            go_roundg (gk - 1)
            case measure => have := HKQ.out.1; simp only [List.length_cons, List.length_nil] at this; omega
            case rel => exact ⟨xs, (y :: ys), acc, _, _, _, _, rfl, rfl, ⟨by have := HKQ.out; simp only [List.length_cons, List.length_nil, List.length_append] at this ⊢; omega⟩, HE3, ⟨fun u hu => HM.out.1 u (List.mem_cons_of_mem _ hu), HM.out.2⟩, ⟨by have := HL.out; simp only [List.length_cons, List.length_nil, List.length_append] at this ⊢; omega⟩, ⟨HNA.out, by have := HA.out.2; simp only [List.length_cons, List.length_nil] at this ⊢; omega⟩, ⟨HBb.out.1, by have := HBb.out.2; simp only [List.length_cons, List.length_nil] at this ⊢; omega⟩, ⟨Kd.R_below HOW.out HB2.out⟩, ⟨below_then HBW.out HBW.out.size HB2.out⟩⟩
          · rw [hE] at HE2
            dsimp only at HE2
            have HE3 := Aside0.mk HE2
            have HEE := Aside0.mk hE
            clear HE2 hE
            go_wp2
            go_quiet (fail)
            go_wp2
            go_quiet (fail)
            go_wp2_with fail
            generalize hW : wr.drewN _ = W
            have HP : Aside0 (Below w0.heap.size w0 W) := ⟨by rw [← hW]; exact below_then HB0.out HB0.out.size (pw_below_drewN HB.out _)⟩
            have HBW : Aside0 (Below w.heap.size w W) := ⟨by rw [← hW]; exact pw_below_drewN HB.out _⟩
            have HOW : Aside0 ((Kd.int .i64).R 3 W w.heap.size (fun _ => True) u7 acc) := ⟨by rw [← hW]; exact Kd.R_drewN HO.out _⟩
            clear hW HO HB
            (with_reducible refine (HC.out (some x) none (some ad) none _ ?h1 PX.out (PtrTo.nil _) ?h2 (fun u hu => by cases hu; exact HM.out.1 _ List.mem_cons_self) (fun u hu => by cases hu)).mono ?_); (case h1 => simp); (case h2 => exact HP.out); rintro e w2 ⟨tq, rfl, ht, hb⟩; rw [HEE.out]; obtain rfl := ht _ HEE.out; clear ht; (have HB2 := Aside0.mk hb); clear hb
            go_wp2_with (first | ((with_reducible refine gate_builtin (b := .append) (xs := #[.tmp 70, .tmp 72]) rfl ?_); at_builtin; refine Kd.R_append (Kd.int .i64) (w0 := w) w.heap.size rfl (.tmp 70) (.tmp 72) 36 3 (.int .i64 0) 8 rfl Try.underlying36 info3 rfl (show 0 < 1 from by decide) (by omega) u7 acc tt [.int .i64 tt] (fun _ => True) (fun k_ => True ∧ some k_ ≠ (u7 : Value).ownBlock) rfl rfl ?aP (fun _ hk => hk) (fun _ _ => trivial) ?aO ?aB ?aS ?aL ?_; (case aP => exact rfl); (case aO => exact Kd.R_below HOW.out HB2.out); (case aB => exact below_then HBW.out HBW.out.size HB2.out); (case aS => exact (below_then HBW.out HBW.out.size HB2.out).size); (case aL => have h1 := HL.out; have h2 := HK.out; simp only [List.length_cons, List.length_nil] at h1; omega); intro v1 w3 ho hb3 hg hat; (have HO3 := Aside0.mk ho); (have HB3 := Aside0.mk hb3); clear ho hb3 hg hat))
            go_roundg (gk - 1)
            case measure => have := HKQ.out.1; simp only [List.length_cons, List.length_nil] at this; omega
            case rel => exact ⟨xs, (y :: ys), acc ++ [tt], _, _, _, _, rfl, rfl, ⟨by have := HKQ.out; simp only [List.length_cons, List.length_nil, List.length_append] at this ⊢; omega⟩, ⟨by rw [← HE3.out]; simp⟩, ⟨fun u hu => HM.out.1 u (List.mem_cons_of_mem _ hu), HM.out.2⟩, ⟨by have := HL.out; simp only [List.length_cons, List.length_nil, List.length_append] at this ⊢; omega⟩, ⟨HNA.out, by have := HA.out.2; simp only [List.length_cons, List.length_nil] at this ⊢; omega⟩, ⟨HBb.out.1, by have := HBb.out.2; simp only [List.length_cons, List.length_nil] at this ⊢; omega⟩, HO3, HB3⟩
        · by_cases hgt : y.f0 < x.f0
          · have b1 : decide (x.f0 ≤ y.f0) = false := by simp; omega
            have b2 : decide (y.f0 ≤ x.f0) = true := by simp; omega
            have hps : pairsF gk (x :: xs) (y :: ys) = (none, (some y)) :: pairsF (gk - 1) (x :: xs) ys := by rw [pairsF_step gk _ _ HKQ.out.1]; try simp [hlt, hgt]
            have HE2 := HE.out
            rw [hps, List.filterMap_cons] at HE2
            dsimp only at HE2
            clear hps HE
            have hcB := HBb.out.2
            obtain ⟨B', hcutB, hB'⟩ : ∃ B', (∀ W : World, (Instr.slice 22 (.slice (some bd) (ys.length + 1) cb) (some (.int .i64 1)) none none).run Try.prog W = .ok (.slice B' ys.length (cb - 1)) W) ∧ Kd.C k31 w0 B' ys.length ys := ⟨_, cut_from (P := Try.prog) 22 31 .i64 Try.underlying22 hi0 7 hsz (some bd) (ys.length + 1) cb 1 (by omega) (by omega), Kd.C_drop (m := 1) (c := cb) HBb.out.1 (by simp) HBb.out.2⟩
            have HNB := Aside0.mk hB'
            clear hcB hB'
            rcases hE : E none (some y) with _ | tt
            · rw [hE] at HE2
              dsimp only at HE2
              have HE3 := Aside0.mk HE2
              have HEE := Aside0.mk hE
              clear HE2 hE
              go_wp2
              go_quiet (fail)
              go_wp2
              go_quiet (fail)
              go_wp2_with fail
              generalize hW : wr.drewN _ = W
              have HP : Aside0 (Below w0.heap.size w0 W) := ⟨by rw [← hW]; exact below_then HB0.out HB0.out.size (pw_below_drewN HB.out _)⟩
              have HBW : Aside0 (Below w.heap.size w W) := ⟨by rw [← hW]; exact pw_below_drewN HB.out _⟩
              have HOW : Aside0 ((Kd.int .i64).R 3 W w.heap.size (fun _ => True) u7 acc) := ⟨by rw [← hW]; exact Kd.R_drewN HO.out _⟩
              clear hW HO HB
              (with_reducible refine (HC.out none (some y) none (some bd) _ ?h1 (PtrTo.nil _) PY.out ?h2 (fun u hu => by cases hu) (fun u hu => by cases hu; exact HM.out.2 _ List.mem_cons_self)).mono ?_); (case h1 => simp); (case h2 => exact HP.out); rintro e w2 ⟨tq, rfl, ht, hb⟩; rw [HEE.out]; clear ht; (have HB2 := Aside0.mk hb); clear hb
              go_wp2
              go_roundg (gk - 1)
              case measure => have := HKQ.out.1; simp only [List.length_cons, List.length_nil] at this; omega
              case rel => exact ⟨(x :: xs), ys, acc, _, _, _, _, rfl, rfl, ⟨by have := HKQ.out; simp only [List.length_cons, List.length_nil, List.length_append] at this ⊢; omega⟩, HE3, ⟨HM.out.1, fun u hu => HM.out.2 u (List.mem_cons_of_mem _ hu)⟩, ⟨by have := HL.out; simp only [List.length_cons, List.length_nil, List.length_append] at this ⊢; omega⟩, ⟨HA.out.1, by have := HA.out.2; simp only [List.length_cons, List.length_nil] at this ⊢; omega⟩, ⟨HNB.out, by have := HBb.out.2; simp only [List.length_cons, List.length_nil] at this ⊢; omega⟩, ⟨Kd.R_below HOW.out HB2.out⟩, ⟨below_then HBW.out HBW.out.size HB2.out⟩⟩
            · rw [hE] at HE2
              dsimp only at HE2
              have HE3 := Aside0.mk HE2
              have HEE := Aside0.mk hE
              clear HE2 hE
              go_wp2
              go_quiet (fail)
              go_wp2
              go_quiet (fail)
              go_wp2_with fail
              generalize hW : wr.drewN _ = W
              have HP : Aside0 (Below w0.heap.size w0 W) := ⟨by rw [← hW]; exact below_then HB0.out HB0.out.size (pw_below_drewN HB.out _)⟩
              have HBW : Aside0 (Below w.heap.size w W) := ⟨by rw [← hW]; exact pw_below_drewN HB.out _⟩
              have HOW : Aside0 ((Kd.int .i64).R 3 W w.heap.size (fun _ => True) u7 acc) := ⟨by rw [← hW]; exact Kd.R_drewN HO.out _⟩
              clear hW HO HB
              (with_reducible refine (HC.out none (some y) none (some bd) _ ?h1 (PtrTo.nil _) PY.out ?h2 (fun u hu => by cases hu) (fun u hu => by cases hu; exact HM.out.2 _ List.mem_cons_self)).mono ?_); (case h1 => simp); (case h2 => exact HP.out); rintro e w2 ⟨tq, rfl, ht, hb⟩; rw [HEE.out]; obtain rfl := ht _ HEE.out; clear ht; (have HB2 := Aside0.mk hb); clear hb
              go_wp2_with (first | ((with_reducible refine gate_builtin (b := .append) (xs := #[.tmp 70, .tmp 72]) rfl ?_); at_builtin; refine Kd.R_append (Kd.int .i64) (w0 := w) w.heap.size rfl (.tmp 70) (.tmp 72) 36 3 (.int .i64 0) 8 rfl Try.underlying36 info3 rfl (show 0 < 1 from by decide) (by omega) u7 acc tt [.int .i64 tt] (fun _ => True) (fun k_ => True ∧ some k_ ≠ (u7 : Value).ownBlock) rfl rfl ?aP (fun _ hk => hk) (fun _ _ => trivial) ?aO ?aB ?aS ?aL ?_; (case aP => exact rfl); (case aO => exact Kd.R_below HOW.out HB2.out); (case aB => exact below_then HBW.out HBW.out.size HB2.out); (case aS => exact (below_then HBW.out HBW.out.size HB2.out).size); (case aL => have h1 := HL.out; have h2 := HK.out; simp only [List.length_cons, List.length_nil] at h1; omega); intro v1 w3 ho hb3 hg hat; (have HO3 := Aside0.mk ho); (have HB3 := Aside0.mk hb3); clear ho hb3 hg hat))
              go_roundg (gk - 1)
              case measure => have := HKQ.out.1; simp only [List.length_cons, List.length_nil] at this; omega
              case rel => exact ⟨(x :: xs), ys, acc ++ [tt], _, _, _, _, rfl, rfl, ⟨by have := HKQ.out; simp only [List.length_cons, List.length_nil, List.length_append] at this ⊢; omega⟩, ⟨by rw [← HE3.out]; simp⟩, ⟨HM.out.1, fun u hu => HM.out.2 u (List.mem_cons_of_mem _ hu)⟩, ⟨by have := HL.out; simp only [List.length_cons, List.length_nil, List.length_append] at this ⊢; omega⟩, ⟨HA.out.1, by have := HA.out.2; simp only [List.length_cons, List.length_nil] at this ⊢; omega⟩, ⟨HNB.out, by have := HBb.out.2; simp only [List.length_cons, List.length_nil] at this ⊢; omega⟩, HO3, HB3⟩
          · have b1 : decide (x.f0 ≤ y.f0) = true := by simp; omega
            have b2 : decide (y.f0 ≤ x.f0) = true := by simp; omega
            have hps : pairsF gk (x :: xs) (y :: ys) = ((some x), (some y)) :: pairsF (gk - 1) xs ys := by rw [pairsF_step gk _ _ HKQ.out.1]; try simp [hlt, hgt]
            have HE2 := HE.out
            rw [hps, List.filterMap_cons] at HE2
            dsimp only at HE2
            clear hps HE
            have hcA := HA.out.2
            obtain ⟨A', hcutA, hA'⟩ : ∃ A', (∀ W : World, (Instr.slice 22 (.slice (some ad) (xs.length + 1) ca) (some (.int .i64 1)) none none).run Try.prog W = .ok (.slice A' xs.length (ca - 1)) W) ∧ Kd.C k31 w0 A' xs.length xs := ⟨_, cut_from (P := Try.prog) 22 31 .i64 Try.underlying22 hi0 7 hsz (some ad) (xs.length + 1) ca 1 (by omega) (by omega), Kd.C_drop (m := 1) (c := ca) HA.out.1 (by simp) HA.out.2⟩
            have HNA := Aside0.mk hA'
            clear hcA hA'
            have hcB := HBb.out.2
            obtain ⟨B', hcutB, hB'⟩ : ∃ B', (∀ W : World, (Instr.slice 22 (.slice (some bd) (ys.length + 1) cb) (some (.int .i64 1)) none none).run Try.prog W = .ok (.slice B' ys.length (cb - 1)) W) ∧ Kd.C k31 w0 B' ys.length ys := ⟨_, cut_from (P := Try.prog) 22 31 .i64 Try.underlying22 hi0 7 hsz (some bd) (ys.length + 1) cb 1 (by omega) (by omega), Kd.C_drop (m := 1) (c := cb) HBb.out.1 (by simp) HBb.out.2⟩
            have HNB := Aside0.mk hB'
            clear hcB hB'
            rcases hE : E (some x) (some y) with _ | tt
            · rw [hE] at HE2
              dsimp only at HE2
              have HE3 := Aside0.mk HE2
              have HEE := Aside0.mk hE
              clear HE2 hE
              go_wp2
              go_quiet (fail)
              go_wp2
              go_quiet (fail)
              go_wp2_with fail
              generalize hW : wr.drewN _ = W
              have HP : Aside0 (Below w0.heap.size w0 W) := ⟨by rw [← hW]; exact below_then HB0.out HB0.out.size (pw_below_drewN HB.out _)⟩
              have HBW : Aside0 (Below w.heap.size w W) := ⟨by rw [← hW]; exact pw_below_drewN HB.out _⟩
              have HOW : Aside0 ((Kd.int .i64).R 3 W w.heap.size (fun _ => True) u7 acc) := ⟨by rw [← hW]; exact Kd.R_drewN HO.out _⟩
              clear hW HO HB
              (with_reducible refine (HC.out (some x) (some y) (some ad) (some bd) _ ?h1 PX.out PY.out ?h2 (fun u hu => by cases hu; exact HM.out.1 _ List.mem_cons_self) (fun u hu => by cases hu; exact HM.out.2 _ List.mem_cons_self)).mono ?_); (case h1 => simp); (case h2 => exact HP.out); rintro e w2 ⟨tq, rfl, ht, hb⟩; rw [HEE.out]; clear ht; (have HB2 := Aside0.mk hb); clear hb
              go_wp2
              go_roundg (gk - 1)
              case measure => have := HKQ.out.1; simp only [List.length_cons, List.length_nil] at this; omega
              case rel => exact ⟨xs, ys, acc, _, _, _, _, rfl, rfl, ⟨by have := HKQ.out; simp only [List.length_cons, List.length_nil, List.length_append] at this ⊢; omega⟩, HE3, ⟨fun u hu => HM.out.1 u (List.mem_cons_of_mem _ hu), fun u hu => HM.out.2 u (List.mem_cons_of_mem _ hu)⟩, ⟨by have := HL.out; simp only [List.length_cons, List.length_nil, List.length_append] at this ⊢; omega⟩, ⟨HNA.out, by have := HA.out.2; simp only [List.length_cons, List.length_nil] at this ⊢; omega⟩, ⟨HNB.out, by have := HBb.out.2; simp only [List.length_cons, List.length_nil] at this ⊢; omega⟩, ⟨Kd.R_below HOW.out HB2.out⟩, ⟨below_then HBW.out HBW.out.size HB2.out⟩⟩
            · rw [hE] at HE2
              dsimp only at HE2
              have HE3 := Aside0.mk HE2
              have HEE := Aside0.mk hE
              clear HE2 hE
              go_wp2
              go_quiet (fail)
              go_wp2
              go_quiet (fail)
              go_wp2_with fail
              generalize hW : wr.drewN _ = W
              have HP : Aside0 (Below w0.heap.size w0 W) := ⟨by rw [← hW]; exact below_then HB0.out HB0.out.size (pw_below_drewN HB.out _)⟩
              have HBW : Aside0 (Below w.heap.size w W) := ⟨by rw [← hW]; exact pw_below_drewN HB.out _⟩
              have HOW : Aside0 ((Kd.int .i64).R 3 W w.heap.size (fun _ => True) u7 acc) := ⟨by rw [← hW]; exact Kd.R_drewN HO.out _⟩
              clear hW HO HB
              (with_reducible refine (HC.out (some x) (some y) (some ad) (some bd) _ ?h1 PX.out PY.out ?h2 (fun u hu => by cases hu; exact HM.out.1 _ List.mem_cons_self) (fun u hu => by cases hu; exact HM.out.2 _ List.mem_cons_self)).mono ?_); (case h1 => simp); (case h2 => exact HP.out); rintro e w2 ⟨tq, rfl, ht, hb⟩; rw [HEE.out]; obtain rfl := ht _ HEE.out; clear ht; (have HB2 := Aside0.mk hb); clear hb
              go_wp2_with (first | ((with_reducible refine gate_builtin (b := .append) (xs := #[.tmp 70, .tmp 72]) rfl ?_); at_builtin; refine Kd.R_append (Kd.int .i64) (w0 := w) w.heap.size rfl (.tmp 70) (.tmp 72) 36 3 (.int .i64 0) 8 rfl Try.underlying36 info3 rfl (show 0 < 1 from by decide) (by omega) u7 acc tt [.int .i64 tt] (fun _ => True) (fun k_ => True ∧ some k_ ≠ (u7 : Value).ownBlock) rfl rfl ?aP (fun _ hk => hk) (fun _ _ => trivial) ?aO ?aB ?aS ?aL ?_; (case aP => exact rfl); (case aO => exact Kd.R_below HOW.out HB2.out); (case aB => exact below_then HBW.out HBW.out.size HB2.out); (case aS => exact (below_then HBW.out HBW.out.size HB2.out).size); (case aL => have h1 := HL.out; have h2 := HK.out; simp only [List.length_cons, List.length_nil] at h1; omega); intro v1 w3 ho hb3 hg hat; (have HO3 := Aside0.mk ho); (have HB3 := Aside0.mk hb3); clear ho hb3 hg hat))
              go_roundg (gk - 1)
              case measure => have := HKQ.out.1; simp only [List.length_cons, List.length_nil] at this; omega
              case rel => exact ⟨xs, ys, acc ++ [tt], _, _, _, _, rfl, rfl, ⟨by have := HKQ.out; simp only [List.length_cons, List.length_nil, List.length_append] at this ⊢; omega⟩, ⟨by rw [← HE3.out]; simp⟩, ⟨fun u hu => HM.out.1 u (List.mem_cons_of_mem _ hu), fun u hu => HM.out.2 u (List.mem_cons_of_mem _ hu)⟩, ⟨by have := HL.out; simp only [List.length_cons, List.length_nil, List.length_append] at this ⊢; omega⟩, ⟨HNA.out, by have := HA.out.2; simp only [List.length_cons, List.length_nil] at this ⊢; omega⟩, ⟨HNB.out, by have := HBb.out.2; simp only [List.length_cons, List.length_nil] at this ⊢; omega⟩, HO3, HB3⟩


/-! ### delta_Gone_1: function 142 -/
set_option maxHeartbeats 2000000 in
set_option maxRecDepth 100000 in
theorem Gone1.calls (w0 : World) (x y : Option S31) (px py : Option Addr) (W : World) (hne : ¬ (x = none ∧ y = none)) (hx : PtrTo w0 x px) (hy : PtrTo w0 y py) (hB : Below w0.heap.size w0 W) :
    Calls Try.prog 142 #[.pointer px, .pointer py] W (ClosI goneE x y W) := by
  cases x with
  | none =>
    obtain rfl : px = none := hx
    go_enter Try.func142, Try.ntmps142
    go_wp2
    go_ret2
    exact ⟨0, rfl, fun u hu => by simp [goneE] at hu, Below.refl _ _⟩
  | some x =>
    cases y with
    | none =>
      obtain rfl : py = none := hy
      obtain ⟨ad, A6, c6, rfl, x0, x1, x2, x3, x4, x5, x6, hl, hC⟩ := ptr_open hx hB
      go_enter Try.func142, Try.ntmps142
      go_wp2
      go_ret2
      exact ⟨x.f0, rfl, fun u hu => by simpa [goneE] using hu.symm, Below.refl _ _⟩
    | some y =>
      obtain ⟨ad, A6, c6, rfl, -⟩ := hx
      obtain ⟨bd, B6, d6, rfl, -⟩ := hy
      go_enter Try.func142, Try.ntmps142
      go_wp2
      go_ret2
      exact ⟨0, rfl, fun u hu => by simp [goneE] at hu, Below.refl _ _⟩


/-! ### delta_Gone: function 33 -/
def delta_Gone.f (l0 l1 : List S31) : Option (List Int × Bool) :=
  if sortedB l0 && sortedB l1 then (if l0.length + l1.length < 1954687338268 then some (sideP goneE l0 l1, true) else none) else some ([], false)
set_option maxHeartbeats 2000000 in
set_option maxRecDepth 100000 in
theorem delta_Gone.calls (A0 : Option Addr) (c0 : Nat) (l0 : List S31) (A1 : Option Addr) (c1 : Nat) (l1 : List S31) (r1 : List Int) (r2 : Bool) (w : World) (hr0 : Kd.C k31 w A0 l0.length l0) (hc0 : l0.length ≤ c0) (hr1 : Kd.C k31 w A1 l1.length l1) (hc1 : l1.length ≤ c1) (h : delta_Gone.f l0 l1 = some (r1, r2)) :
    Calls Try.prog 33 #[.slice A0 l0.length c0, .slice A1 l1.length c1] w fun e w' => ∃ v0_ : Value, e = .returned (.tuple #[v0_, .bool r2]) ∧ Kd.R (Kd.int .i64) 3 w' w.heap.size (fun _ => True) v0_ r1 ∧ Below w.heap.size w w' := by
  have H0 := Aside0.mk hr0
  have H1 := Aside0.mk hr1
  unfold delta_Gone.f at h
  have HD := delta_both_f l0 l1
  cases hb : sortedB l0 && sortedB l1
  · rw [hb] at h HD
    simp only [Bool.false_eq_true, if_false, Option.some.injEq, Prod.mk.injEq] at h
    obtain ⟨rfl, rfl⟩ := h
    have HD := Aside0.mk HD
    clear hb hr0 hr1
    go_enter Try.func33, Try.ntmps33
    go_wp2_with (go_at_call 140; ((with_reducible refine (delta_both.calls A0 c0 l0 A1 c1 l1 false _ H0.out hc0 H1.out hc1 HD.out).mono ?_); rintro e w2 ⟨rfl, hb⟩; (have HB := Aside0.mk hb); clear hb))
    go_ret2
    exact ⟨_, rfl, Kd.R_nil _ _ _ _ _, HB.out⟩
  · rw [hb] at h HD
    simp only [if_true] at h
    by_cases hlen : l0.length + l1.length < 1954687338268
    rotate_left
    · rw [if_neg hlen] at h; cases h
    rw [if_pos hlen] at h
    simp only [Option.some.injEq, Prod.mk.injEq] at h
    obtain ⟨rfl, rfl⟩ := h
    have HD := Aside0.mk HD
    have HN := Aside0.mk hlen
    clear hb hr0 hr1 hlen
    go_enter Try.func33, Try.ntmps33
    go_wp2_with (first | (go_at_call 140; ((with_reducible refine (delta_both.calls A0 c0 l0 A1 c1 l1 true _ H0.out hc0 H1.out hc1 HD.out).mono ?_); rintro e w2 ⟨rfl, hb⟩; (have HB := Aside0.mk hb); clear hb)) | (go_at_call 141; ((with_reducible refine (sideI.calls 142 goneE w l0 l1 (enters_ Try.func142 (by kernel_rfl) rfl) (fun x y px py W h1 h2 h3 h4 _ _ => Gone1.calls w x y px py W h1 h2 h3 h4) A0 A1 c0 c1 H0.out hc0 H1.out hc1 HN.out w2 HB.out).mono ?_); rintro e w3 ⟨v, rfl, ho, hb⟩; (have HO := Aside0.mk ho); (have HB3 := Aside0.mk (below_then HB.out HB.out.size hb)); clear ho hb)))
    go_ret2
    exact ⟨_, rfl, Kd.R_lower HO.out HB.out.size, HB3.out⟩


/-! ### bag_one: function 220 -/
theorem sz5 : (Try.prog.info? 5).map (·.size) = some 1 := by kernel_rfl
theorem made_u8 (W : World) (base : Nat) (m : Nat) (hb : base ≤ W.heap.size) (hm : m ≤ 9223372036854775807) : (Kd.int .u8).R 5 (W.alloc (.cells (madeCells #[.int .u8 0] m) 5)) base (fun k => k = W.heap.size) (.slice (some ⟨W.heap.size, 0, none⟩) m m) (List.replicate m (0 : Int)) :=
  Kd.R_of_own (own_made_of' (enc := Value.int .u8) (d := (0 : Int)) W base 5 m hb hm) (fun k hk => by simpa [Value.ownBlock] using hk.symm)
def bag_one.f (a0_0 : Int) (l0_1 : List Int) : Option (Int × List Int) := if l0_1.length < 140737488355328 then some (a0_0, l0_1) else none
set_option maxHeartbeats 2000000 in
set_option maxRecDepth 100000 in
theorem bag_one.calls (a0_0 : Int) (A0_1 : Option Addr) (c0_1 : Nat) (l0_1 : List Int) (r1 : Int) (r2 : List Int) (w : World) (hr0_1 : Kd.C (Kd.int .u8) w A0_1 l0_1.length l0_1) (hc0_1 : l0_1.length ≤ c0_1) (h : bag_one.f a0_0 l0_1 = some (r1, r2)) :
    Calls Try.prog 220 #[.agg #[.int .i64 a0_0, .slice A0_1 l0_1.length c0_1]] w fun e w' => ∃ v1_ : Value, e = .returned (.agg #[.int .i64 r1, v1_]) ∧ Kd.R (Kd.int .u8) 5 w' w.heap.size (fun _ => True) v1_ r2 ∧ Below w.heap.size w w' := by
  have HR := Aside0.mk hr0_1
  clear hr0_1
  unfold bag_one.f at h
  by_cases hl : l0_1.length < 140737488355328
  rotate_left
  · rw [if_neg hl] at h; exact absurd h (by simp)
  rw [if_pos hl] at h
  obtain ⟨rfl, rfl⟩ : a0_0 = r1 ∧ l0_1 = r2 := by simpa using h
  clear h
  have hu332 := Try.underlying332
  have hmk := print_make_of (P := Try.prog) 330 5 (.int .u8 0) 1 Try.underlying330 info5 rfl (by decide) l0_1.length (by omega)
  go_enter Try.func220, Try.ntmps220
  go_wp2_with (first | ((with_reducible refine gate_builtin (b := .copy) (xs := #[.tmp 8, .tmp 10]) rfl ?_); (refine Kd.R_copy (enc := Value.int .u8) (h1 := fun _ => rfl) (0 : Int) (w0 := w) w.heap.size rfl (.tmp 8) (.tmp 10) 330 330 5 rfl Try.underlying330 sz5 _ (List.replicate l0_1.length (0 : Int)) l0_1 A0_1 l0_1.length c0_1 (fun k => k = w.heap.size + 1 + 1) rfl rfl ?aO ?aR ?aB ?aS ?_)))
  case aO => have := made_u8 ((w.alloc (.cells #[.int .i64 a0_0, .slice A0_1 l0_1.length c0_1] 332)).alloc (.cells #[.int .i64 0, .slice none 0 0] 332)) w.heap.size l0_1.length (by simp; omega) (by omega); simp at this; exact this
  case aR => exact Kd.C_alloc (Kd.C_alloc (Kd.C_alloc HR.out _) _) _
  case aB => exact below_alloc (below_alloc (below_alloc (Below.refl _ _) _) _) _
  case aS => simp; omega
  rintro w1 hR hB hg
  have hb0 : w1.heap[w.heap.size]? = some (.cells #[.int .i64 a0_0, .slice A0_1 l0_1.length c0_1] 332 (0, 0)) :=
    blk_grown (blk_alloc (blk_alloc (blk_new _ _) _) _) hg (by simp [Value.ownBlock]; try omega)
  have hb1 : w1.heap[w.heap.size + 1]? = some (.cells #[.int .i64 0, .slice none 0 0] 332 (0, 0)) :=
    blk_grown (blk_alloc (by have := blk_new (w.alloc (.cells #[.int .i64 a0_0, .slice A0_1 l0_1.length c0_1] 332)) (.cells #[.int .i64 0, .slice none 0 0] 332); simpa using this) _) hg (by simp [Value.ownBlock]; try omega)
  have c00 := blk_cell hb0 0
  have c01 := blk_cell hb0 1
  have c10 := blk_cell hb1 0
  have c11 := blk_cell hb1 1
  have f10 := blk_frozen hb1 0
  have f11 := blk_frozen hb1 1
  simp only [List.getElem?_toArray, List.getElem?_cons_zero, List.getElem?_cons_succ] at c00 c01 c10 c11
  have HB := Aside0.mk hB
  have HR1 := Aside0.mk hR
  clear hB hR hg hb0 hb1 hmk
  go_wp2
  refine bodyPost_ret (v := .agg #[.int .i64 a0_0, .slice (some ⟨w.heap.size + 1 + 1, 0, none⟩) l0_1.length l0_1.length]) (by simp [results, Try.results220, go_sem, c10, c11]) rfl ⟨_, rfl, ?_, ?_⟩
  · exact Kd.R_mono (Kd.R_far (Kd.R_far HR1.out (by intro k hk; simp; omega) _) (by intro k hk; simp; omega) _) (fun _ _ => trivial)
  · exact (HB.out.setCell (by simp) _).setCell (by simp) _


/-! ### bag_Copy: function 162 -/
def bag_Copy.l0 : Nat → List (S332) → List (S332) → Int → Int → Option ((List (S332)))
  | 0, _, _, _, _ => none
  | k + 1, x3, x6, x7, x8 => if x8 < x7 then (if 0 ≤ x8 then (if x8 < (x6.length : Int) then ((bag_one.f ((rd_T332 x6 x8).f0) ((rd_T332 x6 x8).f1)).bind fun bt114 => (if x3.length < 4398046511104 then (bag_Copy.l0 k (x3 ++ [(⟨bt114.1, bt114.2⟩ : S332)]) x6 x7 (wrap64 (x8 + 1))) else (none))) else (none)) else (none)) else (some x3)
def bag_Copy.f (k : Nat) (l0 : List (S332)) : Option ((List (S332))) := bag_Copy.l0 k ([] : List (S332)) l0 (l0.length : Int) 0
theorem bag_Copy.mono_l : ∀ k, (∀ y0 y1 y2 y3, LeO (bag_Copy.l0 k y0 y1 y2 y3) (bag_Copy.l0 (k + 1) y0 y1 y2 y3))
  | 0 => fun _ _ _ _ r h => by simp [bag_Copy.l0] at h
  | k + 1 => by
    have ih0 := bag_Copy.mono_l k
    · intro y0 y1 y2 y3
      unfold bag_Copy.l0
      repeat' first
      | (with_reducible exact ih0 _ _ _ _)
      | (with_reducible exact LeO.refl _)
      | (with_reducible exact LeO.none _)
      | (with_reducible refine LeO.ite ?_ ?_)
      | (with_reducible refine LeO.bind ?_ (fun _ => ?_))
      | exact ih0 _ _ _ _
      | exact LeO.none _
      | refine LeO.ite ?_ ?_
      | refine LeO.bind ?_ (fun _ => ?_)
theorem bag_Copy.mono : ∀ a0 k, LeO (bag_Copy.f k a0) (bag_Copy.f (k + 1) a0) := by
  intro a0 k
  have ih0 := bag_Copy.mono_l k
  unfold bag_Copy.f
  repeat' first
      | (with_reducible exact ih0 _ _ _ _)
      | (with_reducible exact LeO.refl _)
      | (with_reducible exact LeO.none _)
      | (with_reducible refine LeO.ite ?_ ?_)
      | (with_reducible refine LeO.bind ?_ (fun _ => ?_))
      | exact ih0 _ _ _ _
      | exact LeO.none _
      | refine LeO.ite ?_ ?_
      | refine LeO.bind ?_ (fun _ => ?_)
set_option maxHeartbeats 8000000 in
set_option maxRecDepth 100000 in
theorem bag_Copy.calls (k : Nat) (A0 : Option Addr) (c0 : Nat) (l0 : List (S332)) (r : List (S332)) (w : World) (hr0 : Kd.C k332 w A0 l0.length l0) (hc0 : l0.length ≤ c0) (h : bag_Copy.f k l0 = some r) :
    Calls Try.prog 162 #[.slice A0 l0.length c0] w fun e w' => ∃ v0_ : Value, e = .returned (v0_) ∧ Kd.S k332 332 w' w.heap.size (fun _ => True) v0_ r ∧ Below w.heap.size w w' := by
  have hu332 := Try.underlying332
  have HR0 := Aside0.mk hr0
  have HC0 := Aside0.mk hc0
  clear hr0 hc0
  have HB := Aside0.mk (Below.refl w.heap.size w)
  have H : (bag_Copy.l0 k ([] : List (S332)) l0 (l0.length : Int) 0) = some r := h
  clear h
  have H' := Aside0.mk H
  clear H
  go_enter Try.func162, Try.ntmps162
  go_wp2
  go_loopg [3, 8] k (fun kq v3 v8 w' => ∃ (x3_1 : List (S332)) (x8_1 : Int), v8 = .int .i64 x8_1 ∧ Aside0 (bag_Copy.l0 kq x3_1 l0 (l0.length : Int) x8_1 = some r) ∧ Aside0 (kq ≤ k) ∧ Aside0 (Kd.S k332 332 w' w.heap.size (fun _ => True) v3 x3_1) ∧ Aside0 (Below w.heap.size w w'))
  case atStart => exact ⟨(([] : List (S332))), (0), (by first | rfl | (simp; done) | (simp [*]; done)), H', ⟨Nat.le_refl _⟩, ⟨by first | exact Kd.S_nil _ _ _ _ _ | exact Kd.N_nil _ _ _ _ _ | exact Kd.V_nil _ _ _ _ _ | exact Kd.Q_nil _ _ _ _ _ | exact Kd.R_nil _ _ _ _ _⟩, ⟨by repeat (first | (with_reducible first | exact HB.out | apply below_alloc | apply pw_below_drewN | apply below_drew1) | exact HB.out)⟩⟩
  case round =>
    clear H'
    try clear c1
    obtain ⟨x3_1, x8_1, rfl, HA, HK1, HO_3, HB⟩ := hrel
    cases gk with
    | zero => exact absurd HA.out (by simp [bag_Copy.l0])
    | succ k1 =>
      have H := HA.out
      clear HA
      simp only [bag_Copy.l0] at H
      by_cases c2 : x8_1 < (l0.length : Int)
      · rw [if_pos c2] at H
        have c2b0 : decide (x8_1 < (l0.length : Int)) = true := decide_eq_true c2
        clear c2
        by_cases c3 : 0 ≤ x8_1
        · rw [if_pos c3] at H
          have c3b0 : decide (0 ≤ x8_1) = true := decide_eq_true c3
          clear c3
          by_cases c4 : x8_1 < (l0.length : Int)
          · rw [if_pos c4] at H
            have c4b0 : decide (x8_1 < (l0.length : Int)) = true := decide_eq_true c4
            clear c4
            replace H := Option.bind_eq_some_iff.mp H
            obtain ⟨⟨t114, t115⟩, A50, H⟩ := H
            replace H : (if x3_1.length < 4398046511104 then (bag_Copy.l0 k1 (x3_1 ++ [(⟨t114, t115⟩ : S332)]) l0 (l0.length : Int) (wrap64 (x8_1 + 1))) else (none)) = some r := H
            have A5 := Aside0.mk A50
            clear A50
            by_cases c6 : x3_1.length < 4398046511104
            · rw [if_pos c6] at H
              have LMc6 := Aside0.mk c6
              clear c6
              obtain ⟨y118, hy118⟩ : ∃ y_ : List (S332), y_ = (x3_1 ++ [(⟨t114, t115⟩ : S332)]) := ⟨_, rfl⟩
              replace H : (bag_Copy.l0 k1 y118 l0 (l0.length : Int) (wrap64 (x8_1 + 1))) = some r := by first | (rw [hy118]; with_reducible exact H) | (have H2_ := (Option.bind_some _ _).symm.trans H; rw [hy118]; with_reducible exact H2_) | (have H2_ := (Option.bind_some _ _).symm.trans H; with_reducible exact H2_) | with_reducible exact H | (rw [hy118]; exact H) | exact H
              have Ny118 := Aside0.mk hy118
              clear hy118
              have H' := Aside0.mk H
              clear H
              have p112 : 0 ≤ (x8_1 : Int) := of_decide_eq_true (by first | (with_reducible assumption) | assumption)
              have q112 : x8_1 < (l0.length : Int) := of_decide_eq_true (by first | (with_reducible assumption) | assumption)
              obtain ⟨ad112, A112_1, c112_1, e112, hx112_0, hx112_1, hl112_1, hi112_1⟩ := at_T332 HR0.out x8_1 p112 q112
              cases e112
              replace hx112_0 := (HB.out.cell (World.block_lt_of_cell? w _ hx112_0)).trans hx112_0
              replace hx112_1 := (HB.out.cell (World.block_lt_of_cell? w _ hx112_1)).trans hx112_1
              have HR112_1 := Aside0.mk hi112_1
              have HC112_1 := Aside0.mk hl112_1
              clear hi112_1 hl112_1
              replace p112 := eq_true p112
              replace q112 := eq_true q112
              go_wp2_with (first | ((with_reducible refine gate_dst (N := 5) rfl ?_); refine box_event ?hg (N := 5) ?hd (cs := #[.int .i64 0, .slice none 0 0]) (t := 332) ?hr ?_; (case hd => rfl); (case hg => rfl); (case hr => first | (go_simp; done) | (go_simp; rfl)); intro gb113 hg w7 hbox hb; have n0_ := Aside0.mk (Kd.S_below (Kd.S_elderB (by (with_reducible repeat (first | apply Kd.S_alloc | apply Kd.S_drewN | apply Kd.S_drew)); exact HO_3.out) gb113 (Nat.le_of_eq hg.symm)) hb); have n1_ := Aside0.mk (below_step (by repeat (first | (with_reducible first | exact HB.out | apply below_alloc | apply pw_below_drewN | apply below_drew1) | exact HB.out)) hb); have n2_ := Aside0.mk (hbox); have n3_ := Aside0.mk ((by rw [hg]; exact (below_size (by repeat (first | (with_reducible first | exact HB.out | apply below_alloc | apply pw_below_drewN | apply below_drew1) | exact HB.out))) : w.heap.size ≤ gb113)); have n4_ := Aside0.mk ((by rw [hg]; exact (below_size (by repeat (first | (with_reducible first | exact HB.out | apply below_alloc | apply pw_below_drewN | apply below_drew1) | exact HB.out))) : w.heap.size ≤ gb113)); clear HO_3; clear HB; have HO_3 := n0_; have HB := n1_; have BK113 := n2_; have GW113 := n3_; have GE113 := n4_; clear n0_ n1_ n2_ n3_ n4_; clear hb hbox hg; have hcz8_0 : w7.cell? ⟨gb113, 0, none⟩ = some (.int .i64 0) := (blk_cell BK113.out 0).trans rfl; have hcz8_1 : w7.cell? ⟨gb113, 1, none⟩ = some (.slice none 0 0) := (blk_cell BK113.out 1).trans rfl; have hfz8_0 := blk_frozen BK113.out 0; have hfz8_1 := blk_frozen BK113.out 1) | ((with_reducible refine gate_callee (f := 220) rfl ?_); refine goesL_ (some 14) rfl rfl Try.func220 (by kernel_rfl) rfl #[.agg #[.int .i64 ((rd_T332 l0 x8_1).f0), .slice A112_1 ((rd_T332 l0 x8_1).f1).length c112_1]] rfl (by (try simp only [List.map_toArray, List.map_cons, List.map_nil]); first | done | rfl | (simp only [List.length_drop, List.length_take]; rfl)) ?_; (with_reducible refine (bag_one.calls ((rd_T332 l0 x8_1).f0) _ _ ((rd_T332 l0 x8_1).f1) t114 t115 _ ?side1 ?side2 A5.out).mono ?_); (case side1 => exact Kd.C_below HR112_1.out (by repeat (first | (with_reducible first | exact HB.out | apply below_alloc | apply pw_below_drewN | apply below_drew1 | refine below_set ?_ GE113.out) | exact HB.out))); (case side2 => exact HC112_1.out); rintro e w9 ⟨v116, rfl, ho0, hb⟩; refine ⟨_, rfl, ?_⟩; have n0_ := Aside0.mk (Kd.S_elder' (by (with_reducible repeat (first | apply Kd.S_alloc | apply Kd.S_drewN | apply Kd.S_drew)); exact (Kd.S_mono (Kd.S_far (p := ⟨gb113, 1, none⟩) (Kd.S_far (p := ⟨gb113, 0, none⟩) (Kd.S_mono HO_3.out (fun k_ hk => (⟨hk, hk.2⟩ : _ ∧ k_ ≠ gb113))) (fun _ hk => hk.2) (.int .i64 ((rd_T332 l0 x8_1).f0))) (fun _ hk => hk.2) (.slice A112_1 ((rd_T332 l0 x8_1).f1).length c112_1)) (fun _ h_ => h_.1))) (Kd.R_base ho0) hb); have n1_ := Aside0.mk (Kd.R_lower ho0 (below_size (by repeat (first | (with_reducible first | exact HB.out | apply below_alloc | apply pw_below_drewN | apply below_drew1 | refine below_set ?_ GE113.out) | exact HB.out)))); have n2_ := Aside0.mk (blk_below (g := gb113) (o := .cells #[.int .i64 ((rd_T332 l0 x8_1).f0), .slice A112_1 ((rd_T332 l0 x8_1).f1).length c112_1] 332 (0, 0)) (by (with_reducible repeat (first | refine blk_drewN ?_ _ | refine blk_drew ?_ | refine blk_alloc ?_ _)); refine blk_put (cs := #[.int .i64 ((rd_T332 l0 x8_1).f0), .slice none 0 0]) ?_ 1 _ rfl; (with_reducible repeat (first | refine blk_drewN ?_ _ | refine blk_drew ?_ | refine blk_alloc ?_ _)); refine blk_put (cs := #[.int .i64 0, .slice none 0 0]) ?_ 0 _ rfl; (with_reducible repeat (first | refine blk_drewN ?_ _ | refine blk_drew ?_ | refine blk_alloc ?_ _)); exact BK113.out) hb); have n3_ := Aside0.mk (below_step (by repeat (first | (with_reducible first | exact HB.out | apply below_alloc | apply pw_below_drewN | apply below_drew1 | refine below_set ?_ GE113.out) | exact HB.out)) hb); clear HO_3; clear BK113; clear HB; have HO_3 := n0_; have HO117 := n1_; have BK113 := n2_; have HB := n3_; clear n0_ n1_ n2_ n3_; (try clear hb); (try clear hb2); (try clear hk); (try clear hi); (try clear ho0); obtain ⟨Ao11, co11, eo11⟩ := Kd.R_slice HO117.out; subst eo11) | ((with_reducible refine gate_builtin (b := .append) (xs := #[.tmp 12, .tmp 15]) rfl ?_); at_builtin; refine Kd.S_append k332 (w0 := w) w.heap.size rfl (.tmp 12) (.tmp 15) 29 332 (.agg #[(.int .i64 0), (.slice none 0 0)]) 32 rfl Try.underlying29 info332 rfl (by decide) (by omega) u3 x3_1 (⟨t114, t115⟩ : S332) [.int .i64 t114, .slice Ao11 t115.length co11] (fun k_ => k_ ≠ gb113) (fun k_ => some k_ = (.slice Ao11 t115.length co11 : Value).ownBlock) rfl rfl ?aP (fun k_ hk_ => ((Kd.R_mono (ok' := fun k_ => ((fun k_ => k_ ≠ gb113)) k_ ∧ some k_ ≠ (u3 : Value).ownBlock) (Kd.R_types (Kd.R_apart' (HO117.out) (Kd.S_typed HO_3.out) (by decide)) BK113.out (by decide)) (fun k_ hk => ⟨hk.2, hk.1.2⟩))).1 k_ hk_.symm) ?aF ?aO ?aB ?aS ?aL ?_; (case aP => exact k332_mkM _ _ _ (⟨t114, t115⟩ : S332) (Kd.R_mono (Kd.R_tight rfl (Kd.R_mono (ok' := fun k_ => ((fun k_ => k_ ≠ gb113)) k_ ∧ some k_ ≠ (u3 : Value).ownBlock) (Kd.R_types (Kd.R_apart' (HO117.out) (Kd.S_typed HO_3.out) (by decide)) BK113.out (by decide)) (fun k_ hk => ⟨hk.2, hk.1.2⟩))) (fun _ h_ => h_))); (case aB => exact (by repeat (first | (with_reducible first | exact HB.out | apply below_alloc | apply pw_below_drewN | apply below_drew1 | refine below_set ?_ GE113.out) | exact HB.out))); (case aF => exact (fun k_ hk => Kd.freshB (g := gb113) (o := .cells #[.int .i64 ((rd_T332 l0 x8_1).f0), .slice A112_1 ((rd_T332 l0 x8_1).f1).length c112_1] 332 (0, 0)) (by (with_reducible repeat (first | refine blk_drewN ?_ _ | refine blk_drew ?_ | refine blk_alloc ?_ _)); exact BK113.out) k_ hk)); (case aO => exact (by (with_reducible repeat (first | apply Kd.S_alloc | apply Kd.S_drewN | apply Kd.S_drew)); exact Kd.S_mono HO_3.out (fun k_ hk => ⟨hk.1.2, fun e_ => hk.2 e_⟩))); (case aS => exact (below_size (by repeat (first | (with_reducible first | exact HB.out | apply below_alloc | apply pw_below_drewN | apply below_drew1 | refine below_set ?_ GE113.out) | exact HB.out)))); (case aL => have := LMc6.out; omega); intro v119 w10 ho hb hg hat; rw [← Ny118.out] at ho; have n0_ := Aside0.mk (blk_grown (g := gb113) (o := .cells #[.int .i64 ((rd_T332 l0 x8_1).f0), .slice A112_1 ((rd_T332 l0 x8_1).f1).length c112_1] 332 (0, 0)) (by (with_reducible repeat (first | refine blk_drewN ?_ _ | refine blk_drew ?_ | refine blk_alloc ?_ _)); exact BK113.out) hg (Kd.S_away HO_3.out (fun _ hk => hk.1.2))); have n1_ := Aside0.mk (hb); have n2_ := Aside0.mk (ho); clear BK113; clear HB; clear HO_3; clear HO117; have BK113 := n0_; have HB := n1_; have HO120 := n2_; clear n0_ n1_ n2_; clear ho hb hg hat))
              go_roundg k1
              case measure => have := HK1.out; omega
              case rel => exact ⟨(y118), (wrap64 (x8_1 + 1)), (by first | rfl | (simp; done) | (simp [*]; done)), H', ⟨by have := HK1.out; omega⟩, ⟨by (with_reducible repeat (first | apply Kd.S_alloc | apply Kd.S_drewN | apply Kd.S_drew)); exact Kd.S_mono HO120.out (fun _ hk => trivial)⟩, ⟨by repeat (first | (with_reducible first | exact HB.out | apply below_alloc | apply pw_below_drewN | apply below_drew1 | refine below_set ?_ GE113.out) | exact HB.out)⟩⟩
            · rw [if_neg c6] at H
              exact absurd H (by simp)
          · rw [if_neg c4] at H
            exact absurd H (by simp)
        · rw [if_neg c3] at H
          exact absurd H (by simp)
      · rw [if_neg c2] at H
        have c2b0 : decide (x8_1 < (l0.length : Int)) = false := decide_eq_false c2
        clear c2
        obtain rfl := Option.some.inj H
        go_wp2
        go_ret
        exact ⟨_, by first | rfl | (simp [errW_none, errW_some] <;> rfl) | (simp [*, errW_none, errW_some] <;> rfl), by (with_reducible repeat (first | apply Kd.S_alloc | apply Kd.S_drewN | apply Kd.S_drew)); exact HO_3.out, by repeat (first | (with_reducible first | exact HB.out | apply below_alloc | apply pw_below_drewN | apply below_drew1) | exact HB.out)⟩

theorem bag_Copy_l0 (l : List S332) (hs : smallB l = true) : ∀ (d i : Nat) (acc : List S332) (k : Nat), i + d = l.length → acc.length = i → d + 1 ≤ k → bag_Copy.l0 k acc l (l.length : Int) (i : Int) = some (acc ++ l.drop i) := by
  have hl : l.length < 4398046511104 := by simp only [smallB, Bool.and_eq_true, decide_eq_true_eq] at hs; exact hs.1
  intro d
  induction d with
  | zero =>
    intro i acc k hi ha hk
    obtain ⟨k, rfl⟩ : ∃ m, k = m + 1 := ⟨k - 1, by omega⟩
    rw [List.drop_eq_nil_of_le (by omega)]
    simp only [bag_Copy.l0]
    rw [if_neg (by omega)]; simp
  | succ d ih =>
    intro i acc k hi ha hk
    obtain ⟨k, rfl⟩ : ∃ m, k = m + 1 := ⟨k - 1, by omega⟩
    have hx := smallB_rd hs i (by omega)
    simp only [bag_Copy.l0, bag_one.f]
    rw [if_pos (by omega), if_pos (by omega), if_pos (by omega), if_pos hx]
    simp only [Option.bind_some]
    have hw : wrap64 ((i : Int) + 1) = ((i + 1 : Nat) : Int) := by rw [w64 (by omega) (by omega)]; omega
    rw [if_pos (by omega), hw, ih (i + 1) _ k (by omega) (by simp [ha]) (by omega), drop_rd332 l i (by omega)]
    simp
theorem bag_Copy_f (l : List S332) (hs : smallB l = true) (k : Nat) (hk : l.length + 1 ≤ k) : bag_Copy.f k l = some l := by
  unfold bag_Copy.f
  have := bag_Copy_l0 l hs l.length 0 [] k (by omega) rfl (by omega)
  simpa using this

/-! ### rec_clone: function 137 -/
def rec_clone.f (k : Nat) (a0_0 : Int) (a0_1 : Int) (a0_2 : Int) (a0_3 : Int) (a0_4 : Int) (a0_5 : Bool) (l0_6 : List (S332)) : Option (Int × Int × Int × Int × Int × Bool × (List (S332))) := (bag_Copy.f k l0_6).bind fun t123 => (some (a0_0, a0_1, a0_2, a0_3, a0_4, a0_5, t123))
theorem rec_clone.mono : ∀ a0 a1 a2 a3 a4 a5 a6 k, LeO (rec_clone.f k a0 a1 a2 a3 a4 a5 a6) (rec_clone.f (k + 1) a0 a1 a2 a3 a4 a5 a6) := by
  intro a0 a1 a2 a3 a4 a5 a6 k
  unfold rec_clone.f
  repeat' first
      | (with_reducible exact bag_Copy.mono _ _)
      | (with_reducible exact LeO.refl _)
      | (with_reducible exact LeO.none _)
      | (with_reducible refine LeO.ite ?_ ?_)
      | (with_reducible refine LeO.bind ?_ (fun _ => ?_))
      | exact bag_Copy.mono _ _
      | exact LeO.none _
      | refine LeO.ite ?_ ?_
      | refine LeO.bind ?_ (fun _ => ?_)
set_option maxHeartbeats 8000000 in
set_option maxRecDepth 100000 in
theorem rec_clone.calls (k : Nat) (a0_0 : Int) (a0_1 : Int) (a0_2 : Int) (a0_3 : Int) (a0_4 : Int) (a0_5 : Bool) (A0_6 : Option Addr) (c0_6 : Nat) (l0_6 : List (S332)) (r1 : Int) (r2 : Int) (r3 : Int) (r4 : Int) (r5 : Int) (r6 : Bool) (r7 : List (S332)) (w : World) (hr0_6 : Kd.C k332 w A0_6 l0_6.length l0_6) (hc0_6 : l0_6.length ≤ c0_6) (h : rec_clone.f k a0_0 a0_1 a0_2 a0_3 a0_4 a0_5 l0_6 = some (r1, r2, r3, r4, r5, r6, r7)) :
    Calls Try.prog 137 #[.agg #[.int .i64 a0_0, .int .i64 a0_1, .int .i64 a0_2, .int .i64 a0_3, .int .i64 a0_4, .bool a0_5, .slice A0_6 l0_6.length c0_6]] w fun e w' => ∃ v6_ : Value, e = .returned (.agg #[.int .i64 r1, .int .i64 r2, .int .i64 r3, .int .i64 r4, .int .i64 r5, .bool r6, v6_]) ∧ Kd.S k332 332 w' w.heap.size (fun _ => True) v6_ r7 ∧ Below w.heap.size w w' := by
  have hu31 := Try.underlying31
  have HR0_6 := Aside0.mk hr0_6
  have HC0_6 := Aside0.mk hc0_6
  clear hr0_6 hc0_6
  have HB := Aside0.mk (Below.refl w.heap.size w)
  have H : ((bag_Copy.f k l0_6).bind fun t123 => (some (a0_0, a0_1, a0_2, a0_3, a0_4, a0_5, t123))) = some (r1, r2, r3, r4, r5, r6, r7) := h
  clear h
  replace H := Option.bind_eq_some_iff.mp H
  obtain ⟨t123, A20, H⟩ := H
  replace H : (some (a0_0, a0_1, a0_2, a0_3, a0_4, a0_5, t123)) = some (r1, r2, r3, r4, r5, r6, r7) := H
  have A2 := Aside0.mk A20
  clear A20
  simp only [Option.some.injEq, Prod.mk.injEq] at H
  obtain ⟨rfl, rfl, rfl, rfl, rfl, rfl, rfl⟩ := H
  go_enter Try.func137, Try.ntmps137
  go_wp2_with (first | ((with_reducible refine gate_dst (N := 1) rfl ?_); refine box_event ?hg (N := 1) ?hd (cs := #[.int .i64 a0_0, .int .i64 a0_1, .int .i64 a0_2, .int .i64 a0_3, .int .i64 a0_4, .bool a0_5, .slice A0_6 l0_6.length c0_6]) (t := 31) ?hr ?_; (case hd => rfl); (case hg => rfl); (case hr => first | (go_simp; done) | (go_simp; rfl)); intro gb121 hg w3 hbox hb; have n0_ := Aside0.mk (below_step (by repeat (first | (with_reducible first | exact HB.out | apply below_alloc | apply pw_below_drewN | apply below_drew1) | exact HB.out)) hb); have n1_ := Aside0.mk (hbox); have n2_ := Aside0.mk ((by rw [hg]; exact (below_size (by repeat (first | (with_reducible first | exact HB.out | apply below_alloc | apply pw_below_drewN | apply below_drew1) | exact HB.out))) : w.heap.size ≤ gb121)); have n3_ := Aside0.mk ((by rw [hg]; exact (below_size (by repeat (first | (with_reducible first | exact HB.out | apply below_alloc | apply pw_below_drewN | apply below_drew1) | exact HB.out))) : w.heap.size ≤ gb121)); clear HB; have HB := n0_; have BK121 := n1_; have GW121 := n2_; have GE121 := n3_; clear n0_ n1_ n2_ n3_; clear hb hbox hg) | ((with_reducible refine gate_dst (N := 2) rfl ?_); refine box_event ?hg (N := 2) ?hd (cs := #[.int .i64 0, .int .i64 0, .int .i64 0, .int .i64 0, .int .i64 0, .bool false, .slice none 0 0]) (t := 31) ?hr ?_; (case hd => rfl); (case hg => rfl); (case hr => first | (go_simp; done) | (go_simp; rfl)); intro gb122 hg w4 hbox hb; have n0_ := Aside0.mk (blk_below (g := gb121) (o := .cells #[.int .i64 a0_0, .int .i64 a0_1, .int .i64 a0_2, .int .i64 a0_3, .int .i64 a0_4, .bool a0_5, .slice A0_6 l0_6.length c0_6] 31 (0, 0)) (by (with_reducible repeat (first | refine blk_drewN ?_ _ | refine blk_drew ?_ | refine blk_alloc ?_ _)); exact BK121.out) hb); have n1_ := Aside0.mk (below_step (by repeat (first | (with_reducible first | exact HB.out | apply below_alloc | apply pw_below_drewN | apply below_drew1 | refine below_set ?_ GE121.out) | exact HB.out)) hb); have n2_ := Aside0.mk (hbox); have n3_ := Aside0.mk ((by rw [hg]; exact (below_size (by repeat (first | (with_reducible first | exact HB.out | apply below_alloc | apply pw_below_drewN | apply below_drew1 | refine below_set ?_ GE121.out) | exact HB.out))) : w.heap.size ≤ gb122)); have n4_ := Aside0.mk ((by rw [hg]; exact (below_size (by repeat (first | (with_reducible first | exact HB.out | apply below_alloc | apply pw_below_drewN | apply below_drew1 | refine below_set ?_ GE121.out) | exact HB.out))) : w.heap.size ≤ gb122)); have n5_ := Aside0.mk ((by rw [hg]; exact Nat.ne_of_lt (blk_lt (g := gb121) (o := .cells #[.int .i64 a0_0, .int .i64 a0_1, .int .i64 a0_2, .int .i64 a0_3, .int .i64 a0_4, .bool a0_5, .slice A0_6 l0_6.length c0_6] 31 (0, 0)) (by (with_reducible repeat (first | refine blk_drewN ?_ _ | refine blk_drew ?_ | refine blk_alloc ?_ _)); exact BK121.out)) : gb121 ≠ gb122)); have n6_ := Aside0.mk ((by rw [hg]; exact Nat.ne_of_gt (blk_lt (g := gb121) (o := .cells #[.int .i64 a0_0, .int .i64 a0_1, .int .i64 a0_2, .int .i64 a0_3, .int .i64 a0_4, .bool a0_5, .slice A0_6 l0_6.length c0_6] 31 (0, 0)) (by (with_reducible repeat (first | refine blk_drewN ?_ _ | refine blk_drew ?_ | refine blk_alloc ?_ _)); exact BK121.out)) : gb122 ≠ gb121)); clear BK121; clear HB; have BK121 := n0_; have HB := n1_; have BK122 := n2_; have GW122 := n3_; have GE122 := n4_; have NB121_122 := n5_; have NB122_121 := n6_; clear n0_ n1_ n2_ n3_ n4_ n5_ n6_; clear hb hbox hg; have hnb5 := NB121_122.out; have hnc5 := NB122_121.out; have hcz6_0 : w4.cell? ⟨gb121, 0, none⟩ = some (.int .i64 a0_0) := (blk_cell BK121.out 0).trans rfl; have hcz6_1 : w4.cell? ⟨gb121, 1, none⟩ = some (.int .i64 a0_1) := (blk_cell BK121.out 1).trans rfl; have hcz6_2 : w4.cell? ⟨gb121, 2, none⟩ = some (.int .i64 a0_2) := (blk_cell BK121.out 2).trans rfl; have hcz6_3 : w4.cell? ⟨gb121, 3, none⟩ = some (.int .i64 a0_3) := (blk_cell BK121.out 3).trans rfl; have hcz6_4 : w4.cell? ⟨gb121, 4, none⟩ = some (.int .i64 a0_4) := (blk_cell BK121.out 4).trans rfl; have hcz6_5 : w4.cell? ⟨gb121, 5, none⟩ = some (.bool a0_5) := (blk_cell BK121.out 5).trans rfl; have hcz6_6 : w4.cell? ⟨gb121, 6, none⟩ = some (.slice A0_6 l0_6.length c0_6) := (blk_cell BK121.out 6).trans rfl; have hfz6_0 := blk_frozen BK121.out 0; have hfz6_1 := blk_frozen BK121.out 1; have hfz6_2 := blk_frozen BK121.out 2; have hfz6_3 := blk_frozen BK121.out 3; have hfz6_4 := blk_frozen BK121.out 4; have hfz6_5 := blk_frozen BK121.out 5; have hfz6_6 := blk_frozen BK121.out 6) | ((with_reducible refine gate_callee (f := 162) rfl ?_); refine goesL_ (some 5) rfl rfl Try.func162 (by kernel_rfl) rfl #[.slice A0_6 l0_6.length c0_6] rfl (by (try simp only [List.map_toArray, List.map_cons, List.map_nil]); first | done | rfl | (simp only [List.length_drop, List.length_take]; rfl)) ?_; (with_reducible refine (bag_Copy.calls k _ _ l0_6 t123 _ ?side1 ?side2 A2.out).mono ?_); (case side1 => repeat (first | exact (Kd.C_below HR0_6.out HB.out) | (with_reducible refine Kd.C_alloc ?_ _) | (with_reducible refine Kd.C_drewN ?_ _) | (with_reducible refine Kd.C_drew ?_))); (case side2 => exact HC0_6.out); rintro e w7 ⟨v124, rfl, ho0, hb⟩; refine ⟨_, rfl, ?_⟩; have n0_ := Aside0.mk (Kd.S_lower ho0 (below_size (by repeat (first | (with_reducible first | exact HB.out | apply below_alloc | apply pw_below_drewN | apply below_drew1 | refine below_set ?_ GE121.out | refine below_set ?_ GE122.out) | exact HB.out)))); have n1_ := Aside0.mk (blk_below (g := gb121) (o := .cells #[.int .i64 a0_0, .int .i64 a0_1, .int .i64 a0_2, .int .i64 a0_3, .int .i64 a0_4, .bool a0_5, .slice A0_6 l0_6.length c0_6] 31 (0, 0)) (by (with_reducible repeat (first | refine blk_drewN ?_ _ | refine blk_drew ?_ | refine blk_alloc ?_ _)); exact BK121.out) hb); have n2_ := Aside0.mk (blk_below (g := gb122) (o := .cells #[.int .i64 0, .int .i64 0, .int .i64 0, .int .i64 0, .int .i64 0, .bool false, .slice none 0 0] 31 (0, 0)) (by (with_reducible repeat (first | refine blk_drewN ?_ _ | refine blk_drew ?_ | refine blk_alloc ?_ _)); exact BK122.out) hb); have n3_ := Aside0.mk (below_step (by repeat (first | (with_reducible first | exact HB.out | apply below_alloc | apply pw_below_drewN | apply below_drew1 | refine below_set ?_ GE121.out | refine below_set ?_ GE122.out) | exact HB.out)) hb); clear BK121; clear BK122; clear HB; have HO125 := n0_; have BK121 := n1_; have BK122 := n2_; have HB := n3_; clear n0_ n1_ n2_ n3_; (try clear hb); (try clear hb2); (try clear hk); (try clear hi); (try clear ho0); obtain ⟨Ao8, co8, eo8⟩ := Kd.S_slice HO125.out; subst eo8; have hcz9_0 : w7.cell? ⟨gb121, 0, none⟩ = some (.int .i64 a0_0) := (blk_cell BK121.out 0).trans rfl; have hcz9_1 : w7.cell? ⟨gb121, 1, none⟩ = some (.int .i64 a0_1) := (blk_cell BK121.out 1).trans rfl; have hcz9_2 : w7.cell? ⟨gb121, 2, none⟩ = some (.int .i64 a0_2) := (blk_cell BK121.out 2).trans rfl; have hcz9_3 : w7.cell? ⟨gb121, 3, none⟩ = some (.int .i64 a0_3) := (blk_cell BK121.out 3).trans rfl; have hcz9_4 : w7.cell? ⟨gb121, 4, none⟩ = some (.int .i64 a0_4) := (blk_cell BK121.out 4).trans rfl; have hcz9_5 : w7.cell? ⟨gb121, 5, none⟩ = some (.bool a0_5) := (blk_cell BK121.out 5).trans rfl; have hcz9_6 : w7.cell? ⟨gb121, 6, none⟩ = some (.slice A0_6 l0_6.length c0_6) := (blk_cell BK121.out 6).trans rfl; have hfz9_0 := blk_frozen BK121.out 0; have hfz9_1 := blk_frozen BK121.out 1; have hfz9_2 := blk_frozen BK121.out 2; have hfz9_3 := blk_frozen BK121.out 3; have hfz9_4 := blk_frozen BK121.out 4; have hfz9_5 := blk_frozen BK121.out 5; have hfz9_6 := blk_frozen BK121.out 6; have hcz10_0 : w7.cell? ⟨gb122, 0, none⟩ = some (.int .i64 0) := (blk_cell BK122.out 0).trans rfl; have hcz10_1 : w7.cell? ⟨gb122, 1, none⟩ = some (.int .i64 0) := (blk_cell BK122.out 1).trans rfl; have hcz10_2 : w7.cell? ⟨gb122, 2, none⟩ = some (.int .i64 0) := (blk_cell BK122.out 2).trans rfl; have hcz10_3 : w7.cell? ⟨gb122, 3, none⟩ = some (.int .i64 0) := (blk_cell BK122.out 3).trans rfl; have hcz10_4 : w7.cell? ⟨gb122, 4, none⟩ = some (.int .i64 0) := (blk_cell BK122.out 4).trans rfl; have hcz10_5 : w7.cell? ⟨gb122, 5, none⟩ = some (.bool false) := (blk_cell BK122.out 5).trans rfl; have hcz10_6 : w7.cell? ⟨gb122, 6, none⟩ = some (.slice none 0 0) := (blk_cell BK122.out 6).trans rfl; have hfz10_0 := blk_frozen BK122.out 0; have hfz10_1 := blk_frozen BK122.out 1; have hfz10_2 := blk_frozen BK122.out 2; have hfz10_3 := blk_frozen BK122.out 3; have hfz10_4 := blk_frozen BK122.out 4; have hfz10_5 := blk_frozen BK122.out 5; have hfz10_6 := blk_frozen BK122.out 6))
  refine bodyPost_ret (results_cell_row rfl _ _ gb122 31 #[.int .i64 a0_0, .int .i64 a0_1, .int .i64 a0_2, .int .i64 a0_3, .int .i64 a0_4, .bool a0_5, .slice Ao8 t123.length co8] (0, 0) _ rfl (by (with_reducible repeat (first | refine blk_drewN ?_ _ | refine blk_drew ?_ | refine blk_alloc ?_ _)); refine blk_put (cs := #[.int .i64 a0_0, .int .i64 a0_1, .int .i64 a0_2, .int .i64 a0_3, .int .i64 a0_4, .bool a0_5, .slice none 0 0]) ?_ 6 _ rfl; (with_reducible repeat (first | refine blk_drewN ?_ _ | refine blk_drew ?_ | refine blk_alloc ?_ _)); refine blk_put (cs := #[.int .i64 a0_0, .int .i64 a0_1, .int .i64 a0_2, .int .i64 a0_3, .int .i64 a0_4, .bool false, .slice none 0 0]) ?_ 5 _ rfl; (with_reducible repeat (first | refine blk_drewN ?_ _ | refine blk_drew ?_ | refine blk_alloc ?_ _)); refine blk_put (cs := #[.int .i64 a0_0, .int .i64 a0_1, .int .i64 a0_2, .int .i64 a0_3, .int .i64 0, .bool false, .slice none 0 0]) ?_ 4 _ rfl; (with_reducible repeat (first | refine blk_drewN ?_ _ | refine blk_drew ?_ | refine blk_alloc ?_ _)); refine blk_put (cs := #[.int .i64 a0_0, .int .i64 a0_1, .int .i64 a0_2, .int .i64 0, .int .i64 0, .bool false, .slice none 0 0]) ?_ 3 _ rfl; (with_reducible repeat (first | refine blk_drewN ?_ _ | refine blk_drew ?_ | refine blk_alloc ?_ _)); refine blk_put (cs := #[.int .i64 a0_0, .int .i64 a0_1, .int .i64 0, .int .i64 0, .int .i64 0, .bool false, .slice none 0 0]) ?_ 2 _ rfl; (with_reducible repeat (first | refine blk_drewN ?_ _ | refine blk_drew ?_ | refine blk_alloc ?_ _)); refine blk_put (cs := #[.int .i64 a0_0, .int .i64 0, .int .i64 0, .int .i64 0, .int .i64 0, .bool false, .slice none 0 0]) ?_ 1 _ rfl; (with_reducible repeat (first | refine blk_drewN ?_ _ | refine blk_drew ?_ | refine blk_alloc ?_ _)); refine blk_put (cs := #[.int .i64 0, .int .i64 0, .int .i64 0, .int .i64 0, .int .i64 0, .bool false, .slice none 0 0]) ?_ 0 _ rfl; (with_reducible repeat (first | refine blk_drewN ?_ _ | refine blk_drew ?_ | refine blk_alloc ?_ _)); refine blk_far ?_ NB122_121.out _; (with_reducible repeat (first | refine blk_drewN ?_ _ | refine blk_drew ?_ | refine blk_alloc ?_ _)); exact BK122.out) Try.underlying31 rfl (by kernel_rfl)) rfl ?_
  exact ⟨_, by first | rfl | (simp [errW_none, errW_some] <;> rfl) | (simp [*, errW_none, errW_some] <;> rfl), by (with_reducible repeat (first | apply Kd.S_alloc | apply Kd.S_drewN | apply Kd.S_drew)); exact Kd.S_mono (Kd.S_far (p := ⟨gb122, 6, none⟩) (Kd.S_far (p := ⟨gb122, 5, none⟩) (Kd.S_far (p := ⟨gb122, 4, none⟩) (Kd.S_far (p := ⟨gb122, 3, none⟩) (Kd.S_far (p := ⟨gb122, 2, none⟩) (Kd.S_far (p := ⟨gb122, 1, none⟩) (Kd.S_far (p := ⟨gb122, 0, none⟩) (Kd.S_far (p := ⟨gb121, 6, none⟩) (Kd.S_types (Kd.S_types HO125.out BK121.out (by decide)) BK122.out (by decide)) (fun _ hk => hk.1.2) (.slice Ao8 t123.length co8)) (fun _ hk => hk.2) (.int .i64 a0_0)) (fun _ hk => hk.2) (.int .i64 a0_1)) (fun _ hk => hk.2) (.int .i64 a0_2)) (fun _ hk => hk.2) (.int .i64 a0_3)) (fun _ hk => hk.2) (.int .i64 a0_4)) (fun _ hk => hk.2) (.bool a0_5)) (fun _ hk => hk.2) (.slice Ao8 t123.length co8)) (fun _ hk => trivial), by repeat (first | (with_reducible first | exact HB.out | apply below_alloc | apply pw_below_drewN | apply below_drew1 | refine below_set ?_ GE121.out | refine below_set ?_ GE122.out) | exact HB.out)⟩

theorem rec_clone_f (x : S31) (hs : smallB x.f5 = true) (k : Nat) (hk : x.f5.length + 1 ≤ k) : rec_clone.f k x.f0 x.f1 x.f2 x.f3.f0 x.f3.f1 x.f4 x.f5 = some (x.f0, x.f1, x.f2, x.f3.f0, x.f3.f1, x.f4, x.f5) := by
  unfold rec_clone.f
  rw [bag_Copy_f x.f5 hs k hk]; rfl

/-! ### rec_Copy: function 43 -/
def rec_Copy.l0 : Nat → List (S31) → List (S31) → Int → Int → Option ((List (S31)))
  | 0, _, _, _, _ => none
  | k + 1, x3, x6, x7, x8 => if x8 < x7 then (if 0 ≤ x8 then (if x8 < (x6.length : Int) then ((rec_clone.f k ((rd_T31 x6 x8).f0) ((rd_T31 x6 x8).f1) ((rd_T31 x6 x8).f2) ((rd_T31 x6 x8).f3.f0) ((rd_T31 x6 x8).f3.f1) ((rd_T31 x6 x8).f4) ((rd_T31 x6 x8).f5)).bind fun bt128 => (if x3.length < 1954687338268 then (rec_Copy.l0 k (x3 ++ [(⟨bt128.1, bt128.2.1, bt128.2.2.1, (⟨bt128.2.2.2.1, bt128.2.2.2.2.1⟩ : S28), bt128.2.2.2.2.2.1, bt128.2.2.2.2.2.2⟩ : S31)]) x6 x7 (wrap64 (x8 + 1))) else (none))) else (none)) else (none)) else (some x3)
def rec_Copy.f (k : Nat) (l0 : List (S31)) : Option ((List (S31))) := rec_Copy.l0 k ([] : List (S31)) l0 (l0.length : Int) 0
theorem rec_Copy.mono_l : ∀ k, (∀ y0 y1 y2 y3, LeO (rec_Copy.l0 k y0 y1 y2 y3) (rec_Copy.l0 (k + 1) y0 y1 y2 y3))
  | 0 => fun _ _ _ _ r h => by simp [rec_Copy.l0] at h
  | k + 1 => by
    have ih0 := rec_Copy.mono_l k
    · intro y0 y1 y2 y3
      unfold rec_Copy.l0
      repeat' first
      | (with_reducible exact ih0 _ _ _ _)
      | (with_reducible exact rec_clone.mono _ _ _ _ _ _ _ _)
      | (with_reducible exact LeO.refl _)
      | (with_reducible exact LeO.none _)
      | (with_reducible refine LeO.ite ?_ ?_)
      | (with_reducible refine LeO.bind ?_ (fun _ => ?_))
      | exact ih0 _ _ _ _
      | exact rec_clone.mono _ _ _ _ _ _ _ _
      | exact LeO.none _
      | refine LeO.ite ?_ ?_
      | refine LeO.bind ?_ (fun _ => ?_)
theorem rec_Copy.mono : ∀ a0 k, LeO (rec_Copy.f k a0) (rec_Copy.f (k + 1) a0) := by
  intro a0 k
  have ih0 := rec_Copy.mono_l k
  unfold rec_Copy.f
  repeat' first
      | (with_reducible exact ih0 _ _ _ _)
      | (with_reducible exact rec_clone.mono _ _ _ _ _ _ _ _)
      | (with_reducible exact LeO.refl _)
      | (with_reducible exact LeO.none _)
      | (with_reducible refine LeO.ite ?_ ?_)
      | (with_reducible refine LeO.bind ?_ (fun _ => ?_))
      | exact ih0 _ _ _ _
      | exact rec_clone.mono _ _ _ _ _ _ _ _
      | exact LeO.none _
      | refine LeO.ite ?_ ?_
      | refine LeO.bind ?_ (fun _ => ?_)
set_option maxHeartbeats 8000000 in
set_option maxRecDepth 100000 in
theorem rec_Copy.calls (k : Nat) (A0 : Option Addr) (c0 : Nat) (l0 : List (S31)) (r : List (S31)) (w : World) (hr0 : Kd.C k31 w A0 l0.length l0) (hc0 : l0.length ≤ c0) (h : rec_Copy.f k l0 = some r) :
    Calls Try.prog 43 #[.slice A0 l0.length c0] w fun e w' => ∃ v0_ : Value, e = .returned (v0_) ∧ Kd.R k31 31 w' w.heap.size (fun _ => True) v0_ r ∧ Below w.heap.size w w' := by
  have hu31 := Try.underlying31
  have HR0 := Aside0.mk hr0
  have HC0 := Aside0.mk hc0
  clear hr0 hc0
  have HB := Aside0.mk (Below.refl w.heap.size w)
  have H : (rec_Copy.l0 k ([] : List (S31)) l0 (l0.length : Int) 0) = some r := h
  clear h
  have H' := Aside0.mk H
  clear H
  go_enter Try.func43, Try.ntmps43
  go_wp2
  go_loopg [3, 8] k (fun kq v3 v8 w' => ∃ (x3_1 : List (S31)) (x8_1 : Int), v8 = .int .i64 x8_1 ∧ Aside0 (rec_Copy.l0 kq x3_1 l0 (l0.length : Int) x8_1 = some r) ∧ Aside0 (kq ≤ k) ∧ Aside0 (Kd.R k31 31 w' w.heap.size (fun _ => True) v3 x3_1) ∧ Aside0 (Below w.heap.size w w'))
  case atStart => exact ⟨(([] : List (S31))), (0), (by first | rfl | (simp; done) | (simp [*]; done)), H', ⟨Nat.le_refl _⟩, ⟨by first | exact Kd.R_nil _ _ _ _ _ | exact Kd.N_nil _ _ _ _ _ | exact Kd.V_nil _ _ _ _ _ | exact Kd.Q_nil _ _ _ _ _ | exact Kd.S_nil _ _ _ _ _⟩, ⟨by repeat (first | (with_reducible first | exact HB.out | apply below_alloc | apply pw_below_drewN | apply below_drew1) | exact HB.out)⟩⟩
  case round =>
    clear H'
    obtain ⟨x3_1, x8_1, rfl, HA, HK1, HO_3, HB⟩ := hrel
    cases gk with
    | zero => exact absurd HA.out (by simp [rec_Copy.l0])
    | succ k1 =>
      have H := HA.out
      clear HA
      simp only [rec_Copy.l0] at H
      by_cases c2 : x8_1 < (l0.length : Int)
      · rw [if_pos c2] at H
        have c2b0 : decide (x8_1 < (l0.length : Int)) = true := decide_eq_true c2
        clear c2
        by_cases c3 : 0 ≤ x8_1
        · rw [if_pos c3] at H
          have c3b0 : decide (0 ≤ x8_1) = true := decide_eq_true c3
          clear c3
          by_cases c4 : x8_1 < (l0.length : Int)
          · rw [if_pos c4] at H
            have c4b0 : decide (x8_1 < (l0.length : Int)) = true := decide_eq_true c4
            clear c4
            replace H := Option.bind_eq_some_iff.mp H
            obtain ⟨⟨t128, t129, t130, t131, t132, t133, t134⟩, A50, H⟩ := H
            replace H : (if x3_1.length < 1954687338268 then (rec_Copy.l0 k1 (x3_1 ++ [(⟨t128, t129, t130, (⟨t131, t132⟩ : S28), t133, t134⟩ : S31)]) l0 (l0.length : Int) (wrap64 (x8_1 + 1))) else (none)) = some r := H
            have A5 := Aside0.mk A50
            clear A50
            by_cases c6 : x3_1.length < 1954687338268
            · rw [if_pos c6] at H
              have LMc6 := Aside0.mk c6
              clear c6
              obtain ⟨y137, hy137⟩ : ∃ y_ : List (S31), y_ = (x3_1 ++ [(⟨t128, t129, t130, (⟨t131, t132⟩ : S28), t133, t134⟩ : S31)]) := ⟨_, rfl⟩
              replace H : (rec_Copy.l0 k1 y137 l0 (l0.length : Int) (wrap64 (x8_1 + 1))) = some r := by first | (rw [hy137]; with_reducible exact H) | (have H2_ := (Option.bind_some _ _).symm.trans H; rw [hy137]; with_reducible exact H2_) | (have H2_ := (Option.bind_some _ _).symm.trans H; with_reducible exact H2_) | with_reducible exact H | (rw [hy137]; exact H) | exact H
              have Ny137 := Aside0.mk hy137
              clear hy137
              have H' := Aside0.mk H
              clear H
              have p126 : 0 ≤ (x8_1 : Int) := of_decide_eq_true (by first | (with_reducible assumption) | assumption)
              have q126 : x8_1 < (l0.length : Int) := of_decide_eq_true (by first | (with_reducible assumption) | assumption)
              obtain ⟨ad126, A126_6, c126_6, e126, hx126_0, hx126_1, hx126_2, hx126_3, hx126_4, hx126_5, hx126_6, hl126_6, hi126_6⟩ := at_T31 HR0.out x8_1 p126 q126
              cases e126
              replace hx126_0 := (HB.out.cell (World.block_lt_of_cell? w _ hx126_0)).trans hx126_0
              replace hx126_1 := (HB.out.cell (World.block_lt_of_cell? w _ hx126_1)).trans hx126_1
              replace hx126_2 := (HB.out.cell (World.block_lt_of_cell? w _ hx126_2)).trans hx126_2
              replace hx126_3 := (HB.out.cell (World.block_lt_of_cell? w _ hx126_3)).trans hx126_3
              replace hx126_4 := (HB.out.cell (World.block_lt_of_cell? w _ hx126_4)).trans hx126_4
              replace hx126_5 := (HB.out.cell (World.block_lt_of_cell? w _ hx126_5)).trans hx126_5
              replace hx126_6 := (HB.out.cell (World.block_lt_of_cell? w _ hx126_6)).trans hx126_6
              have HR126_6 := Aside0.mk hi126_6
              have HC126_6 := Aside0.mk hl126_6
              clear hi126_6 hl126_6
              replace p126 := eq_true p126
              replace q126 := eq_true q126
              go_wp2_with (first | ((with_reducible refine gate_dst (N := 5) rfl ?_); refine box_event ?hg (N := 5) ?hd (cs := #[.int .i64 0, .int .i64 0, .int .i64 0, .int .i64 0, .int .i64 0, .bool false, .slice none 0 0]) (t := 31) ?hr ?_; (case hd => rfl); (case hg => rfl); (case hr => first | (go_simp; done) | (go_simp; rfl)); intro gb127 hg w7 hbox hb; have n0_ := Aside0.mk (Kd.R_below (Kd.R_elderB (by (with_reducible repeat (first | apply Kd.R_alloc | apply Kd.R_drewN | apply Kd.R_drew)); exact HO_3.out) gb127 (Nat.le_of_eq hg.symm)) hb); have n1_ := Aside0.mk (below_step (by repeat (first | (with_reducible first | exact HB.out | apply below_alloc | apply pw_below_drewN | apply below_drew1) | exact HB.out)) hb); have n2_ := Aside0.mk (hbox); have n3_ := Aside0.mk ((by rw [hg]; exact (below_size (by repeat (first | (with_reducible first | exact HB.out | apply below_alloc | apply pw_below_drewN | apply below_drew1) | exact HB.out))) : w.heap.size ≤ gb127)); have n4_ := Aside0.mk ((by rw [hg]; exact (below_size (by repeat (first | (with_reducible first | exact HB.out | apply below_alloc | apply pw_below_drewN | apply below_drew1) | exact HB.out))) : w.heap.size ≤ gb127)); clear HO_3; clear HB; have HO_3 := n0_; have HB := n1_; have BK127 := n2_; have GW127 := n3_; have GE127 := n4_; clear n0_ n1_ n2_ n3_ n4_; clear hb hbox hg; have hcz8_0 : w7.cell? ⟨gb127, 0, none⟩ = some (.int .i64 0) := (blk_cell BK127.out 0).trans rfl; have hcz8_1 : w7.cell? ⟨gb127, 1, none⟩ = some (.int .i64 0) := (blk_cell BK127.out 1).trans rfl; have hcz8_2 : w7.cell? ⟨gb127, 2, none⟩ = some (.int .i64 0) := (blk_cell BK127.out 2).trans rfl; have hcz8_3 : w7.cell? ⟨gb127, 3, none⟩ = some (.int .i64 0) := (blk_cell BK127.out 3).trans rfl; have hcz8_4 : w7.cell? ⟨gb127, 4, none⟩ = some (.int .i64 0) := (blk_cell BK127.out 4).trans rfl; have hcz8_5 : w7.cell? ⟨gb127, 5, none⟩ = some (.bool false) := (blk_cell BK127.out 5).trans rfl; have hcz8_6 : w7.cell? ⟨gb127, 6, none⟩ = some (.slice none 0 0) := (blk_cell BK127.out 6).trans rfl; have hfz8_0 := blk_frozen BK127.out 0; have hfz8_1 := blk_frozen BK127.out 1; have hfz8_2 := blk_frozen BK127.out 2; have hfz8_3 := blk_frozen BK127.out 3; have hfz8_4 := blk_frozen BK127.out 4; have hfz8_5 := blk_frozen BK127.out 5; have hfz8_6 := blk_frozen BK127.out 6) | ((with_reducible refine gate_callee (f := 137) rfl ?_); refine goesL_ (some 14) rfl rfl Try.func137 (by kernel_rfl) rfl #[.agg #[.int .i64 ((rd_T31 l0 x8_1).f0), .int .i64 ((rd_T31 l0 x8_1).f1), .int .i64 ((rd_T31 l0 x8_1).f2), .int .i64 ((rd_T31 l0 x8_1).f3.f0), .int .i64 ((rd_T31 l0 x8_1).f3.f1), .bool ((rd_T31 l0 x8_1).f4), .slice A126_6 ((rd_T31 l0 x8_1).f5).length c126_6]] rfl (by (try simp only [List.map_toArray, List.map_cons, List.map_nil]); first | done | rfl | (simp only [List.length_drop, List.length_take]; rfl)) ?_; (with_reducible refine (rec_clone.calls k1 ((rd_T31 l0 x8_1).f0) ((rd_T31 l0 x8_1).f1) ((rd_T31 l0 x8_1).f2) ((rd_T31 l0 x8_1).f3.f0) ((rd_T31 l0 x8_1).f3.f1) ((rd_T31 l0 x8_1).f4) _ _ ((rd_T31 l0 x8_1).f5) t128 t129 t130 t131 t132 t133 t134 _ ?side1 ?side2 A5.out).mono ?_); (case side1 => exact Kd.C_below HR126_6.out (by repeat (first | (with_reducible first | exact HB.out | apply below_alloc | apply pw_below_drewN | apply below_drew1 | refine below_set ?_ GE127.out) | exact HB.out))); (case side2 => exact HC126_6.out); rintro e w9 ⟨v135, rfl, ho0, hb⟩; refine ⟨_, rfl, ?_⟩; have n0_ := Aside0.mk (Kd.R_elder' (by (with_reducible repeat (first | apply Kd.R_alloc | apply Kd.R_drewN | apply Kd.R_drew)); exact (Kd.R_mono (Kd.R_far (p := ⟨gb127, 6, none⟩) (Kd.R_far (p := ⟨gb127, 5, none⟩) (Kd.R_far (p := ⟨gb127, 4, none⟩) (Kd.R_far (p := ⟨gb127, 3, none⟩) (Kd.R_far (p := ⟨gb127, 2, none⟩) (Kd.R_far (p := ⟨gb127, 1, none⟩) (Kd.R_far (p := ⟨gb127, 0, none⟩) (Kd.R_mono HO_3.out (fun k_ hk => (⟨hk, hk.2⟩ : _ ∧ k_ ≠ gb127))) (fun _ hk => hk.2) (.int .i64 ((rd_T31 l0 x8_1).f0))) (fun _ hk => hk.2) (.int .i64 ((rd_T31 l0 x8_1).f1))) (fun _ hk => hk.2) (.int .i64 ((rd_T31 l0 x8_1).f2))) (fun _ hk => hk.2) (.int .i64 ((rd_T31 l0 x8_1).f3.f0))) (fun _ hk => hk.2) (.int .i64 ((rd_T31 l0 x8_1).f3.f1))) (fun _ hk => hk.2) (.bool ((rd_T31 l0 x8_1).f4))) (fun _ hk => hk.2) (.slice A126_6 ((rd_T31 l0 x8_1).f5).length c126_6)) (fun _ h_ => h_.1))) (Kd.S_base ho0) hb); have n1_ := Aside0.mk (Kd.S_lower ho0 (below_size (by repeat (first | (with_reducible first | exact HB.out | apply below_alloc | apply pw_below_drewN | apply below_drew1 | refine below_set ?_ GE127.out) | exact HB.out)))); have n2_ := Aside0.mk (blk_below (g := gb127) (o := .cells #[.int .i64 ((rd_T31 l0 x8_1).f0), .int .i64 ((rd_T31 l0 x8_1).f1), .int .i64 ((rd_T31 l0 x8_1).f2), .int .i64 ((rd_T31 l0 x8_1).f3.f0), .int .i64 ((rd_T31 l0 x8_1).f3.f1), .bool ((rd_T31 l0 x8_1).f4), .slice A126_6 ((rd_T31 l0 x8_1).f5).length c126_6] 31 (0, 0)) (by (with_reducible repeat (first | refine blk_drewN ?_ _ | refine blk_drew ?_ | refine blk_alloc ?_ _)); refine blk_put (cs := #[.int .i64 ((rd_T31 l0 x8_1).f0), .int .i64 ((rd_T31 l0 x8_1).f1), .int .i64 ((rd_T31 l0 x8_1).f2), .int .i64 ((rd_T31 l0 x8_1).f3.f0), .int .i64 ((rd_T31 l0 x8_1).f3.f1), .bool ((rd_T31 l0 x8_1).f4), .slice none 0 0]) ?_ 6 _ rfl; (with_reducible repeat (first | refine blk_drewN ?_ _ | refine blk_drew ?_ | refine blk_alloc ?_ _)); refine blk_put (cs := #[.int .i64 ((rd_T31 l0 x8_1).f0), .int .i64 ((rd_T31 l0 x8_1).f1), .int .i64 ((rd_T31 l0 x8_1).f2), .int .i64 ((rd_T31 l0 x8_1).f3.f0), .int .i64 ((rd_T31 l0 x8_1).f3.f1), .bool false, .slice none 0 0]) ?_ 5 _ rfl; (with_reducible repeat (first | refine blk_drewN ?_ _ | refine blk_drew ?_ | refine blk_alloc ?_ _)); refine blk_put (cs := #[.int .i64 ((rd_T31 l0 x8_1).f0), .int .i64 ((rd_T31 l0 x8_1).f1), .int .i64 ((rd_T31 l0 x8_1).f2), .int .i64 ((rd_T31 l0 x8_1).f3.f0), .int .i64 0, .bool false, .slice none 0 0]) ?_ 4 _ rfl; (with_reducible repeat (first | refine blk_drewN ?_ _ | refine blk_drew ?_ | refine blk_alloc ?_ _)); refine blk_put (cs := #[.int .i64 ((rd_T31 l0 x8_1).f0), .int .i64 ((rd_T31 l0 x8_1).f1), .int .i64 ((rd_T31 l0 x8_1).f2), .int .i64 0, .int .i64 0, .bool false, .slice none 0 0]) ?_ 3 _ rfl; (with_reducible repeat (first | refine blk_drewN ?_ _ | refine blk_drew ?_ | refine blk_alloc ?_ _)); refine blk_put (cs := #[.int .i64 ((rd_T31 l0 x8_1).f0), .int .i64 ((rd_T31 l0 x8_1).f1), .int .i64 0, .int .i64 0, .int .i64 0, .bool false, .slice none 0 0]) ?_ 2 _ rfl; (with_reducible repeat (first | refine blk_drewN ?_ _ | refine blk_drew ?_ | refine blk_alloc ?_ _)); refine blk_put (cs := #[.int .i64 ((rd_T31 l0 x8_1).f0), .int .i64 0, .int .i64 0, .int .i64 0, .int .i64 0, .bool false, .slice none 0 0]) ?_ 1 _ rfl; (with_reducible repeat (first | refine blk_drewN ?_ _ | refine blk_drew ?_ | refine blk_alloc ?_ _)); refine blk_put (cs := #[.int .i64 0, .int .i64 0, .int .i64 0, .int .i64 0, .int .i64 0, .bool false, .slice none 0 0]) ?_ 0 _ rfl; (with_reducible repeat (first | refine blk_drewN ?_ _ | refine blk_drew ?_ | refine blk_alloc ?_ _)); exact BK127.out) hb); have n3_ := Aside0.mk (below_step (by repeat (first | (with_reducible first | exact HB.out | apply below_alloc | apply pw_below_drewN | apply below_drew1 | refine below_set ?_ GE127.out) | exact HB.out)) hb); clear HO_3; clear BK127; clear HB; have HO_3 := n0_; have HO136 := n1_; have BK127 := n2_; have HB := n3_; clear n0_ n1_ n2_ n3_; (try clear hb); (try clear hb2); (try clear hk); (try clear hi); (try clear ho0); obtain ⟨Ao11, co11, eo11⟩ := Kd.S_slice HO136.out; subst eo11) | ((with_reducible refine gate_builtin (b := .append) (xs := #[.tmp 12, .tmp 15]) rfl ?_); at_builtin; refine Kd.R_append k31 (w0 := w) w.heap.size rfl (.tmp 12) (.tmp 15) 22 31 (.agg #[(.int .i64 0), (.int .i64 0), (.int .i64 0), (.int .i64 0), (.int .i64 0), (.bool false), (.slice none 0 0)]) 72 rfl Try.underlying22 info31 rfl (by decide) (by omega) u3 x3_1 (⟨t128, t129, t130, (⟨t131, t132⟩ : S28), t133, t134⟩ : S31) [.int .i64 t128, .int .i64 t129, .int .i64 t130, .int .i64 t131, .int .i64 t132, .bool t133, .slice Ao11 t134.length co11] (fun k_ => k_ ≠ gb127) (fun k_ => ((fun k_ => k_ ≠ gb127)) k_ ∧ some k_ ≠ (u3 : Value).ownBlock) rfl rfl ?aP (fun _ hk => hk) ?aF ?aO ?aB ?aS ?aL ?_; (case aP => exact k31_mkM _ _ _ (⟨t128, t129, t130, (⟨t131, t132⟩ : S28), t133, t134⟩ : S31) (Kd.R_mono (Kd.R_types (Kd.R_apart' ((Kd.S_R HO136.out)) (Kd.R_typed HO_3.out) (by decide)) BK127.out (by decide)) (fun k_ hk => ⟨hk.2, hk.1.2⟩))); (case aB => exact (by repeat (first | (with_reducible first | exact HB.out | apply below_alloc | apply pw_below_drewN | apply below_drew1 | refine below_set ?_ GE127.out) | exact HB.out))); (case aF => exact (fun k_ hk => Kd.freshB (g := gb127) (o := .cells #[.int .i64 ((rd_T31 l0 x8_1).f0), .int .i64 ((rd_T31 l0 x8_1).f1), .int .i64 ((rd_T31 l0 x8_1).f2), .int .i64 ((rd_T31 l0 x8_1).f3.f0), .int .i64 ((rd_T31 l0 x8_1).f3.f1), .bool ((rd_T31 l0 x8_1).f4), .slice A126_6 ((rd_T31 l0 x8_1).f5).length c126_6] 31 (0, 0)) (by (with_reducible repeat (first | refine blk_drewN ?_ _ | refine blk_drew ?_ | refine blk_alloc ?_ _)); exact BK127.out) k_ hk)); (case aO => exact (by (with_reducible repeat (first | apply Kd.R_alloc | apply Kd.R_drewN | apply Kd.R_drew)); exact Kd.R_mono HO_3.out (fun _ hk => hk.1.2))); (case aS => exact (below_size (by repeat (first | (with_reducible first | exact HB.out | apply below_alloc | apply pw_below_drewN | apply below_drew1 | refine below_set ?_ GE127.out) | exact HB.out)))); (case aL => have := LMc6.out; omega); intro v138 w10 ho hb hg hat; rw [← Ny137.out] at ho; have n0_ := Aside0.mk (blk_grown (g := gb127) (o := .cells #[.int .i64 ((rd_T31 l0 x8_1).f0), .int .i64 ((rd_T31 l0 x8_1).f1), .int .i64 ((rd_T31 l0 x8_1).f2), .int .i64 ((rd_T31 l0 x8_1).f3.f0), .int .i64 ((rd_T31 l0 x8_1).f3.f1), .bool ((rd_T31 l0 x8_1).f4), .slice A126_6 ((rd_T31 l0 x8_1).f5).length c126_6] 31 (0, 0)) (by (with_reducible repeat (first | refine blk_drewN ?_ _ | refine blk_drew ?_ | refine blk_alloc ?_ _)); exact BK127.out) hg (Kd.R_away HO_3.out (fun _ hk => hk.1.2))); have n1_ := Aside0.mk (hb); have n2_ := Aside0.mk (ho); clear BK127; clear HB; clear HO_3; clear HO136; have BK127 := n0_; have HB := n1_; have HO139 := n2_; clear n0_ n1_ n2_; clear ho hb hg hat))
              go_roundg k1
              case measure => have := HK1.out; omega
              case rel => exact ⟨(y137), (wrap64 (x8_1 + 1)), (by first | rfl | (simp; done) | (simp [*]; done)), H', ⟨by have := HK1.out; omega⟩, ⟨by (with_reducible repeat (first | apply Kd.R_alloc | apply Kd.R_drewN | apply Kd.R_drew)); exact Kd.R_mono HO139.out (fun _ hk => trivial)⟩, ⟨by repeat (first | (with_reducible first | exact HB.out | apply below_alloc | apply pw_below_drewN | apply below_drew1 | refine below_set ?_ GE127.out) | exact HB.out)⟩⟩
            · rw [if_neg c6] at H
              exact absurd H (by simp)
          · rw [if_neg c4] at H
            exact absurd H (by simp)
        · rw [if_neg c3] at H
          exact absurd H (by simp)
      · rw [if_neg c2] at H
        have c2b0 : decide (x8_1 < (l0.length : Int)) = false := decide_eq_false c2
        clear c2
        obtain rfl := Option.some.inj H
        go_wp2
        go_ret
        exact ⟨_, by first | rfl | (simp [errW_none, errW_some] <;> rfl) | (simp [*, errW_none, errW_some] <;> rfl), by (with_reducible repeat (first | apply Kd.R_alloc | apply Kd.R_drewN | apply Kd.R_drew)); exact HO_3.out, by repeat (first | (with_reducible first | exact HB.out | apply below_alloc | apply pw_below_drewN | apply below_drew1) | exact HB.out)⟩

/-- Records that rec.Copy has room for. -/
def smallR (l : List S31) : Bool := decide (l.length < 1954687338268) && l.all (fun x => smallB x.f5)
theorem smallR_mem {l : List S31} (h : smallR l = true) : ∀ x ∈ l, smallB x.f5 = true := by
  simp only [smallR, Bool.and_eq_true, List.all_eq_true, decide_eq_true_eq] at h
  exact h.2
theorem smallR_rd {l : List S31} (h : smallR l = true) (i : Nat) (hi : i < l.length) : smallB (rd_T31 l (i : Int)).f5 = true := by
  simp only [smallR, Bool.and_eq_true, List.all_eq_true, decide_eq_true_eq] at h
  have : rd_T31 l (i : Int) = l[i] := by simp [rd_T31, List.getD_eq_getElem?_getD, List.getElem?_eq_getElem hi]
  rw [this]; exact h.2 _ (List.getElem_mem hi)
/-- Rounds that are enough for a copy. -/
def bigR (l : List S31) : Nat := l.foldr (fun x n => max (x.f5.length + 1) n) 0
theorem bigR_le {l : List S31} : ∀ x ∈ l, x.f5.length + 1 ≤ bigR l := by
  induction l with
  | nil => intro x hx; cases hx
  | cons y l ih =>
    intro x hx
    simp only [bigR, List.foldr_cons]
    rcases List.mem_cons.1 hx with rfl | hx
    · exact Nat.le_max_left _ _
    · exact Nat.le_trans (ih x hx) (Nat.le_max_right _ _)
theorem rec_Copy_l0 (l : List S31) (hs : smallR l = true) : ∀ (d i : Nat) (acc : List S31) (k : Nat), i + d = l.length → acc.length = i → d + bigR l + 1 ≤ k → rec_Copy.l0 k acc l (l.length : Int) (i : Int) = some (acc ++ l.drop i) := by
  have hl : l.length < 1954687338268 := by simp only [smallR, Bool.and_eq_true, decide_eq_true_eq] at hs; exact hs.1
  intro d
  induction d with
  | zero =>
    intro i acc k hi ha hk
    obtain ⟨k, rfl⟩ : ∃ m, k = m + 1 := ⟨k - 1, by omega⟩
    rw [List.drop_eq_nil_of_le (by omega)]
    simp only [rec_Copy.l0]
    rw [if_neg (by omega)]; simp
  | succ d ih =>
    intro i acc k hi ha hk
    obtain ⟨k, rfl⟩ : ∃ m, k = m + 1 := ⟨k - 1, by omega⟩
    have hx := smallR_rd hs i (by omega)
    have hm : rd_T31 l (i : Int) ∈ l := by
      have : rd_T31 l (i : Int) = l[i] := by simp [rd_T31, List.getD_eq_getElem?_getD, List.getElem?_eq_getElem (show i < l.length by omega)]
      rw [this]; exact List.getElem_mem _
    have hb := bigR_le _ hm
    simp only [rec_Copy.l0]
    rw [if_pos (by omega), if_pos (by omega), if_pos (by omega), rec_clone_f _ hx k (by omega)]
    simp only [Option.bind_some]
    have hw : wrap64 ((i : Int) + 1) = ((i + 1 : Nat) : Int) := by rw [w64 (by omega) (by omega)]; omega
    rw [if_pos (by omega), hw, ih (i + 1) _ k (by omega) (by simp [ha]) (by omega), drop_rd l i (by omega)]
    simp
theorem rec_Copy_f (l : List S31) (hs : smallR l = true) (k : Nat) (hk : l.length + bigR l + 1 ≤ k) : rec_Copy.f k l = some l := by
  unfold rec_Copy.f
  have := rec_Copy_l0 l hs l.length 0 [] k (by omega) rfl (by omega)
  simpa using this

end Go.Proofs.Ythajahdjkmfnnaa.DL
