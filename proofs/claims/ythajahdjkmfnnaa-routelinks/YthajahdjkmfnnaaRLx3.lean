-- Printed by a program of this session (wip/pp.py) over the kit's printer, with functions proved by hand among them.
import Derived.Test.YthajahdjkmfnnaaRLx0
import Derived.Test.YthajahdjkmfnnaaRLx1
import Derived.Test.YthajahdjkmfnnaaRLx2
namespace Go.Proofs.Ythajahdjkmfnnaa.RL
open Go.RowKit Go.Proofs.YthajahdjkmfnnaaW.PrintWords Go.Proofs.YthajahdjkmfnnaaW.PrintLast Go.Proofs.YthajahdjkmfnnaaW.PrintMore
attribute [local go_sem] max2_int min2_int max_two min_two max_three min_three max_four min_four   -- for this text's walks alone
set_option linter.unusedVariables false
set_option linter.unusedSimpArgs false

/-! ### rec_Sorted: function 30 -/
/-- What the closure of rec.Sorted does: bad or not, and the last id. -/
def stepS (last : Int) (x : S31) : Bool × Int := (!recV x || decide (x.f0 ≤ last), x.f0)
def sortedB (l : List S31) : Bool := decide (whr stepS (-1) l = l.length)
theorem Sorted1.calls (w0 W : World) (last : Int) (g : Nat) (hg : w0.heap.size ≤ g) (x : S31) (A : Option Addr) (c : Nat) (hlc : x.f5.length ≤ c) (hr : k332.C w0 A x.f5.length x.f5) (hB : Below w0.heap.size w0 W)
    (hs : W.heap[g]? = some (.cells #[.int .i64 last] 3 (0, 0))) :
    Calls Try.prog 138 #[.agg #[.int .i64 x.f0, .int .i64 x.f1, .int .i64 x.f2, .int .i64 x.f3.f0, .int .i64 x.f3.f1, .bool x.f4, .slice A x.f5.length c], .pointer (some ⟨g, 0, none⟩)] W fun e W' =>
      e = .returned (.bool (stepS last x).1) ∧ W'.heap[g]? = some (.cells #[.int .i64 (stepS last x).2] 3 (0, 0)) ∧ Below w0.heap.size w0 W' ∧ KeepBut W W' g none := by
  have HR := Aside0.mk hr
  have HB := Aside0.mk hB
  have HS := Aside0.mk hs
  have HG := Aside0.mk (blk_lt hs)
  have HL := Aside0.mk hlc
  have HV := Aside0.mk (rec_Valid_f x 70 (Nat.le_refl _))
  clear hr hB hs hlc
  have hu31 := Try.underlying31
  have c0 := blk_cell HS.out 0
  have f0 := blk_frozen HS.out 0
  simp only [List.getElem?_toArray, List.getElem?_cons_zero] at c0
  have HG0 := Aside0.mk hg
  clear hg
  have cp : ∀ (w2 : World), Below (W.alloc (.cells #[.int .i64 x.f0, .int .i64 x.f1, .int .i64 x.f2, .int .i64 x.f3.f0, .int .i64 x.f3.f1, .bool x.f4, .slice A x.f5.length c] 31)).heap.size (W.alloc (.cells #[.int .i64 x.f0, .int .i64 x.f1, .int .i64 x.f2, .int .i64 x.f3.f0, .int .i64 x.f3.f1, .bool x.f4, .slice A x.f5.length c] 31)) w2 →
      w2.cell? ⟨W.heap.size, 0, none⟩ = some (.int .i64 x.f0) ∧ w2.heap[g]? = some (.cells #[.int .i64 last] 3 (0, 0)) := fun w2 hb =>
    ⟨(blk_cell (blk_below (blk_new W _) hb) 0).trans rfl, blk_below (blk_alloc HS.out _) hb⟩
  have CP := Aside0.mk cp
  clear cp
  cases hv : recV x
  · have hx : stepS last x = (true, x.f0) := by simp [stepS, hv]
    rw [hv] at HV
    go_enter Try.func138, Try.ntmps138
    go_wp2_with (go_at_call 60; ((with_reducible refine (rec_Valid.calls 70 x.f0 x.f1 x.f2 x.f3.f0 x.f3.f1 x.f4 A c x.f5 false _ ?h1 HL.out HV.out).mono ?_); (case h1 => exact Kd.C_alloc (Kd.C_below HR.out HB.out) _); rintro e w2 ⟨rfl, hb⟩; obtain ⟨p0, p1⟩ := CP.out w2 hb; (have q0 := (blk_cell p1 0).trans rfl); (have q1 := blk_frozen p1 0); (have P1 := Aside0.mk p1); (have HB2 := Aside0.mk hb); clear p1 hb))
    go_ret
    rw [hx]
    exact ⟨rfl, by simpa using blk_set P1.out 0 (.int .i64 x.f0), (below_then (below_alloc_of HB.out _) (below_alloc_of HB.out _).size HB2.out).setCell HG0.out _, (keep_after HB2.out).set_ 0 _⟩
  · have hx : stepS last x = (decide (x.f0 ≤ last), x.f0) := by simp [stepS, hv]
    rw [hv] at HV
    go_enter Try.func138, Try.ntmps138
    go_wp2_with (go_at_call 60; ((with_reducible refine (rec_Valid.calls 70 x.f0 x.f1 x.f2 x.f3.f0 x.f3.f1 x.f4 A c x.f5 true _ ?h1 HL.out HV.out).mono ?_); (case h1 => exact Kd.C_alloc (Kd.C_below HR.out HB.out) _); rintro e w2 ⟨rfl, hb⟩; obtain ⟨p0, p1⟩ := CP.out w2 hb; (have q0 := (blk_cell p1 0).trans rfl); (have q1 := blk_frozen p1 0); (have P1 := Aside0.mk p1); (have HB2 := Aside0.mk hb); clear p1 hb))
    go_ret
    rw [hx]
    exact ⟨rfl, by simpa using blk_set P1.out 0 (.int .i64 x.f0), (below_then (below_alloc_of HB.out _) (below_alloc_of HB.out _).size HB2.out).setCell HG0.out _, (keep_after HB2.out).set_ 0 _⟩
def rec_Sorted.f (l0 : List S31) : Option Bool := some (sortedB l0)
set_option maxRecDepth 100000 in
theorem rec_Sorted.calls (A0 : Option Addr) (c0 : Nat) (l0 : List S31) (r : Bool) (w : World) (hr0 : Kd.C k31 w A0 l0.length l0) (hc0 : l0.length ≤ c0) (h : rec_Sorted.f l0 = some r) :
    Calls Try.prog 30 #[.slice A0 l0.length c0] w fun e w' => e = .returned (.bool r) ∧ Below w.heap.size w w' := by
  obtain rfl : sortedB l0 = r := Option.some.inj h
  have hlen := hr0.2.1
  have HR := Aside0.mk hr0
  clear hr0 h
  have hmf : ∀ (fn : Fn) (first cap : Array Value) (w : World), (Instr.makeFunc fn first cap).run Try.prog w = .ok (.func fn first cap) w := fun _ _ _ _ => rfl
  go_enter Try.func30, Try.ntmps30
  go_wp2_with (go_at_call 135; ((with_reducible refine (where31.calls 138 (fun s : Int => #[.int .i64 s]) 3 stepS w.heap.size w (Nat.le_refl _) l0 (enters_ Try.func138 (by kernel_rfl) rfl) ?hC A0 c0 HR.out hc0 hlen (-1) _ ?hB ?hS).mono ?_); (case hC => intro s x A c W _ h1 h2 h3 h4; exact Sorted1.calls w W s w.heap.size (Nat.le_refl _) x A c h1 h2 h3 h4); (case hB => exact below_alloc (Below.refl _ _) _); (case hS => exact blk_new _ _); rintro e w2 ⟨rfl, -, hb, -⟩))
  go_ret
  exact ⟨by rw [sortedB, ← beq_cast]; rfl, hb⟩


/-! ### span_Common: function 166 -/
/-- What is in all spans, behind a range. -/
def commonL : Int → Int → List S28 → Option (Int × Int)
  | lo, hi, [] => if spanV lo hi then some (lo, hi) else none
  | lo, hi, s :: ss => if spanV s.f0 s.f1 then commonL (if lo < s.f0 then s.f0 else lo) (if s.f1 < hi then s.f1 else hi) ss else none
def span_Common.f (l0 : List S28) : Option (Int × Int × Bool) := match commonL 1 3 l0 with
  | some (lo, hi) => some (lo, hi, true)
  | none => some (0, 0, false)
set_option maxHeartbeats 2000000 in
set_option maxRecDepth 100000 in
theorem span_Common.calls (A0 : Option Addr) (c0 : Nat) (l0 : List S28) (r1 r2 : Int) (r3 : Bool) (w : World) (hr0 : Kd.C k28 w A0 l0.length l0) (hc0 : l0.length ≤ c0) (h : span_Common.f l0 = some (r1, r2, r3)) :
    Calls Try.prog 166 #[.slice A0 l0.length c0] w fun e w' => e = .returned (.tuple #[.agg #[.int .i64 r1, .int .i64 r2], .bool r3]) ∧ Below w.heap.size w w' := by
  have hlen := hr0.2.1
  have HR := Aside0.mk hr0
  have H := Aside0.mk h
  clear hr0 h
  have hu28 := Try.underlying28
  go_enter Try.func166, Try.ntmps166
  go_wp2
  go_loopw [10] (fun v10 wr => ∃ (k : Nat) (lo hi : Int), k ≤ l0.length ∧ v10 = .int .i64 k ∧ Aside0 (commonL 1 3 l0 = commonL lo hi (l0.drop k)) ∧ Aside0 (wr.heap[w.heap.size + 1]? = some (.cells #[.int .i64 lo, .int .i64 hi] 28 (0, 0))) ∧ Aside0 (wr.heap[w.heap.size]? = some (.cells #[.int .i64 0, .int .i64 0] 28 (0, 0))) ∧ Aside0 (Below w.heap.size w wr)) (fun v10 _ => l0.length - (intOf v10).toNat)
  case atStart => exact ⟨0, 1, 3, Nat.zero_le _, rfl, ⟨by simp⟩, ⟨by have := blk_new (w.alloc (.cells #[.int .i64 0, .int .i64 0] 28)) (.cells #[.int .i64 1, .int .i64 3] 28); simpa using this⟩, ⟨blk_alloc (blk_new _ _) _⟩, ⟨below_alloc (below_alloc (Below.refl _ _) _) _⟩⟩
  case round =>
    obtain ⟨k, lo, hi, hk, rfl, HW, HO, HQ, HB⟩ := hrel
    have hsz := blk_lt HO.out
    by_cases hlt : k < l0.length
    · obtain ⟨ad, e, x0, x1⟩ := at_T28 (Kd.C_below HR.out HB.out) (k : Int) (by omega) (by omega)
      cases e
      simp only [Int.toNat_natCast] at x0 x1
      have hd := drop_rd28 l0 k hlt
      obtain ⟨s, hs⟩ : ∃ s, s = rd_T28 l0 (k : Int) := ⟨_, rfl⟩
      rw [← hs] at x0 x1 hd
      have HD := Aside0.mk hd
      clear hd hs
      have cp : ∀ w2, Below (wr.alloc (.cells #[.int .i64 s.f0, .int .i64 s.f1] 28)).heap.size (wr.alloc (.cells #[.int .i64 s.f0, .int .i64 s.f1] 28)) w2 → w2.heap[w.heap.size + 1]? = some (.cells #[.int .i64 lo, .int .i64 hi] 28 (0, 0)) ∧ w2.heap[w.heap.size]? = some (.cells #[.int .i64 0, .int .i64 0] 28 (0, 0)) ∧ w2.heap[wr.heap.size]? = some (.cells #[.int .i64 s.f0, .int .i64 s.f1] 28 (0, 0)) ∧ Below w.heap.size w w2 := fun w2 hb =>
        ⟨blk_below (blk_alloc HO.out _) hb, blk_below (blk_alloc HQ.out _) hb, blk_below (blk_new _ _) hb, below_then (below_alloc_of HB.out _) (below_alloc_of HB.out _).size hb⟩
      have CP := Aside0.mk cp
      clear cp
      cases hv : spanV s.f0 s.f1
      · have HV := Aside0.mk (hv ▸ span_Valid_f s.f0 s.f1)
        go_wp2_with (go_at_call 51; ((with_reducible refine (span_Valid.calls s.f0 s.f1 false _ HV.out).mono ?_); rintro e w2 ⟨rfl, hb⟩; obtain ⟨b1, b2, b3, b4⟩ := CP.out w2 hb; clear hb; (have p2 : w2.cell? ⟨w.heap.size, 0, none⟩ = some (.int .i64 0) := (blk_cell b2 0).trans rfl); (have p3 : w2.cell? ⟨w.heap.size, 1, none⟩ = some (.int .i64 0) := (blk_cell b2 1).trans rfl); (have q2 := blk_frozen b2 0); (have q3 := blk_frozen b2 1); (have B2 := Aside0.mk b2); (have B4 := Aside0.mk b4); clear b1 b2 b3 b4))
        have hH := H.out
        unfold span_Common.f at hH
        rw [HW.out, HD.out, commonL, hv] at hH
        simp only [Bool.false_eq_true, if_false, Option.some.injEq, Prod.mk.injEq] at hH
        obtain ⟨rfl, rfl, rfl⟩ := hH
        refine bodyPost_ret (results_ct Try.results166 _ _ (w.heap.size) 28 #[.int .i64 0, .int .i64 0] (0, 0) _ rfl ?_ Try.underlying28 rfl sz28) rfl ⟨rfl, ?_⟩
        · simpa using blk_set (blk_set B2.out 0 _) 1 _
        · exact (B4.out.setCell (by simp) _).setCell (by simp) _
      · have HV := Aside0.mk (hv ▸ span_Valid_f s.f0 s.f1)
        go_wp2_with (go_at_call 51; ((with_reducible refine (span_Valid.calls s.f0 s.f1 true _ HV.out).mono ?_); rintro e w2 ⟨rfl, hb⟩; obtain ⟨b1, b2, b3, b4⟩ := CP.out w2 hb; clear hb; (have p0 : w2.cell? ⟨w.heap.size + 1, 0, none⟩ = some (.int .i64 lo) := (blk_cell b1 0).trans rfl); (have p1 : w2.cell? ⟨w.heap.size + 1, 1, none⟩ = some (.int .i64 hi) := (blk_cell b1 1).trans rfl); (have p2 : w2.cell? ⟨wr.heap.size, 0, none⟩ = some (.int .i64 s.f0) := (blk_cell b3 0).trans rfl); (have p3 : w2.cell? ⟨wr.heap.size, 1, none⟩ = some (.int .i64 s.f1) := (blk_cell b3 1).trans rfl); (have q0 := blk_frozen b1 0); (have q1 := blk_frozen b1 1); (have B1 := Aside0.mk b1);  (have B2 := Aside0.mk b2); (have B4 := Aside0.mk b4); clear b1 b2 b3 b4))
        go_region
        obtain ⟨lo2, hlo2⟩ : ∃ z, z = (if lo < s.f0 then s.f0 else lo) := ⟨_, rfl⟩
        obtain ⟨hi2, hhi2⟩ : ∃ z, z = (if s.f1 < hi then s.f1 else hi) := ⟨_, rfl⟩
        have HW2 := Aside0.mk (show commonL 1 3 l0 = commonL lo2 hi2 (l0.drop (k + 1)) by rw [HW.out, HD.out, commonL, hv, hlo2, hhi2]; rfl)
        rw [← hlo2, ← hhi2]
        clear hlo2 hhi2
        go_wp2
        go_roundw
        case rel => exact ⟨k + 1, lo2, hi2, hlt, by go_num, HW2, ⟨blk_drew (by simpa using blk_set (blk_set B1.out 0 (.int .i64 lo2)) 1 (.int .i64 hi2))⟩, ⟨blk_drew (blk_far (blk_far B2.out (by simp) _) (by simp) _)⟩, ⟨((B4.out.setCell (by simp) _).setCell (by simp) _).drew⟩⟩
        case measure => simp [intOf]; omega
    · have hW := HW.out
      rw [List.drop_eq_nil_of_le (by omega), commonL] at hW
      have hH := H.out
      unfold span_Common.f at hH
      rw [hW] at hH
      have HW2 := Aside0.mk hW
      have H2 := Aside0.mk hH
      clear hW hH
      have p0 : wr.cell? ⟨w.heap.size + 1, 0, none⟩ = some (.int .i64 lo) := (blk_cell HO.out 0).trans rfl
      have p1 : wr.cell? ⟨w.heap.size + 1, 1, none⟩ = some (.int .i64 hi) := (blk_cell HO.out 1).trans rfl
      cases hv : spanV lo hi
      · have hH := H2.out
        rw [hv] at hH
        simp only [Bool.false_eq_true, if_false, Option.some.injEq, Prod.mk.injEq] at hH
        obtain ⟨rfl, rfl, rfl⟩ := hH
        have HV := Aside0.mk (hv ▸ span_Valid_f lo hi)
        go_wp2_with (go_at_call 51; ((with_reducible refine (span_Valid.calls lo hi false _ HV.out).mono ?_); rintro e w2 ⟨rfl, hb⟩; (have b2 := blk_below HQ.out hb); (have p2 : w2.cell? ⟨w.heap.size, 0, none⟩ = some (.int .i64 0) := (blk_cell b2 0).trans rfl); (have p3 : w2.cell? ⟨w.heap.size, 1, none⟩ = some (.int .i64 0) := (blk_cell b2 1).trans rfl); (have q2 := blk_frozen b2 0); (have q3 := blk_frozen b2 1); (have B2 := Aside0.mk b2); (have B4 := Aside0.mk (below_then HB.out HB.out.size hb)); clear b2 hb))
        refine bodyPost_ret (results_ct Try.results166 _ _ (w.heap.size) 28 #[.int .i64 0, .int .i64 0] (0, 0) _ rfl ?_ Try.underlying28 rfl sz28) rfl ⟨rfl, ?_⟩
        · simpa using blk_set (blk_set B2.out 0 _) 1 _
        · exact (B4.out.setCell (by simp) _).setCell (by simp) _
      · have hH := H2.out
        rw [hv] at hH
        simp only [if_true, Option.some.injEq, Prod.mk.injEq] at hH
        obtain ⟨rfl, rfl, rfl⟩ := hH
        have HV := Aside0.mk (hv ▸ span_Valid_f lo hi)
        go_wp2_with (go_at_call 51; ((with_reducible refine (span_Valid.calls lo hi true _ HV.out).mono ?_); rintro e w2 ⟨rfl, hb⟩; (have b1 := blk_below HO.out hb); (have p0 : w2.cell? ⟨w.heap.size + 1, 0, none⟩ = some (.int .i64 lo) := (blk_cell b1 0).trans rfl); (have p1 : w2.cell? ⟨w.heap.size + 1, 1, none⟩ = some (.int .i64 hi) := (blk_cell b1 1).trans rfl); (have b2 := blk_below HQ.out hb); (have p2 : w2.cell? ⟨w.heap.size, 0, none⟩ = some (.int .i64 0) := (blk_cell b2 0).trans rfl); (have p3 : w2.cell? ⟨w.heap.size, 1, none⟩ = some (.int .i64 0) := (blk_cell b2 1).trans rfl); (have q2 := blk_frozen b2 0); (have q3 := blk_frozen b2 1); (have B2 := Aside0.mk b2); (have B4 := Aside0.mk (below_then HB.out HB.out.size hb)); clear b1 b2 hb))
        refine bodyPost_ret (results_ct Try.results166 _ _ (w.heap.size) 28 #[.int .i64 lo, .int .i64 hi] (0, 0) _ rfl ?_ Try.underlying28 rfl sz28) rfl ⟨rfl, ?_⟩
        · simpa using blk_set (blk_set B2.out 0 _) 1 _
        · exact (B4.out.setCell (by simp) _).setCell (by simp) _


/-! ### span_Best: function 139 -/
def span_Best.f (a0_0 : Int) (a0_1 : Int) (a1_0 : Int) (a1_1 : Int) : Option (Int) := (span_Common.f (([(⟨a0_0, a0_1⟩ : S28), (⟨a1_0, a1_1⟩ : S28)] : List (S28)))).bind fun bt115 => (some bt115.2.1)
set_option maxHeartbeats 8000000 in
set_option maxRecDepth 100000 in
theorem span_Best.calls (a0_0 : Int) (a0_1 : Int) (a1_0 : Int) (a1_1 : Int) (r : Int) (w : World) (h : span_Best.f a0_0 a0_1 a1_0 a1_1 = some r) :
    Calls Try.prog 139 #[.agg #[.int .i64 a0_0, .int .i64 a0_1], .agg #[.int .i64 a1_0, .int .i64 a1_1]] w fun e w' => e = .returned (.int .i64 r) ∧ Below w.heap.size w w' := by
  have hu28 := Try.underlying28
  have HB := Aside0.mk (Below.refl w.heap.size w)
  have H : ((span_Common.f (([(⟨a0_0, a0_1⟩ : S28), (⟨a1_0, a1_1⟩ : S28)] : List (S28)))).bind fun bt115 => (some bt115.2.1)) = some r := h
  clear h
  obtain ⟨y112, hy112⟩ : ∃ y_ : List (S28), y_ = (([(⟨a0_0, a0_1⟩ : S28), (⟨a1_0, a1_1⟩ : S28)] : List (S28))) := ⟨_, rfl⟩
  replace H : ((span_Common.f y112).bind fun bt115 => (some bt115.2.1)) = some r := by first | (rw [hy112]; with_reducible exact H) | (have H2_ := (Option.bind_some _ _).symm.trans H; rw [hy112]; with_reducible exact H2_) | (have H2_ := (Option.bind_some _ _).symm.trans H; with_reducible exact H2_) | with_reducible exact H | (rw [hy112]; exact H) | exact H
  have Ny112 := Aside0.mk hy112
  clear hy112
  replace H := Option.bind_eq_some_iff.mp H
  obtain ⟨⟨t115, t116, t117⟩, A30, H⟩ := H
  replace H : (some t116) = some r := H
  have A3 := Aside0.mk A30
  clear A30
  obtain rfl := Option.some.inj H
  go_enter Try.func139, Try.ntmps139
  go_wp2_with (first | ((with_reducible refine gate_dst (N := 2) rfl ?_); refine box_event ?hg (N := 2) ?hd (cs := #[.int .i64 a0_0, .int .i64 a0_1]) (t := 28) ?hr ?_; (case hd => rfl); (case hg => rfl); (case hr => first | (go_simp; done) | (go_simp; rfl)); intro gb110 hg w4 hbox hb; have n0_ := Aside0.mk (below_step (by repeat (first | (with_reducible first | exact HB.out | apply below_alloc | apply pw_below_drewN | apply below_drew1) | exact HB.out)) hb); have n1_ := Aside0.mk (hbox); have n2_ := Aside0.mk ((by rw [hg]; exact (below_size (by repeat (first | (with_reducible first | exact HB.out | apply below_alloc | apply pw_below_drewN | apply below_drew1) | exact HB.out))) : w.heap.size ≤ gb110)); have n3_ := Aside0.mk ((by rw [hg]; exact (below_size (by repeat (first | (with_reducible first | exact HB.out | apply below_alloc | apply pw_below_drewN | apply below_drew1) | exact HB.out))) : w.heap.size ≤ gb110)); clear HB; have HB := n0_; have BK110 := n1_; have GW110 := n2_; have GE110 := n3_; clear n0_ n1_ n2_ n3_; clear hb hbox hg) | ((with_reducible refine gate_dst (N := 3) rfl ?_); refine box_event ?hg (N := 3) ?hd (cs := #[.int .i64 a1_0, .int .i64 a1_1]) (t := 28) ?hr ?_; (case hd => rfl); (case hg => rfl); (case hr => first | (go_simp; done) | (go_simp; rfl)); intro gb111 hg w5 hbox hb; have n0_ := Aside0.mk (blk_below (g := gb110) (o := .cells #[.int .i64 a0_0, .int .i64 a0_1] 28 (0, 0)) (by (with_reducible repeat (first | refine blk_drewN ?_ _ | refine blk_drew ?_ | refine blk_alloc ?_ _)); exact BK110.out) hb); have n1_ := Aside0.mk (below_step (by repeat (first | (with_reducible first | exact HB.out | apply below_alloc | apply pw_below_drewN | apply below_drew1 | refine below_set ?_ GE110.out) | exact HB.out)) hb); have n2_ := Aside0.mk (hbox); have n3_ := Aside0.mk ((by rw [hg]; exact (below_size (by repeat (first | (with_reducible first | exact HB.out | apply below_alloc | apply pw_below_drewN | apply below_drew1 | refine below_set ?_ GE110.out) | exact HB.out))) : w.heap.size ≤ gb111)); have n4_ := Aside0.mk ((by rw [hg]; exact (below_size (by repeat (first | (with_reducible first | exact HB.out | apply below_alloc | apply pw_below_drewN | apply below_drew1 | refine below_set ?_ GE110.out) | exact HB.out))) : w.heap.size ≤ gb111)); have n5_ := Aside0.mk ((by rw [hg]; exact Nat.ne_of_lt (blk_lt (g := gb110) (o := .cells #[.int .i64 a0_0, .int .i64 a0_1] 28 (0, 0)) (by (with_reducible repeat (first | refine blk_drewN ?_ _ | refine blk_drew ?_ | refine blk_alloc ?_ _)); exact BK110.out)) : gb110 ≠ gb111)); have n6_ := Aside0.mk ((by rw [hg]; exact Nat.ne_of_gt (blk_lt (g := gb110) (o := .cells #[.int .i64 a0_0, .int .i64 a0_1] 28 (0, 0)) (by (with_reducible repeat (first | refine blk_drewN ?_ _ | refine blk_drew ?_ | refine blk_alloc ?_ _)); exact BK110.out)) : gb111 ≠ gb110)); clear BK110; clear HB; have BK110 := n0_; have HB := n1_; have BK111 := n2_; have GW111 := n3_; have GE111 := n4_; have NB110_111 := n5_; have NB111_110 := n6_; clear n0_ n1_ n2_ n3_ n4_ n5_ n6_; clear hb hbox hg; have hnb6 := NB110_111.out; have hnc6 := NB111_110.out; have hcz7_0 : w5.cell? ⟨gb110, 0, none⟩ = some (.int .i64 a0_0) := (blk_cell BK110.out 0).trans rfl; have hcz7_1 : w5.cell? ⟨gb110, 1, none⟩ = some (.int .i64 a0_1) := (blk_cell BK110.out 1).trans rfl; have hfz7_0 := blk_frozen BK110.out 0; have hfz7_1 := blk_frozen BK110.out 1; have hcz8_0 : w5.cell? ⟨gb111, 0, none⟩ = some (.int .i64 a1_0) := (blk_cell BK111.out 0).trans rfl; have hcz8_1 : w5.cell? ⟨gb111, 1, none⟩ = some (.int .i64 a1_1) := (blk_cell BK111.out 1).trans rfl; have hfz8_0 := blk_frozen BK111.out 0; have hfz8_1 := blk_frozen BK111.out 1) | ((with_reducible refine gate_dst (N := 10) rfl ?_); refine Kd.R_lit k28 _ 28 ?hg (N := 10) ?hd (xs := ([(⟨a0_0, a0_1⟩ : S28), (⟨a1_0, a1_1⟩ : S28)] : List (S28))) (inner := [.int .i64 a0_0, .int .i64 a0_1, .int .i64 a1_0, .int .i64 a1_1]) (ok := fun _ => True) (okp := fun _ => True) ?hr ?hp (fun _ hk => hk) trivial (Below.refl _ _) (Nat.le_refl _) (by simp) ?_; (case hd => rfl); (case hg => rfl); (case hr => first | (go_simp; done) | (go_simp; rfl)); (case hp => exact (Reps.c2 (show Kd.M k28 _ _ _ (⟨a0_0, a0_1⟩ : S28) [.int .i64 a0_0, .int .i64 a0_1] from (k28_mkM _ _ _ (⟨a0_0, a0_1⟩ : S28) )) (Reps.c2 (show Kd.M k28 _ _ _ (⟨a1_0, a1_1⟩ : S28) [.int .i64 a1_0, .int .i64 a1_1] from (k28_mkM _ _ _ (⟨a1_0, a1_1⟩ : S28) )) (Reps.none _ _)))); intro v113 w9 ho10 hb hg_ hnew_; clear hg_ hnew_; (first | rw [← Ny112.out] at ho10 | (simp only [Int.reduceToNat] at ho10; rw [← Ny112.out] at ho10)); have n0_ := Aside0.mk (Kd.R_lower (Kd.R_newB (Kd.R_newB ho10 (g := gb110) (o := .cells #[.int .i64 a0_0, .int .i64 a0_1] 28 (0, 0)) (by (with_reducible repeat (first | refine blk_drewN ?_ _ | refine blk_drew ?_ | refine blk_alloc ?_ _)); exact BK110.out)) (g := gb111) (o := .cells #[.int .i64 a1_0, .int .i64 a1_1] 28 (0, 0)) (by (with_reducible repeat (first | refine blk_drewN ?_ _ | refine blk_drew ?_ | refine blk_alloc ?_ _)); exact BK111.out)) (below_size (by repeat (first | (with_reducible first | exact HB.out | apply below_alloc | apply pw_below_drewN | apply below_drew1 | refine below_set ?_ GE110.out | refine below_set ?_ GE111.out) | exact HB.out)))); have n1_ := Aside0.mk (blk_below (g := gb110) (o := .cells #[.int .i64 a0_0, .int .i64 a0_1] 28 (0, 0)) (by (with_reducible repeat (first | refine blk_drewN ?_ _ | refine blk_drew ?_ | refine blk_alloc ?_ _)); exact BK110.out) hb); have n2_ := Aside0.mk (blk_below (g := gb111) (o := .cells #[.int .i64 a1_0, .int .i64 a1_1] 28 (0, 0)) (by (with_reducible repeat (first | refine blk_drewN ?_ _ | refine blk_drew ?_ | refine blk_alloc ?_ _)); exact BK111.out) hb); have n3_ := Aside0.mk (below_step (by repeat (first | (with_reducible first | exact HB.out | apply below_alloc | apply pw_below_drewN | apply below_drew1 | refine below_set ?_ GE110.out | refine below_set ?_ GE111.out) | exact HB.out)) hb); clear BK110; clear BK111; clear HB; have HO114 := n0_; have BK110 := n1_; have BK111 := n2_; have HB := n3_; clear n0_ n1_ n2_ n3_; clear hb ho10; obtain ⟨Ao11, co11, eo11⟩ := Kd.R_slice HO114.out; subst eo11) | ((with_reducible refine gate_callee (f := 166) rfl ?_); refine goesL_ (some 11) rfl rfl Try.func166 (by kernel_rfl) rfl #[.slice Ao11 y112.length co11] rfl (by (try simp only [List.map_toArray, List.map_cons, List.map_nil]); first | done | rfl | (simp only [List.length_drop, List.length_take]; rfl)) ?_; (with_reducible refine (span_Common.calls _ _ y112 t115 t116 t117 _ ?side1 ?side2 A3.out).mono ?_); (case side1 => repeat (first | exact (Kd.R_reads' HO114.out).2.2 | (with_reducible refine Kd.C_alloc ?_ _) | (with_reducible refine Kd.C_drewN ?_ _) | (with_reducible refine Kd.C_drew ?_))); (case side2 => exact (Kd.R_reads' HO114.out).2.1); rintro e w12 ⟨rfl, hb⟩; refine ⟨_, rfl, ?_⟩; have n0_ := Aside0.mk (Kd.R_below (by (with_reducible repeat (first | apply Kd.R_alloc | apply Kd.R_drewN | apply Kd.R_drew)); exact HO114.out) hb); have n1_ := Aside0.mk (blk_below (g := gb110) (o := .cells #[.int .i64 a0_0, .int .i64 a0_1] 28 (0, 0)) (by (with_reducible repeat (first | refine blk_drewN ?_ _ | refine blk_drew ?_ | refine blk_alloc ?_ _)); exact BK110.out) hb); have n2_ := Aside0.mk (blk_below (g := gb111) (o := .cells #[.int .i64 a1_0, .int .i64 a1_1] 28 (0, 0)) (by (with_reducible repeat (first | refine blk_drewN ?_ _ | refine blk_drew ?_ | refine blk_alloc ?_ _)); exact BK111.out) hb); have n3_ := Aside0.mk (below_step (by repeat (first | (with_reducible first | exact HB.out | apply below_alloc | apply pw_below_drewN | apply below_drew1 | refine below_set ?_ GE110.out | refine below_set ?_ GE111.out) | exact HB.out)) hb); clear HO114; clear BK110; clear BK111; clear HB; have HO114 := n0_; have BK110 := n1_; have BK111 := n2_; have HB := n3_; clear n0_ n1_ n2_ n3_; (try clear hb); (try clear hb2); (try clear hk); (try clear hi)) | ((with_reducible refine gate_dst (N := 5) rfl ?_); refine box_event ?hg (N := 5) ?hd (cs := #[.int .i64 0, .int .i64 0]) (t := 28) ?hr ?_; (case hd => rfl); (case hg => rfl); (case hr => first | (go_simp; done) | (go_simp; rfl)); intro gb118 hg w13 hbox hb; have n0_ := Aside0.mk (Kd.R_below (Kd.R_elderB (by (with_reducible repeat (first | apply Kd.R_alloc | apply Kd.R_drewN | apply Kd.R_drew)); exact HO114.out) gb118 (Nat.le_of_eq hg.symm)) hb); have n1_ := Aside0.mk (blk_below (g := gb110) (o := .cells #[.int .i64 a0_0, .int .i64 a0_1] 28 (0, 0)) (by (with_reducible repeat (first | refine blk_drewN ?_ _ | refine blk_drew ?_ | refine blk_alloc ?_ _)); exact BK110.out) hb); have n2_ := Aside0.mk (blk_below (g := gb111) (o := .cells #[.int .i64 a1_0, .int .i64 a1_1] 28 (0, 0)) (by (with_reducible repeat (first | refine blk_drewN ?_ _ | refine blk_drew ?_ | refine blk_alloc ?_ _)); exact BK111.out) hb); have n3_ := Aside0.mk (below_step (by repeat (first | (with_reducible first | exact HB.out | apply below_alloc | apply pw_below_drewN | apply below_drew1 | refine below_set ?_ GE110.out | refine below_set ?_ GE111.out) | exact HB.out)) hb); have n4_ := Aside0.mk (hbox); have n5_ := Aside0.mk ((by rw [hg]; exact (below_size (by repeat (first | (with_reducible first | exact HB.out | apply below_alloc | apply pw_below_drewN | apply below_drew1 | refine below_set ?_ GE110.out | refine below_set ?_ GE111.out) | exact HB.out))) : w.heap.size ≤ gb118)); have n6_ := Aside0.mk ((by rw [hg]; exact (below_size (by repeat (first | (with_reducible first | exact HB.out | apply below_alloc | apply pw_below_drewN | apply below_drew1 | refine below_set ?_ GE110.out | refine below_set ?_ GE111.out) | exact HB.out))) : w.heap.size ≤ gb118)); have n7_ := Aside0.mk ((by rw [hg]; exact Nat.ne_of_lt (blk_lt (g := gb110) (o := .cells #[.int .i64 a0_0, .int .i64 a0_1] 28 (0, 0)) (by (with_reducible repeat (first | refine blk_drewN ?_ _ | refine blk_drew ?_ | refine blk_alloc ?_ _)); exact BK110.out)) : gb110 ≠ gb118)); have n8_ := Aside0.mk ((by rw [hg]; exact Nat.ne_of_gt (blk_lt (g := gb110) (o := .cells #[.int .i64 a0_0, .int .i64 a0_1] 28 (0, 0)) (by (with_reducible repeat (first | refine blk_drewN ?_ _ | refine blk_drew ?_ | refine blk_alloc ?_ _)); exact BK110.out)) : gb118 ≠ gb110)); have n9_ := Aside0.mk ((by rw [hg]; exact Nat.ne_of_lt (blk_lt (g := gb111) (o := .cells #[.int .i64 a1_0, .int .i64 a1_1] 28 (0, 0)) (by (with_reducible repeat (first | refine blk_drewN ?_ _ | refine blk_drew ?_ | refine blk_alloc ?_ _)); exact BK111.out)) : gb111 ≠ gb118)); have n10_ := Aside0.mk ((by rw [hg]; exact Nat.ne_of_gt (blk_lt (g := gb111) (o := .cells #[.int .i64 a1_0, .int .i64 a1_1] 28 (0, 0)) (by (with_reducible repeat (first | refine blk_drewN ?_ _ | refine blk_drew ?_ | refine blk_alloc ?_ _)); exact BK111.out)) : gb118 ≠ gb111)); clear HO114; clear BK110; clear BK111; clear HB; have HO114 := n0_; have BK110 := n1_; have BK111 := n2_; have HB := n3_; have BK118 := n4_; have GW118 := n5_; have GE118 := n6_; have NB110_118 := n7_; have NB118_110 := n8_; have NB111_118 := n9_; have NB118_111 := n10_; clear n0_ n1_ n2_ n3_ n4_ n5_ n6_ n7_ n8_ n9_ n10_; clear hb hbox hg; have hnb14 := NB118_110.out; have hnc14 := NB110_118.out; have hnb15 := NB118_111.out; have hnc15 := NB111_118.out; have hcz16_0 : w13.cell? ⟨gb118, 0, none⟩ = some (.int .i64 0) := (blk_cell BK118.out 0).trans rfl; have hcz16_1 : w13.cell? ⟨gb118, 1, none⟩ = some (.int .i64 0) := (blk_cell BK118.out 1).trans rfl; have hfz16_0 := blk_frozen BK118.out 0; have hfz16_1 := blk_frozen BK118.out 1))
  go_ret
  exact ⟨by first | rfl | (simp [errW_none, errW_some] <;> rfl) | (simp [*, errW_none, errW_some] <;> rfl), by repeat (first | (with_reducible first | exact HB.out | apply below_alloc | apply pw_below_drewN | apply below_drew1 | refine below_set ?_ GE110.out | refine below_set ?_ GE111.out | refine below_set ?_ GE118.out) | exact HB.out)⟩

/-! ### route_counts: function 209 -/
def route_counts.f (a0_0 : Int) (a0_1 : Int) (a0_2 : Int) (a0_3 : Int) (a0_4 : Int) (a0_5 : Bool) (l0_6 : List (S332)) : Option (Bool) := if a0_2 = 2 then (some false) else (some (a0_2 != 3))
set_option maxHeartbeats 8000000 in
set_option maxRecDepth 100000 in
theorem route_counts.calls (a0_0 : Int) (a0_1 : Int) (a0_2 : Int) (a0_3 : Int) (a0_4 : Int) (a0_5 : Bool) (A0_6 : Option Addr) (c0_6 : Nat) (l0_6 : List (S332)) (r : Bool) (w : World) (hr0_6 : Kd.C k332 w A0_6 l0_6.length l0_6) (hc0_6 : l0_6.length ≤ c0_6) (h : route_counts.f a0_0 a0_1 a0_2 a0_3 a0_4 a0_5 l0_6 = some r) :
    Calls Try.prog 209 #[.agg #[.int .i64 a0_0, .int .i64 a0_1, .int .i64 a0_2, .int .i64 a0_3, .int .i64 a0_4, .bool a0_5, .slice A0_6 l0_6.length c0_6]] w fun e w' => e = .returned (.bool r) ∧ Below w.heap.size w w' := by
  have hu31 := Try.underlying31
  have HR0_6 := Aside0.mk hr0_6
  have HC0_6 := Aside0.mk hc0_6
  clear hr0_6 hc0_6
  have HB := Aside0.mk (Below.refl w.heap.size w)
  have H : (if a0_2 = 2 then (some false) else (some (a0_2 != 3))) = some r := h
  clear h
  by_cases c2 : a0_2 = 2
  · rw [if_pos c2] at H
    have c2b0 : (a0_2 == 2) = true := beq_iff_eq.mpr c2
    have c2b1 : (a0_2 != 2) = false := bne_eq_false_iff_eq.mpr c2
    clear c2
    obtain rfl := Option.some.inj H
    go_enter Try.func209, Try.ntmps209
    go_wp2_with (first | ((with_reducible refine gate_dst (N := 1) rfl ?_); refine box_event ?hg (N := 1) ?hd (cs := #[.int .i64 a0_0, .int .i64 a0_1, .int .i64 a0_2, .int .i64 a0_3, .int .i64 a0_4, .bool a0_5, .slice A0_6 l0_6.length c0_6]) (t := 31) ?hr ?_; (case hd => rfl); (case hg => rfl); (case hr => first | (go_simp; done) | (go_simp; rfl)); intro gb119 hg w3 hbox hb; have n0_ := Aside0.mk (below_step (by repeat (first | (with_reducible first | exact HB.out | apply below_alloc | apply pw_below_drewN | apply below_drew1) | exact HB.out)) hb); have n1_ := Aside0.mk (hbox); have n2_ := Aside0.mk ((by rw [hg]; exact (below_size (by repeat (first | (with_reducible first | exact HB.out | apply below_alloc | apply pw_below_drewN | apply below_drew1) | exact HB.out))) : w.heap.size ≤ gb119)); have n3_ := Aside0.mk ((by rw [hg]; exact (below_size (by repeat (first | (with_reducible first | exact HB.out | apply below_alloc | apply pw_below_drewN | apply below_drew1) | exact HB.out))) : w.heap.size ≤ gb119)); clear HB; have HB := n0_; have BK119 := n1_; have GW119 := n2_; have GE119 := n3_; clear n0_ n1_ n2_ n3_; clear hb hbox hg; have hcz4_0 : w3.cell? ⟨gb119, 0, none⟩ = some (.int .i64 a0_0) := (blk_cell BK119.out 0).trans rfl; have hcz4_1 : w3.cell? ⟨gb119, 1, none⟩ = some (.int .i64 a0_1) := (blk_cell BK119.out 1).trans rfl; have hcz4_2 : w3.cell? ⟨gb119, 2, none⟩ = some (.int .i64 a0_2) := (blk_cell BK119.out 2).trans rfl; have hcz4_3 : w3.cell? ⟨gb119, 3, none⟩ = some (.int .i64 a0_3) := (blk_cell BK119.out 3).trans rfl; have hcz4_4 : w3.cell? ⟨gb119, 4, none⟩ = some (.int .i64 a0_4) := (blk_cell BK119.out 4).trans rfl; have hcz4_5 : w3.cell? ⟨gb119, 5, none⟩ = some (.bool a0_5) := (blk_cell BK119.out 5).trans rfl; have hcz4_6 : w3.cell? ⟨gb119, 6, none⟩ = some (.slice A0_6 l0_6.length c0_6) := (blk_cell BK119.out 6).trans rfl; have hfz4_0 := blk_frozen BK119.out 0; have hfz4_1 := blk_frozen BK119.out 1; have hfz4_2 := blk_frozen BK119.out 2; have hfz4_3 := blk_frozen BK119.out 3; have hfz4_4 := blk_frozen BK119.out 4; have hfz4_5 := blk_frozen BK119.out 5; have hfz4_6 := blk_frozen BK119.out 6))
    go_ret
    exact ⟨by first | rfl | (simp [errW_none, errW_some] <;> rfl) | (simp [*, errW_none, errW_some] <;> rfl), by repeat (first | (with_reducible first | exact HB.out | apply below_alloc | apply pw_below_drewN | apply below_drew1 | refine below_set ?_ GE119.out) | exact HB.out)⟩
  · rw [if_neg c2] at H
    have c2b0 : (a0_2 == 2) = false := beq_eq_false_iff_ne.mpr c2
    have c2b1 : (a0_2 != 2) = true := bne_iff_ne.mpr c2
    obtain rfl := Option.some.inj H
    go_enter Try.func209, Try.ntmps209
    go_wp2_with (first | ((with_reducible refine gate_dst (N := 1) rfl ?_); refine box_event ?hg (N := 1) ?hd (cs := #[.int .i64 a0_0, .int .i64 a0_1, .int .i64 a0_2, .int .i64 a0_3, .int .i64 a0_4, .bool a0_5, .slice A0_6 l0_6.length c0_6]) (t := 31) ?hr ?_; (case hd => rfl); (case hg => rfl); (case hr => first | (go_simp; done) | (go_simp; rfl)); intro gb119 hg w5 hbox hb; have n0_ := Aside0.mk (below_step (by repeat (first | (with_reducible first | exact HB.out | apply below_alloc | apply pw_below_drewN | apply below_drew1) | exact HB.out)) hb); have n1_ := Aside0.mk (hbox); have n2_ := Aside0.mk ((by rw [hg]; exact (below_size (by repeat (first | (with_reducible first | exact HB.out | apply below_alloc | apply pw_below_drewN | apply below_drew1) | exact HB.out))) : w.heap.size ≤ gb119)); have n3_ := Aside0.mk ((by rw [hg]; exact (below_size (by repeat (first | (with_reducible first | exact HB.out | apply below_alloc | apply pw_below_drewN | apply below_drew1) | exact HB.out))) : w.heap.size ≤ gb119)); clear HB; have HB := n0_; have BK119 := n1_; have GW119 := n2_; have GE119 := n3_; clear n0_ n1_ n2_ n3_; clear hb hbox hg; have hcz6_0 : w5.cell? ⟨gb119, 0, none⟩ = some (.int .i64 a0_0) := (blk_cell BK119.out 0).trans rfl; have hcz6_1 : w5.cell? ⟨gb119, 1, none⟩ = some (.int .i64 a0_1) := (blk_cell BK119.out 1).trans rfl; have hcz6_2 : w5.cell? ⟨gb119, 2, none⟩ = some (.int .i64 a0_2) := (blk_cell BK119.out 2).trans rfl; have hcz6_3 : w5.cell? ⟨gb119, 3, none⟩ = some (.int .i64 a0_3) := (blk_cell BK119.out 3).trans rfl; have hcz6_4 : w5.cell? ⟨gb119, 4, none⟩ = some (.int .i64 a0_4) := (blk_cell BK119.out 4).trans rfl; have hcz6_5 : w5.cell? ⟨gb119, 5, none⟩ = some (.bool a0_5) := (blk_cell BK119.out 5).trans rfl; have hcz6_6 : w5.cell? ⟨gb119, 6, none⟩ = some (.slice A0_6 l0_6.length c0_6) := (blk_cell BK119.out 6).trans rfl; have hfz6_0 := blk_frozen BK119.out 0; have hfz6_1 := blk_frozen BK119.out 1; have hfz6_2 := blk_frozen BK119.out 2; have hfz6_3 := blk_frozen BK119.out 3; have hfz6_4 := blk_frozen BK119.out 4; have hfz6_5 := blk_frozen BK119.out 5; have hfz6_6 := blk_frozen BK119.out 6))
    go_ret
    exact ⟨by first | rfl | (simp [errW_none, errW_some] <;> rfl) | (simp [*, errW_none, errW_some] <;> rfl), by repeat (first | (with_reducible first | exact HB.out | apply below_alloc | apply pw_below_drewN | apply below_drew1 | refine below_set ?_ GE119.out) | exact HB.out)⟩

/-! ### route_link: function 134 -/
def route_link.f (a0_0 : Int) (a0_1 : Int) (a0_2 : Int) (a0_3 : Int) (a0_4 : Int) (a0_5 : Bool) (l0_6 : List (S332)) (a1_0 : Int) (a1_1 : Int) (a1_2 : Int) (a1_3 : Int) (a1_4 : Int) (a1_5 : Bool) (l1_6 : List (S332)) : Option (Int) := (route_counts.f a0_0 a0_1 a0_2 a0_3 a0_4 a0_5 l0_6).bind fun t122 => (if t122 = true then ((route_counts.f a1_0 a1_1 a1_2 a1_3 a1_4 a1_5 l1_6).bind fun t123 => (if t123 = true then (if a0_0 = a1_0 then (some 0) else ((span_Best.f a0_3 a0_4 a1_3 a1_4).bind fun t124 => (some t124))) else (some 0))) else (some 0))
set_option maxHeartbeats 8000000 in
set_option maxRecDepth 100000 in
theorem route_link.calls (a0_0 : Int) (a0_1 : Int) (a0_2 : Int) (a0_3 : Int) (a0_4 : Int) (a0_5 : Bool) (A0_6 : Option Addr) (c0_6 : Nat) (l0_6 : List (S332)) (a1_0 : Int) (a1_1 : Int) (a1_2 : Int) (a1_3 : Int) (a1_4 : Int) (a1_5 : Bool) (A1_6 : Option Addr) (c1_6 : Nat) (l1_6 : List (S332)) (r : Int) (w : World) (hr0_6 : Kd.C k332 w A0_6 l0_6.length l0_6) (hc0_6 : l0_6.length ≤ c0_6) (hr1_6 : Kd.C k332 w A1_6 l1_6.length l1_6) (hc1_6 : l1_6.length ≤ c1_6) (h : route_link.f a0_0 a0_1 a0_2 a0_3 a0_4 a0_5 l0_6 a1_0 a1_1 a1_2 a1_3 a1_4 a1_5 l1_6 = some r) :
    Calls Try.prog 134 #[.agg #[.int .i64 a0_0, .int .i64 a0_1, .int .i64 a0_2, .int .i64 a0_3, .int .i64 a0_4, .bool a0_5, .slice A0_6 l0_6.length c0_6], .agg #[.int .i64 a1_0, .int .i64 a1_1, .int .i64 a1_2, .int .i64 a1_3, .int .i64 a1_4, .bool a1_5, .slice A1_6 l1_6.length c1_6]] w fun e w' => e = .returned (.int .i64 r) ∧ Below w.heap.size w w' := by
  have hu31 := Try.underlying31
  have hu28 := Try.underlying28
  have HR0_6 := Aside0.mk hr0_6
  have HC0_6 := Aside0.mk hc0_6
  clear hr0_6 hc0_6
  have HR1_6 := Aside0.mk hr1_6
  have HC1_6 := Aside0.mk hc1_6
  clear hr1_6 hc1_6
  have HB := Aside0.mk (Below.refl w.heap.size w)
  have H : ((route_counts.f a0_0 a0_1 a0_2 a0_3 a0_4 a0_5 l0_6).bind fun t122 => (if t122 = true then ((route_counts.f a1_0 a1_1 a1_2 a1_3 a1_4 a1_5 l1_6).bind fun t123 => (if t123 = true then (if a0_0 = a1_0 then (some 0) else ((span_Best.f a0_3 a0_4 a1_3 a1_4).bind fun t124 => (some t124))) else (some 0))) else (some 0))) = some r := h
  clear h
  replace H := Option.bind_eq_some_iff.mp H
  obtain ⟨t122, A30, H⟩ := H
  replace H : (if t122 = true then ((route_counts.f a1_0 a1_1 a1_2 a1_3 a1_4 a1_5 l1_6).bind fun t123 => (if t123 = true then (if a0_0 = a1_0 then (some 0) else ((span_Best.f a0_3 a0_4 a1_3 a1_4).bind fun t124 => (some t124))) else (some 0))) else (some 0)) = some r := H
  have A3 := Aside0.mk A30
  clear A30
  by_cases c4 : t122 = true
  · subst c4
    have H1 : ((route_counts.f a1_0 a1_1 a1_2 a1_3 a1_4 a1_5 l1_6).bind fun t123 => (if t123 = true then (if a0_0 = a1_0 then (some 0) else ((span_Best.f a0_3 a0_4 a1_3 a1_4).bind fun t124 => (some t124))) else (some 0))) = some r := by rw [if_pos rfl] at H; exact H
    clear H
    have H := H1
    clear H1
    replace H := Option.bind_eq_some_iff.mp H
    obtain ⟨t123, A50, H⟩ := H
    replace H : (if t123 = true then (if a0_0 = a1_0 then (some 0) else ((span_Best.f a0_3 a0_4 a1_3 a1_4).bind fun t124 => (some t124))) else (some 0)) = some r := H
    have A5 := Aside0.mk A50
    clear A50
    by_cases c6 : t123 = true
    · subst c6
      have H1 : (if a0_0 = a1_0 then (some 0) else ((span_Best.f a0_3 a0_4 a1_3 a1_4).bind fun t124 => (some t124))) = some r := by rw [if_pos rfl] at H; exact H
      clear H
      have H := H1
      clear H1
      by_cases c7 : a0_0 = a1_0
      · rw [if_pos c7] at H
        have c7b0 : (a0_0 == a1_0) = true := beq_iff_eq.mpr c7
        have c7b1 : (a0_0 != a1_0) = false := bne_eq_false_iff_eq.mpr c7
        clear c7
        obtain rfl := Option.some.inj H
        go_enter Try.func134, Try.ntmps134
        go_wp2_with (first | ((with_reducible refine gate_dst (N := 2) rfl ?_); refine box_event ?hg (N := 2) ?hd (cs := #[.int .i64 a0_0, .int .i64 a0_1, .int .i64 a0_2, .int .i64 a0_3, .int .i64 a0_4, .bool a0_5, .slice A0_6 l0_6.length c0_6]) (t := 31) ?hr ?_; (case hd => rfl); (case hg => rfl); (case hr => first | (go_simp; done) | (go_simp; rfl)); intro gb120 hg w8 hbox hb; have n0_ := Aside0.mk (below_step (by repeat (first | (with_reducible first | exact HB.out | apply below_alloc | apply pw_below_drewN | apply below_drew1) | exact HB.out)) hb); have n1_ := Aside0.mk (hbox); have n2_ := Aside0.mk ((by rw [hg]; exact (below_size (by repeat (first | (with_reducible first | exact HB.out | apply below_alloc | apply pw_below_drewN | apply below_drew1) | exact HB.out))) : w.heap.size ≤ gb120)); have n3_ := Aside0.mk ((by rw [hg]; exact (below_size (by repeat (first | (with_reducible first | exact HB.out | apply below_alloc | apply pw_below_drewN | apply below_drew1) | exact HB.out))) : w.heap.size ≤ gb120)); clear HB; have HB := n0_; have BK120 := n1_; have GW120 := n2_; have GE120 := n3_; clear n0_ n1_ n2_ n3_; clear hb hbox hg) | ((with_reducible refine gate_dst (N := 3) rfl ?_); refine box_event ?hg (N := 3) ?hd (cs := #[.int .i64 a1_0, .int .i64 a1_1, .int .i64 a1_2, .int .i64 a1_3, .int .i64 a1_4, .bool a1_5, .slice A1_6 l1_6.length c1_6]) (t := 31) ?hr ?_; (case hd => rfl); (case hg => rfl); (case hr => first | (go_simp; done) | (go_simp; rfl)); intro gb121 hg w9 hbox hb; have n0_ := Aside0.mk (blk_below (g := gb120) (o := .cells #[.int .i64 a0_0, .int .i64 a0_1, .int .i64 a0_2, .int .i64 a0_3, .int .i64 a0_4, .bool a0_5, .slice A0_6 l0_6.length c0_6] 31 (0, 0)) (by (with_reducible repeat (first | refine blk_drewN ?_ _ | refine blk_drew ?_ | refine blk_alloc ?_ _)); exact BK120.out) hb); have n1_ := Aside0.mk (below_step (by repeat (first | (with_reducible first | exact HB.out | apply below_alloc | apply pw_below_drewN | apply below_drew1 | refine below_set ?_ GE120.out) | exact HB.out)) hb); have n2_ := Aside0.mk (hbox); have n3_ := Aside0.mk ((by rw [hg]; exact (below_size (by repeat (first | (with_reducible first | exact HB.out | apply below_alloc | apply pw_below_drewN | apply below_drew1 | refine below_set ?_ GE120.out) | exact HB.out))) : w.heap.size ≤ gb121)); have n4_ := Aside0.mk ((by rw [hg]; exact (below_size (by repeat (first | (with_reducible first | exact HB.out | apply below_alloc | apply pw_below_drewN | apply below_drew1 | refine below_set ?_ GE120.out) | exact HB.out))) : w.heap.size ≤ gb121)); have n5_ := Aside0.mk ((by rw [hg]; exact Nat.ne_of_lt (blk_lt (g := gb120) (o := .cells #[.int .i64 a0_0, .int .i64 a0_1, .int .i64 a0_2, .int .i64 a0_3, .int .i64 a0_4, .bool a0_5, .slice A0_6 l0_6.length c0_6] 31 (0, 0)) (by (with_reducible repeat (first | refine blk_drewN ?_ _ | refine blk_drew ?_ | refine blk_alloc ?_ _)); exact BK120.out)) : gb120 ≠ gb121)); have n6_ := Aside0.mk ((by rw [hg]; exact Nat.ne_of_gt (blk_lt (g := gb120) (o := .cells #[.int .i64 a0_0, .int .i64 a0_1, .int .i64 a0_2, .int .i64 a0_3, .int .i64 a0_4, .bool a0_5, .slice A0_6 l0_6.length c0_6] 31 (0, 0)) (by (with_reducible repeat (first | refine blk_drewN ?_ _ | refine blk_drew ?_ | refine blk_alloc ?_ _)); exact BK120.out)) : gb121 ≠ gb120)); clear BK120; clear HB; have BK120 := n0_; have HB := n1_; have BK121 := n2_; have GW121 := n3_; have GE121 := n4_; have NB120_121 := n5_; have NB121_120 := n6_; clear n0_ n1_ n2_ n3_ n4_ n5_ n6_; clear hb hbox hg; have hnb10 := NB120_121.out; have hnc10 := NB121_120.out; have hcz11_0 : w9.cell? ⟨gb120, 0, none⟩ = some (.int .i64 a0_0) := (blk_cell BK120.out 0).trans rfl; have hcz11_1 : w9.cell? ⟨gb120, 1, none⟩ = some (.int .i64 a0_1) := (blk_cell BK120.out 1).trans rfl; have hcz11_2 : w9.cell? ⟨gb120, 2, none⟩ = some (.int .i64 a0_2) := (blk_cell BK120.out 2).trans rfl; have hcz11_3 : w9.cell? ⟨gb120, 3, none⟩ = some (.int .i64 a0_3) := (blk_cell BK120.out 3).trans rfl; have hcz11_4 : w9.cell? ⟨gb120, 4, none⟩ = some (.int .i64 a0_4) := (blk_cell BK120.out 4).trans rfl; have hcz11_5 : w9.cell? ⟨gb120, 5, none⟩ = some (.bool a0_5) := (blk_cell BK120.out 5).trans rfl; have hcz11_6 : w9.cell? ⟨gb120, 6, none⟩ = some (.slice A0_6 l0_6.length c0_6) := (blk_cell BK120.out 6).trans rfl; have hfz11_0 := blk_frozen BK120.out 0; have hfz11_1 := blk_frozen BK120.out 1; have hfz11_2 := blk_frozen BK120.out 2; have hfz11_3 := blk_frozen BK120.out 3; have hfz11_4 := blk_frozen BK120.out 4; have hfz11_5 := blk_frozen BK120.out 5; have hfz11_6 := blk_frozen BK120.out 6) | ((with_reducible refine gate_callee (f := 209) rfl ?_); refine goesL_ (some 6) rfl rfl Try.func209 (by kernel_rfl) rfl #[.agg #[.int .i64 a0_0, .int .i64 a0_1, .int .i64 a0_2, .int .i64 a0_3, .int .i64 a0_4, .bool a0_5, .slice A0_6 l0_6.length c0_6]] rfl (by (try simp only [List.map_toArray, List.map_cons, List.map_nil]); first | done | rfl | (simp only [List.length_drop, List.length_take]; rfl)) ?_; (with_reducible refine (route_counts.calls a0_0 a0_1 a0_2 a0_3 a0_4 a0_5 _ _ l0_6 true _ ?side1 ?side2 A3.out).mono ?_); (case side1 => repeat (first | exact (Kd.C_below HR0_6.out HB.out) | (with_reducible refine Kd.C_alloc ?_ _) | (with_reducible refine Kd.C_drewN ?_ _) | (with_reducible refine Kd.C_drew ?_))); (case side2 => exact HC0_6.out); rintro e w12 ⟨rfl, hb⟩; refine ⟨_, rfl, ?_⟩; have n0_ := Aside0.mk (blk_below (g := gb120) (o := .cells #[.int .i64 a0_0, .int .i64 a0_1, .int .i64 a0_2, .int .i64 a0_3, .int .i64 a0_4, .bool a0_5, .slice A0_6 l0_6.length c0_6] 31 (0, 0)) (by (with_reducible repeat (first | refine blk_drewN ?_ _ | refine blk_drew ?_ | refine blk_alloc ?_ _)); exact BK120.out) hb); have n1_ := Aside0.mk (blk_below (g := gb121) (o := .cells #[.int .i64 a1_0, .int .i64 a1_1, .int .i64 a1_2, .int .i64 a1_3, .int .i64 a1_4, .bool a1_5, .slice A1_6 l1_6.length c1_6] 31 (0, 0)) (by (with_reducible repeat (first | refine blk_drewN ?_ _ | refine blk_drew ?_ | refine blk_alloc ?_ _)); exact BK121.out) hb); have n2_ := Aside0.mk (below_step (by repeat (first | (with_reducible first | exact HB.out | apply below_alloc | apply pw_below_drewN | apply below_drew1 | refine below_set ?_ GE120.out | refine below_set ?_ GE121.out) | exact HB.out)) hb); clear BK120; clear BK121; clear HB; have BK120 := n0_; have BK121 := n1_; have HB := n2_; clear n0_ n1_ n2_; (try clear hb); (try clear hb2); (try clear hk); (try clear hi); have hcz13_0 : w12.cell? ⟨gb121, 0, none⟩ = some (.int .i64 a1_0) := (blk_cell BK121.out 0).trans rfl; have hcz13_1 : w12.cell? ⟨gb121, 1, none⟩ = some (.int .i64 a1_1) := (blk_cell BK121.out 1).trans rfl; have hcz13_2 : w12.cell? ⟨gb121, 2, none⟩ = some (.int .i64 a1_2) := (blk_cell BK121.out 2).trans rfl; have hcz13_3 : w12.cell? ⟨gb121, 3, none⟩ = some (.int .i64 a1_3) := (blk_cell BK121.out 3).trans rfl; have hcz13_4 : w12.cell? ⟨gb121, 4, none⟩ = some (.int .i64 a1_4) := (blk_cell BK121.out 4).trans rfl; have hcz13_5 : w12.cell? ⟨gb121, 5, none⟩ = some (.bool a1_5) := (blk_cell BK121.out 5).trans rfl; have hcz13_6 : w12.cell? ⟨gb121, 6, none⟩ = some (.slice A1_6 l1_6.length c1_6) := (blk_cell BK121.out 6).trans rfl; have hfz13_0 := blk_frozen BK121.out 0; have hfz13_1 := blk_frozen BK121.out 1; have hfz13_2 := blk_frozen BK121.out 2; have hfz13_3 := blk_frozen BK121.out 3; have hfz13_4 := blk_frozen BK121.out 4; have hfz13_5 := blk_frozen BK121.out 5; have hfz13_6 := blk_frozen BK121.out 6) | (go_at_call 209; (with_reducible refine (route_counts.calls a1_0 a1_1 a1_2 a1_3 a1_4 a1_5 _ _ l1_6 true _ ?side1 ?side2 A5.out).mono ?_); (case side1 => repeat (first | exact (Kd.C_below HR1_6.out HB.out) | (with_reducible refine Kd.C_alloc ?_ _) | (with_reducible refine Kd.C_drewN ?_ _) | (with_reducible refine Kd.C_drew ?_))); (case side2 => exact HC1_6.out); rintro e w14 ⟨rfl, hb⟩; have n0_ := Aside0.mk (blk_below (g := gb120) (o := .cells #[.int .i64 a0_0, .int .i64 a0_1, .int .i64 a0_2, .int .i64 a0_3, .int .i64 a0_4, .bool a0_5, .slice A0_6 l0_6.length c0_6] 31 (0, 0)) (by (with_reducible repeat (first | refine blk_drewN ?_ _ | refine blk_drew ?_ | refine blk_alloc ?_ _)); exact BK120.out) hb); have n1_ := Aside0.mk (blk_below (g := gb121) (o := .cells #[.int .i64 a1_0, .int .i64 a1_1, .int .i64 a1_2, .int .i64 a1_3, .int .i64 a1_4, .bool a1_5, .slice A1_6 l1_6.length c1_6] 31 (0, 0)) (by (with_reducible repeat (first | refine blk_drewN ?_ _ | refine blk_drew ?_ | refine blk_alloc ?_ _)); exact BK121.out) hb); have n2_ := Aside0.mk (below_step (by repeat (first | (with_reducible first | exact HB.out | apply below_alloc | apply pw_below_drewN | apply below_drew1 | refine below_set ?_ GE120.out | refine below_set ?_ GE121.out) | exact HB.out)) hb); clear BK120; clear BK121; clear HB; have BK120 := n0_; have BK121 := n1_; have HB := n2_; clear n0_ n1_ n2_; (try clear hb); (try clear hb2); (try clear hk); (try clear hi); have hcz15_0 : w14.cell? ⟨gb120, 0, none⟩ = some (.int .i64 a0_0) := (blk_cell BK120.out 0).trans rfl; have hcz15_1 : w14.cell? ⟨gb120, 1, none⟩ = some (.int .i64 a0_1) := (blk_cell BK120.out 1).trans rfl; have hcz15_2 : w14.cell? ⟨gb120, 2, none⟩ = some (.int .i64 a0_2) := (blk_cell BK120.out 2).trans rfl; have hcz15_3 : w14.cell? ⟨gb120, 3, none⟩ = some (.int .i64 a0_3) := (blk_cell BK120.out 3).trans rfl; have hcz15_4 : w14.cell? ⟨gb120, 4, none⟩ = some (.int .i64 a0_4) := (blk_cell BK120.out 4).trans rfl; have hcz15_5 : w14.cell? ⟨gb120, 5, none⟩ = some (.bool a0_5) := (blk_cell BK120.out 5).trans rfl; have hcz15_6 : w14.cell? ⟨gb120, 6, none⟩ = some (.slice A0_6 l0_6.length c0_6) := (blk_cell BK120.out 6).trans rfl; have hfz15_0 := blk_frozen BK120.out 0; have hfz15_1 := blk_frozen BK120.out 1; have hfz15_2 := blk_frozen BK120.out 2; have hfz15_3 := blk_frozen BK120.out 3; have hfz15_4 := blk_frozen BK120.out 4; have hfz15_5 := blk_frozen BK120.out 5; have hfz15_6 := blk_frozen BK120.out 6; have hcz16_0 : w14.cell? ⟨gb121, 0, none⟩ = some (.int .i64 a1_0) := (blk_cell BK121.out 0).trans rfl; have hcz16_1 : w14.cell? ⟨gb121, 1, none⟩ = some (.int .i64 a1_1) := (blk_cell BK121.out 1).trans rfl; have hcz16_2 : w14.cell? ⟨gb121, 2, none⟩ = some (.int .i64 a1_2) := (blk_cell BK121.out 2).trans rfl; have hcz16_3 : w14.cell? ⟨gb121, 3, none⟩ = some (.int .i64 a1_3) := (blk_cell BK121.out 3).trans rfl; have hcz16_4 : w14.cell? ⟨gb121, 4, none⟩ = some (.int .i64 a1_4) := (blk_cell BK121.out 4).trans rfl; have hcz16_5 : w14.cell? ⟨gb121, 5, none⟩ = some (.bool a1_5) := (blk_cell BK121.out 5).trans rfl; have hcz16_6 : w14.cell? ⟨gb121, 6, none⟩ = some (.slice A1_6 l1_6.length c1_6) := (blk_cell BK121.out 6).trans rfl; have hfz16_0 := blk_frozen BK121.out 0; have hfz16_1 := blk_frozen BK121.out 1; have hfz16_2 := blk_frozen BK121.out 2; have hfz16_3 := blk_frozen BK121.out 3; have hfz16_4 := blk_frozen BK121.out 4; have hfz16_5 := blk_frozen BK121.out 5; have hfz16_6 := blk_frozen BK121.out 6))
        go_ret
        exact ⟨by first | rfl | (simp [errW_none, errW_some] <;> rfl) | (simp [*, errW_none, errW_some] <;> rfl), by repeat (first | (with_reducible first | exact HB.out | apply below_alloc | apply pw_below_drewN | apply below_drew1 | refine below_set ?_ GE120.out | refine below_set ?_ GE121.out) | exact HB.out)⟩
      · rw [if_neg c7] at H
        have c7b0 : (a0_0 == a1_0) = false := beq_eq_false_iff_ne.mpr c7
        have c7b1 : (a0_0 != a1_0) = true := bne_iff_ne.mpr c7
        replace H := Option.bind_eq_some_iff.mp H
        obtain ⟨t124, A170, H⟩ := H
        replace H : (some t124) = some r := H
        have A17 := Aside0.mk A170
        clear A170
        obtain rfl := Option.some.inj H
        go_enter Try.func134, Try.ntmps134
        go_wp2_with (first | ((with_reducible refine gate_dst (N := 2) rfl ?_); refine box_event ?hg (N := 2) ?hd (cs := #[.int .i64 a0_0, .int .i64 a0_1, .int .i64 a0_2, .int .i64 a0_3, .int .i64 a0_4, .bool a0_5, .slice A0_6 l0_6.length c0_6]) (t := 31) ?hr ?_; (case hd => rfl); (case hg => rfl); (case hr => first | (go_simp; done) | (go_simp; rfl)); intro gb120 hg w18 hbox hb; have n0_ := Aside0.mk (below_step (by repeat (first | (with_reducible first | exact HB.out | apply below_alloc | apply pw_below_drewN | apply below_drew1) | exact HB.out)) hb); have n1_ := Aside0.mk (hbox); have n2_ := Aside0.mk ((by rw [hg]; exact (below_size (by repeat (first | (with_reducible first | exact HB.out | apply below_alloc | apply pw_below_drewN | apply below_drew1) | exact HB.out))) : w.heap.size ≤ gb120)); have n3_ := Aside0.mk ((by rw [hg]; exact (below_size (by repeat (first | (with_reducible first | exact HB.out | apply below_alloc | apply pw_below_drewN | apply below_drew1) | exact HB.out))) : w.heap.size ≤ gb120)); clear HB; have HB := n0_; have BK120 := n1_; have GW120 := n2_; have GE120 := n3_; clear n0_ n1_ n2_ n3_; clear hb hbox hg) | ((with_reducible refine gate_dst (N := 3) rfl ?_); refine box_event ?hg (N := 3) ?hd (cs := #[.int .i64 a1_0, .int .i64 a1_1, .int .i64 a1_2, .int .i64 a1_3, .int .i64 a1_4, .bool a1_5, .slice A1_6 l1_6.length c1_6]) (t := 31) ?hr ?_; (case hd => rfl); (case hg => rfl); (case hr => first | (go_simp; done) | (go_simp; rfl)); intro gb121 hg w19 hbox hb; have n0_ := Aside0.mk (blk_below (g := gb120) (o := .cells #[.int .i64 a0_0, .int .i64 a0_1, .int .i64 a0_2, .int .i64 a0_3, .int .i64 a0_4, .bool a0_5, .slice A0_6 l0_6.length c0_6] 31 (0, 0)) (by (with_reducible repeat (first | refine blk_drewN ?_ _ | refine blk_drew ?_ | refine blk_alloc ?_ _)); exact BK120.out) hb); have n1_ := Aside0.mk (below_step (by repeat (first | (with_reducible first | exact HB.out | apply below_alloc | apply pw_below_drewN | apply below_drew1 | refine below_set ?_ GE120.out) | exact HB.out)) hb); have n2_ := Aside0.mk (hbox); have n3_ := Aside0.mk ((by rw [hg]; exact (below_size (by repeat (first | (with_reducible first | exact HB.out | apply below_alloc | apply pw_below_drewN | apply below_drew1 | refine below_set ?_ GE120.out) | exact HB.out))) : w.heap.size ≤ gb121)); have n4_ := Aside0.mk ((by rw [hg]; exact (below_size (by repeat (first | (with_reducible first | exact HB.out | apply below_alloc | apply pw_below_drewN | apply below_drew1 | refine below_set ?_ GE120.out) | exact HB.out))) : w.heap.size ≤ gb121)); have n5_ := Aside0.mk ((by rw [hg]; exact Nat.ne_of_lt (blk_lt (g := gb120) (o := .cells #[.int .i64 a0_0, .int .i64 a0_1, .int .i64 a0_2, .int .i64 a0_3, .int .i64 a0_4, .bool a0_5, .slice A0_6 l0_6.length c0_6] 31 (0, 0)) (by (with_reducible repeat (first | refine blk_drewN ?_ _ | refine blk_drew ?_ | refine blk_alloc ?_ _)); exact BK120.out)) : gb120 ≠ gb121)); have n6_ := Aside0.mk ((by rw [hg]; exact Nat.ne_of_gt (blk_lt (g := gb120) (o := .cells #[.int .i64 a0_0, .int .i64 a0_1, .int .i64 a0_2, .int .i64 a0_3, .int .i64 a0_4, .bool a0_5, .slice A0_6 l0_6.length c0_6] 31 (0, 0)) (by (with_reducible repeat (first | refine blk_drewN ?_ _ | refine blk_drew ?_ | refine blk_alloc ?_ _)); exact BK120.out)) : gb121 ≠ gb120)); clear BK120; clear HB; have BK120 := n0_; have HB := n1_; have BK121 := n2_; have GW121 := n3_; have GE121 := n4_; have NB120_121 := n5_; have NB121_120 := n6_; clear n0_ n1_ n2_ n3_ n4_ n5_ n6_; clear hb hbox hg; have hnb20 := NB120_121.out; have hnc20 := NB121_120.out; have hcz21_0 : w19.cell? ⟨gb120, 0, none⟩ = some (.int .i64 a0_0) := (blk_cell BK120.out 0).trans rfl; have hcz21_1 : w19.cell? ⟨gb120, 1, none⟩ = some (.int .i64 a0_1) := (blk_cell BK120.out 1).trans rfl; have hcz21_2 : w19.cell? ⟨gb120, 2, none⟩ = some (.int .i64 a0_2) := (blk_cell BK120.out 2).trans rfl; have hcz21_3 : w19.cell? ⟨gb120, 3, none⟩ = some (.int .i64 a0_3) := (blk_cell BK120.out 3).trans rfl; have hcz21_4 : w19.cell? ⟨gb120, 4, none⟩ = some (.int .i64 a0_4) := (blk_cell BK120.out 4).trans rfl; have hcz21_5 : w19.cell? ⟨gb120, 5, none⟩ = some (.bool a0_5) := (blk_cell BK120.out 5).trans rfl; have hcz21_6 : w19.cell? ⟨gb120, 6, none⟩ = some (.slice A0_6 l0_6.length c0_6) := (blk_cell BK120.out 6).trans rfl; have hfz21_0 := blk_frozen BK120.out 0; have hfz21_1 := blk_frozen BK120.out 1; have hfz21_2 := blk_frozen BK120.out 2; have hfz21_3 := blk_frozen BK120.out 3; have hfz21_4 := blk_frozen BK120.out 4; have hfz21_5 := blk_frozen BK120.out 5; have hfz21_6 := blk_frozen BK120.out 6) | ((with_reducible refine gate_callee (f := 209) rfl ?_); refine goesL_ (some 6) rfl rfl Try.func209 (by kernel_rfl) rfl #[.agg #[.int .i64 a0_0, .int .i64 a0_1, .int .i64 a0_2, .int .i64 a0_3, .int .i64 a0_4, .bool a0_5, .slice A0_6 l0_6.length c0_6]] rfl (by (try simp only [List.map_toArray, List.map_cons, List.map_nil]); first | done | rfl | (simp only [List.length_drop, List.length_take]; rfl)) ?_; (with_reducible refine (route_counts.calls a0_0 a0_1 a0_2 a0_3 a0_4 a0_5 _ _ l0_6 true _ ?side1 ?side2 A3.out).mono ?_); (case side1 => repeat (first | exact (Kd.C_below HR0_6.out HB.out) | (with_reducible refine Kd.C_alloc ?_ _) | (with_reducible refine Kd.C_drewN ?_ _) | (with_reducible refine Kd.C_drew ?_))); (case side2 => exact HC0_6.out); rintro e w22 ⟨rfl, hb⟩; refine ⟨_, rfl, ?_⟩; have n0_ := Aside0.mk (blk_below (g := gb120) (o := .cells #[.int .i64 a0_0, .int .i64 a0_1, .int .i64 a0_2, .int .i64 a0_3, .int .i64 a0_4, .bool a0_5, .slice A0_6 l0_6.length c0_6] 31 (0, 0)) (by (with_reducible repeat (first | refine blk_drewN ?_ _ | refine blk_drew ?_ | refine blk_alloc ?_ _)); exact BK120.out) hb); have n1_ := Aside0.mk (blk_below (g := gb121) (o := .cells #[.int .i64 a1_0, .int .i64 a1_1, .int .i64 a1_2, .int .i64 a1_3, .int .i64 a1_4, .bool a1_5, .slice A1_6 l1_6.length c1_6] 31 (0, 0)) (by (with_reducible repeat (first | refine blk_drewN ?_ _ | refine blk_drew ?_ | refine blk_alloc ?_ _)); exact BK121.out) hb); have n2_ := Aside0.mk (below_step (by repeat (first | (with_reducible first | exact HB.out | apply below_alloc | apply pw_below_drewN | apply below_drew1 | refine below_set ?_ GE120.out | refine below_set ?_ GE121.out) | exact HB.out)) hb); clear BK120; clear BK121; clear HB; have BK120 := n0_; have BK121 := n1_; have HB := n2_; clear n0_ n1_ n2_; (try clear hb); (try clear hb2); (try clear hk); (try clear hi); have hcz23_0 : w22.cell? ⟨gb121, 0, none⟩ = some (.int .i64 a1_0) := (blk_cell BK121.out 0).trans rfl; have hcz23_1 : w22.cell? ⟨gb121, 1, none⟩ = some (.int .i64 a1_1) := (blk_cell BK121.out 1).trans rfl; have hcz23_2 : w22.cell? ⟨gb121, 2, none⟩ = some (.int .i64 a1_2) := (blk_cell BK121.out 2).trans rfl; have hcz23_3 : w22.cell? ⟨gb121, 3, none⟩ = some (.int .i64 a1_3) := (blk_cell BK121.out 3).trans rfl; have hcz23_4 : w22.cell? ⟨gb121, 4, none⟩ = some (.int .i64 a1_4) := (blk_cell BK121.out 4).trans rfl; have hcz23_5 : w22.cell? ⟨gb121, 5, none⟩ = some (.bool a1_5) := (blk_cell BK121.out 5).trans rfl; have hcz23_6 : w22.cell? ⟨gb121, 6, none⟩ = some (.slice A1_6 l1_6.length c1_6) := (blk_cell BK121.out 6).trans rfl; have hfz23_0 := blk_frozen BK121.out 0; have hfz23_1 := blk_frozen BK121.out 1; have hfz23_2 := blk_frozen BK121.out 2; have hfz23_3 := blk_frozen BK121.out 3; have hfz23_4 := blk_frozen BK121.out 4; have hfz23_5 := blk_frozen BK121.out 5; have hfz23_6 := blk_frozen BK121.out 6) | (go_at_call 209; (with_reducible refine (route_counts.calls a1_0 a1_1 a1_2 a1_3 a1_4 a1_5 _ _ l1_6 true _ ?side1 ?side2 A5.out).mono ?_); (case side1 => repeat (first | exact (Kd.C_below HR1_6.out HB.out) | (with_reducible refine Kd.C_alloc ?_ _) | (with_reducible refine Kd.C_drewN ?_ _) | (with_reducible refine Kd.C_drew ?_))); (case side2 => exact HC1_6.out); rintro e w24 ⟨rfl, hb⟩; have n0_ := Aside0.mk (blk_below (g := gb120) (o := .cells #[.int .i64 a0_0, .int .i64 a0_1, .int .i64 a0_2, .int .i64 a0_3, .int .i64 a0_4, .bool a0_5, .slice A0_6 l0_6.length c0_6] 31 (0, 0)) (by (with_reducible repeat (first | refine blk_drewN ?_ _ | refine blk_drew ?_ | refine blk_alloc ?_ _)); exact BK120.out) hb); have n1_ := Aside0.mk (blk_below (g := gb121) (o := .cells #[.int .i64 a1_0, .int .i64 a1_1, .int .i64 a1_2, .int .i64 a1_3, .int .i64 a1_4, .bool a1_5, .slice A1_6 l1_6.length c1_6] 31 (0, 0)) (by (with_reducible repeat (first | refine blk_drewN ?_ _ | refine blk_drew ?_ | refine blk_alloc ?_ _)); exact BK121.out) hb); have n2_ := Aside0.mk (below_step (by repeat (first | (with_reducible first | exact HB.out | apply below_alloc | apply pw_below_drewN | apply below_drew1 | refine below_set ?_ GE120.out | refine below_set ?_ GE121.out) | exact HB.out)) hb); clear BK120; clear BK121; clear HB; have BK120 := n0_; have BK121 := n1_; have HB := n2_; clear n0_ n1_ n2_; (try clear hb); (try clear hb2); (try clear hk); (try clear hi); have hcz25_0 : w24.cell? ⟨gb120, 0, none⟩ = some (.int .i64 a0_0) := (blk_cell BK120.out 0).trans rfl; have hcz25_1 : w24.cell? ⟨gb120, 1, none⟩ = some (.int .i64 a0_1) := (blk_cell BK120.out 1).trans rfl; have hcz25_2 : w24.cell? ⟨gb120, 2, none⟩ = some (.int .i64 a0_2) := (blk_cell BK120.out 2).trans rfl; have hcz25_3 : w24.cell? ⟨gb120, 3, none⟩ = some (.int .i64 a0_3) := (blk_cell BK120.out 3).trans rfl; have hcz25_4 : w24.cell? ⟨gb120, 4, none⟩ = some (.int .i64 a0_4) := (blk_cell BK120.out 4).trans rfl; have hcz25_5 : w24.cell? ⟨gb120, 5, none⟩ = some (.bool a0_5) := (blk_cell BK120.out 5).trans rfl; have hcz25_6 : w24.cell? ⟨gb120, 6, none⟩ = some (.slice A0_6 l0_6.length c0_6) := (blk_cell BK120.out 6).trans rfl; have hfz25_0 := blk_frozen BK120.out 0; have hfz25_1 := blk_frozen BK120.out 1; have hfz25_2 := blk_frozen BK120.out 2; have hfz25_3 := blk_frozen BK120.out 3; have hfz25_4 := blk_frozen BK120.out 4; have hfz25_5 := blk_frozen BK120.out 5; have hfz25_6 := blk_frozen BK120.out 6; have hcz26_0 : w24.cell? ⟨gb121, 0, none⟩ = some (.int .i64 a1_0) := (blk_cell BK121.out 0).trans rfl; have hcz26_1 : w24.cell? ⟨gb121, 1, none⟩ = some (.int .i64 a1_1) := (blk_cell BK121.out 1).trans rfl; have hcz26_2 : w24.cell? ⟨gb121, 2, none⟩ = some (.int .i64 a1_2) := (blk_cell BK121.out 2).trans rfl; have hcz26_3 : w24.cell? ⟨gb121, 3, none⟩ = some (.int .i64 a1_3) := (blk_cell BK121.out 3).trans rfl; have hcz26_4 : w24.cell? ⟨gb121, 4, none⟩ = some (.int .i64 a1_4) := (blk_cell BK121.out 4).trans rfl; have hcz26_5 : w24.cell? ⟨gb121, 5, none⟩ = some (.bool a1_5) := (blk_cell BK121.out 5).trans rfl; have hcz26_6 : w24.cell? ⟨gb121, 6, none⟩ = some (.slice A1_6 l1_6.length c1_6) := (blk_cell BK121.out 6).trans rfl; have hfz26_0 := blk_frozen BK121.out 0; have hfz26_1 := blk_frozen BK121.out 1; have hfz26_2 := blk_frozen BK121.out 2; have hfz26_3 := blk_frozen BK121.out 3; have hfz26_4 := blk_frozen BK121.out 4; have hfz26_5 := blk_frozen BK121.out 5; have hfz26_6 := blk_frozen BK121.out 6) | ((with_reducible refine gate_callee (f := 139) rfl ?_); refine goesL_ (some 24) rfl rfl Try.func139 (by kernel_rfl) rfl #[.agg #[.int .i64 a0_3, .int .i64 a0_4], .agg #[.int .i64 a1_3, .int .i64 a1_4]] rfl (by (try simp only [List.map_toArray, List.map_cons, List.map_nil]); first | done | rfl | (simp only [List.length_drop, List.length_take]; rfl)) ?_; (with_reducible refine (span_Best.calls a0_3 a0_4 a1_3 a1_4 t124 _ A17.out).mono ?_); rintro e w27 ⟨rfl, hb⟩; refine ⟨_, rfl, ?_⟩; have n0_ := Aside0.mk (blk_below (g := gb120) (o := .cells #[.int .i64 a0_0, .int .i64 a0_1, .int .i64 a0_2, .int .i64 a0_3, .int .i64 a0_4, .bool a0_5, .slice A0_6 l0_6.length c0_6] 31 (0, 0)) (by (with_reducible repeat (first | refine blk_drewN ?_ _ | refine blk_drew ?_ | refine blk_alloc ?_ _)); exact BK120.out) hb); have n1_ := Aside0.mk (blk_below (g := gb121) (o := .cells #[.int .i64 a1_0, .int .i64 a1_1, .int .i64 a1_2, .int .i64 a1_3, .int .i64 a1_4, .bool a1_5, .slice A1_6 l1_6.length c1_6] 31 (0, 0)) (by (with_reducible repeat (first | refine blk_drewN ?_ _ | refine blk_drew ?_ | refine blk_alloc ?_ _)); exact BK121.out) hb); have n2_ := Aside0.mk (below_step (by repeat (first | (with_reducible first | exact HB.out | apply below_alloc | apply pw_below_drewN | apply below_drew1 | refine below_set ?_ GE120.out | refine below_set ?_ GE121.out) | exact HB.out)) hb); clear BK120; clear BK121; clear HB; have BK120 := n0_; have BK121 := n1_; have HB := n2_; clear n0_ n1_ n2_; (try clear hb); (try clear hb2); (try clear hk); (try clear hi)))
        go_ret
        exact ⟨by first | rfl | (simp [errW_none, errW_some] <;> rfl) | (simp [*, errW_none, errW_some] <;> rfl), by repeat (first | (with_reducible first | exact HB.out | apply below_alloc | apply pw_below_drewN | apply below_drew1 | refine below_set ?_ GE120.out | refine below_set ?_ GE121.out) | exact HB.out)⟩
    · replace c6 := Bool.eq_false_iff.mpr c6
      subst c6
      have H1 : (some 0) = some r := by rw [if_neg (show ¬ (false = true) by decide)] at H; exact H
      clear H
      have H := H1
      clear H1
      obtain rfl := Option.some.inj H
      go_enter Try.func134, Try.ntmps134
      go_wp2_with (first | ((with_reducible refine gate_dst (N := 2) rfl ?_); refine box_event ?hg (N := 2) ?hd (cs := #[.int .i64 a0_0, .int .i64 a0_1, .int .i64 a0_2, .int .i64 a0_3, .int .i64 a0_4, .bool a0_5, .slice A0_6 l0_6.length c0_6]) (t := 31) ?hr ?_; (case hd => rfl); (case hg => rfl); (case hr => first | (go_simp; done) | (go_simp; rfl)); intro gb120 hg w28 hbox hb; have n0_ := Aside0.mk (below_step (by repeat (first | (with_reducible first | exact HB.out | apply below_alloc | apply pw_below_drewN | apply below_drew1) | exact HB.out)) hb); have n1_ := Aside0.mk (hbox); have n2_ := Aside0.mk ((by rw [hg]; exact (below_size (by repeat (first | (with_reducible first | exact HB.out | apply below_alloc | apply pw_below_drewN | apply below_drew1) | exact HB.out))) : w.heap.size ≤ gb120)); have n3_ := Aside0.mk ((by rw [hg]; exact (below_size (by repeat (first | (with_reducible first | exact HB.out | apply below_alloc | apply pw_below_drewN | apply below_drew1) | exact HB.out))) : w.heap.size ≤ gb120)); clear HB; have HB := n0_; have BK120 := n1_; have GW120 := n2_; have GE120 := n3_; clear n0_ n1_ n2_ n3_; clear hb hbox hg) | ((with_reducible refine gate_dst (N := 3) rfl ?_); refine box_event ?hg (N := 3) ?hd (cs := #[.int .i64 a1_0, .int .i64 a1_1, .int .i64 a1_2, .int .i64 a1_3, .int .i64 a1_4, .bool a1_5, .slice A1_6 l1_6.length c1_6]) (t := 31) ?hr ?_; (case hd => rfl); (case hg => rfl); (case hr => first | (go_simp; done) | (go_simp; rfl)); intro gb121 hg w29 hbox hb; have n0_ := Aside0.mk (blk_below (g := gb120) (o := .cells #[.int .i64 a0_0, .int .i64 a0_1, .int .i64 a0_2, .int .i64 a0_3, .int .i64 a0_4, .bool a0_5, .slice A0_6 l0_6.length c0_6] 31 (0, 0)) (by (with_reducible repeat (first | refine blk_drewN ?_ _ | refine blk_drew ?_ | refine blk_alloc ?_ _)); exact BK120.out) hb); have n1_ := Aside0.mk (below_step (by repeat (first | (with_reducible first | exact HB.out | apply below_alloc | apply pw_below_drewN | apply below_drew1 | refine below_set ?_ GE120.out) | exact HB.out)) hb); have n2_ := Aside0.mk (hbox); have n3_ := Aside0.mk ((by rw [hg]; exact (below_size (by repeat (first | (with_reducible first | exact HB.out | apply below_alloc | apply pw_below_drewN | apply below_drew1 | refine below_set ?_ GE120.out) | exact HB.out))) : w.heap.size ≤ gb121)); have n4_ := Aside0.mk ((by rw [hg]; exact (below_size (by repeat (first | (with_reducible first | exact HB.out | apply below_alloc | apply pw_below_drewN | apply below_drew1 | refine below_set ?_ GE120.out) | exact HB.out))) : w.heap.size ≤ gb121)); have n5_ := Aside0.mk ((by rw [hg]; exact Nat.ne_of_lt (blk_lt (g := gb120) (o := .cells #[.int .i64 a0_0, .int .i64 a0_1, .int .i64 a0_2, .int .i64 a0_3, .int .i64 a0_4, .bool a0_5, .slice A0_6 l0_6.length c0_6] 31 (0, 0)) (by (with_reducible repeat (first | refine blk_drewN ?_ _ | refine blk_drew ?_ | refine blk_alloc ?_ _)); exact BK120.out)) : gb120 ≠ gb121)); have n6_ := Aside0.mk ((by rw [hg]; exact Nat.ne_of_gt (blk_lt (g := gb120) (o := .cells #[.int .i64 a0_0, .int .i64 a0_1, .int .i64 a0_2, .int .i64 a0_3, .int .i64 a0_4, .bool a0_5, .slice A0_6 l0_6.length c0_6] 31 (0, 0)) (by (with_reducible repeat (first | refine blk_drewN ?_ _ | refine blk_drew ?_ | refine blk_alloc ?_ _)); exact BK120.out)) : gb121 ≠ gb120)); clear BK120; clear HB; have BK120 := n0_; have HB := n1_; have BK121 := n2_; have GW121 := n3_; have GE121 := n4_; have NB120_121 := n5_; have NB121_120 := n6_; clear n0_ n1_ n2_ n3_ n4_ n5_ n6_; clear hb hbox hg; have hnb30 := NB120_121.out; have hnc30 := NB121_120.out; have hcz31_0 : w29.cell? ⟨gb120, 0, none⟩ = some (.int .i64 a0_0) := (blk_cell BK120.out 0).trans rfl; have hcz31_1 : w29.cell? ⟨gb120, 1, none⟩ = some (.int .i64 a0_1) := (blk_cell BK120.out 1).trans rfl; have hcz31_2 : w29.cell? ⟨gb120, 2, none⟩ = some (.int .i64 a0_2) := (blk_cell BK120.out 2).trans rfl; have hcz31_3 : w29.cell? ⟨gb120, 3, none⟩ = some (.int .i64 a0_3) := (blk_cell BK120.out 3).trans rfl; have hcz31_4 : w29.cell? ⟨gb120, 4, none⟩ = some (.int .i64 a0_4) := (blk_cell BK120.out 4).trans rfl; have hcz31_5 : w29.cell? ⟨gb120, 5, none⟩ = some (.bool a0_5) := (blk_cell BK120.out 5).trans rfl; have hcz31_6 : w29.cell? ⟨gb120, 6, none⟩ = some (.slice A0_6 l0_6.length c0_6) := (blk_cell BK120.out 6).trans rfl; have hfz31_0 := blk_frozen BK120.out 0; have hfz31_1 := blk_frozen BK120.out 1; have hfz31_2 := blk_frozen BK120.out 2; have hfz31_3 := blk_frozen BK120.out 3; have hfz31_4 := blk_frozen BK120.out 4; have hfz31_5 := blk_frozen BK120.out 5; have hfz31_6 := blk_frozen BK120.out 6) | ((with_reducible refine gate_callee (f := 209) rfl ?_); refine goesL_ (some 6) rfl rfl Try.func209 (by kernel_rfl) rfl #[.agg #[.int .i64 a0_0, .int .i64 a0_1, .int .i64 a0_2, .int .i64 a0_3, .int .i64 a0_4, .bool a0_5, .slice A0_6 l0_6.length c0_6]] rfl (by (try simp only [List.map_toArray, List.map_cons, List.map_nil]); first | done | rfl | (simp only [List.length_drop, List.length_take]; rfl)) ?_; (with_reducible refine (route_counts.calls a0_0 a0_1 a0_2 a0_3 a0_4 a0_5 _ _ l0_6 true _ ?side1 ?side2 A3.out).mono ?_); (case side1 => repeat (first | exact (Kd.C_below HR0_6.out HB.out) | (with_reducible refine Kd.C_alloc ?_ _) | (with_reducible refine Kd.C_drewN ?_ _) | (with_reducible refine Kd.C_drew ?_))); (case side2 => exact HC0_6.out); rintro e w32 ⟨rfl, hb⟩; refine ⟨_, rfl, ?_⟩; have n0_ := Aside0.mk (blk_below (g := gb120) (o := .cells #[.int .i64 a0_0, .int .i64 a0_1, .int .i64 a0_2, .int .i64 a0_3, .int .i64 a0_4, .bool a0_5, .slice A0_6 l0_6.length c0_6] 31 (0, 0)) (by (with_reducible repeat (first | refine blk_drewN ?_ _ | refine blk_drew ?_ | refine blk_alloc ?_ _)); exact BK120.out) hb); have n1_ := Aside0.mk (blk_below (g := gb121) (o := .cells #[.int .i64 a1_0, .int .i64 a1_1, .int .i64 a1_2, .int .i64 a1_3, .int .i64 a1_4, .bool a1_5, .slice A1_6 l1_6.length c1_6] 31 (0, 0)) (by (with_reducible repeat (first | refine blk_drewN ?_ _ | refine blk_drew ?_ | refine blk_alloc ?_ _)); exact BK121.out) hb); have n2_ := Aside0.mk (below_step (by repeat (first | (with_reducible first | exact HB.out | apply below_alloc | apply pw_below_drewN | apply below_drew1 | refine below_set ?_ GE120.out | refine below_set ?_ GE121.out) | exact HB.out)) hb); clear BK120; clear BK121; clear HB; have BK120 := n0_; have BK121 := n1_; have HB := n2_; clear n0_ n1_ n2_; (try clear hb); (try clear hb2); (try clear hk); (try clear hi); have hcz33_0 : w32.cell? ⟨gb121, 0, none⟩ = some (.int .i64 a1_0) := (blk_cell BK121.out 0).trans rfl; have hcz33_1 : w32.cell? ⟨gb121, 1, none⟩ = some (.int .i64 a1_1) := (blk_cell BK121.out 1).trans rfl; have hcz33_2 : w32.cell? ⟨gb121, 2, none⟩ = some (.int .i64 a1_2) := (blk_cell BK121.out 2).trans rfl; have hcz33_3 : w32.cell? ⟨gb121, 3, none⟩ = some (.int .i64 a1_3) := (blk_cell BK121.out 3).trans rfl; have hcz33_4 : w32.cell? ⟨gb121, 4, none⟩ = some (.int .i64 a1_4) := (blk_cell BK121.out 4).trans rfl; have hcz33_5 : w32.cell? ⟨gb121, 5, none⟩ = some (.bool a1_5) := (blk_cell BK121.out 5).trans rfl; have hcz33_6 : w32.cell? ⟨gb121, 6, none⟩ = some (.slice A1_6 l1_6.length c1_6) := (blk_cell BK121.out 6).trans rfl; have hfz33_0 := blk_frozen BK121.out 0; have hfz33_1 := blk_frozen BK121.out 1; have hfz33_2 := blk_frozen BK121.out 2; have hfz33_3 := blk_frozen BK121.out 3; have hfz33_4 := blk_frozen BK121.out 4; have hfz33_5 := blk_frozen BK121.out 5; have hfz33_6 := blk_frozen BK121.out 6) | (go_at_call 209; (with_reducible refine (route_counts.calls a1_0 a1_1 a1_2 a1_3 a1_4 a1_5 _ _ l1_6 false _ ?side1 ?side2 A5.out).mono ?_); (case side1 => repeat (first | exact (Kd.C_below HR1_6.out HB.out) | (with_reducible refine Kd.C_alloc ?_ _) | (with_reducible refine Kd.C_drewN ?_ _) | (with_reducible refine Kd.C_drew ?_))); (case side2 => exact HC1_6.out); rintro e w34 ⟨rfl, hb⟩; have n0_ := Aside0.mk (blk_below (g := gb120) (o := .cells #[.int .i64 a0_0, .int .i64 a0_1, .int .i64 a0_2, .int .i64 a0_3, .int .i64 a0_4, .bool a0_5, .slice A0_6 l0_6.length c0_6] 31 (0, 0)) (by (with_reducible repeat (first | refine blk_drewN ?_ _ | refine blk_drew ?_ | refine blk_alloc ?_ _)); exact BK120.out) hb); have n1_ := Aside0.mk (blk_below (g := gb121) (o := .cells #[.int .i64 a1_0, .int .i64 a1_1, .int .i64 a1_2, .int .i64 a1_3, .int .i64 a1_4, .bool a1_5, .slice A1_6 l1_6.length c1_6] 31 (0, 0)) (by (with_reducible repeat (first | refine blk_drewN ?_ _ | refine blk_drew ?_ | refine blk_alloc ?_ _)); exact BK121.out) hb); have n2_ := Aside0.mk (below_step (by repeat (first | (with_reducible first | exact HB.out | apply below_alloc | apply pw_below_drewN | apply below_drew1 | refine below_set ?_ GE120.out | refine below_set ?_ GE121.out) | exact HB.out)) hb); clear BK120; clear BK121; clear HB; have BK120 := n0_; have BK121 := n1_; have HB := n2_; clear n0_ n1_ n2_; (try clear hb); (try clear hb2); (try clear hk); (try clear hi)))
      go_ret
      exact ⟨by first | rfl | (simp [errW_none, errW_some] <;> rfl) | (simp [*, errW_none, errW_some] <;> rfl), by repeat (first | (with_reducible first | exact HB.out | apply below_alloc | apply pw_below_drewN | apply below_drew1 | refine below_set ?_ GE120.out | refine below_set ?_ GE121.out) | exact HB.out)⟩
  · replace c4 := Bool.eq_false_iff.mpr c4
    subst c4
    have H1 : (some 0) = some r := by rw [if_neg (show ¬ (false = true) by decide)] at H; exact H
    clear H
    have H := H1
    clear H1
    obtain rfl := Option.some.inj H
    go_enter Try.func134, Try.ntmps134
    go_wp2_with (first | ((with_reducible refine gate_dst (N := 2) rfl ?_); refine box_event ?hg (N := 2) ?hd (cs := #[.int .i64 a0_0, .int .i64 a0_1, .int .i64 a0_2, .int .i64 a0_3, .int .i64 a0_4, .bool a0_5, .slice A0_6 l0_6.length c0_6]) (t := 31) ?hr ?_; (case hd => rfl); (case hg => rfl); (case hr => first | (go_simp; done) | (go_simp; rfl)); intro gb120 hg w35 hbox hb; have n0_ := Aside0.mk (below_step (by repeat (first | (with_reducible first | exact HB.out | apply below_alloc | apply pw_below_drewN | apply below_drew1) | exact HB.out)) hb); have n1_ := Aside0.mk (hbox); have n2_ := Aside0.mk ((by rw [hg]; exact (below_size (by repeat (first | (with_reducible first | exact HB.out | apply below_alloc | apply pw_below_drewN | apply below_drew1) | exact HB.out))) : w.heap.size ≤ gb120)); have n3_ := Aside0.mk ((by rw [hg]; exact (below_size (by repeat (first | (with_reducible first | exact HB.out | apply below_alloc | apply pw_below_drewN | apply below_drew1) | exact HB.out))) : w.heap.size ≤ gb120)); clear HB; have HB := n0_; have BK120 := n1_; have GW120 := n2_; have GE120 := n3_; clear n0_ n1_ n2_ n3_; clear hb hbox hg) | ((with_reducible refine gate_dst (N := 3) rfl ?_); refine box_event ?hg (N := 3) ?hd (cs := #[.int .i64 a1_0, .int .i64 a1_1, .int .i64 a1_2, .int .i64 a1_3, .int .i64 a1_4, .bool a1_5, .slice A1_6 l1_6.length c1_6]) (t := 31) ?hr ?_; (case hd => rfl); (case hg => rfl); (case hr => first | (go_simp; done) | (go_simp; rfl)); intro gb121 hg w36 hbox hb; have n0_ := Aside0.mk (blk_below (g := gb120) (o := .cells #[.int .i64 a0_0, .int .i64 a0_1, .int .i64 a0_2, .int .i64 a0_3, .int .i64 a0_4, .bool a0_5, .slice A0_6 l0_6.length c0_6] 31 (0, 0)) (by (with_reducible repeat (first | refine blk_drewN ?_ _ | refine blk_drew ?_ | refine blk_alloc ?_ _)); exact BK120.out) hb); have n1_ := Aside0.mk (below_step (by repeat (first | (with_reducible first | exact HB.out | apply below_alloc | apply pw_below_drewN | apply below_drew1 | refine below_set ?_ GE120.out) | exact HB.out)) hb); have n2_ := Aside0.mk (hbox); have n3_ := Aside0.mk ((by rw [hg]; exact (below_size (by repeat (first | (with_reducible first | exact HB.out | apply below_alloc | apply pw_below_drewN | apply below_drew1 | refine below_set ?_ GE120.out) | exact HB.out))) : w.heap.size ≤ gb121)); have n4_ := Aside0.mk ((by rw [hg]; exact (below_size (by repeat (first | (with_reducible first | exact HB.out | apply below_alloc | apply pw_below_drewN | apply below_drew1 | refine below_set ?_ GE120.out) | exact HB.out))) : w.heap.size ≤ gb121)); have n5_ := Aside0.mk ((by rw [hg]; exact Nat.ne_of_lt (blk_lt (g := gb120) (o := .cells #[.int .i64 a0_0, .int .i64 a0_1, .int .i64 a0_2, .int .i64 a0_3, .int .i64 a0_4, .bool a0_5, .slice A0_6 l0_6.length c0_6] 31 (0, 0)) (by (with_reducible repeat (first | refine blk_drewN ?_ _ | refine blk_drew ?_ | refine blk_alloc ?_ _)); exact BK120.out)) : gb120 ≠ gb121)); have n6_ := Aside0.mk ((by rw [hg]; exact Nat.ne_of_gt (blk_lt (g := gb120) (o := .cells #[.int .i64 a0_0, .int .i64 a0_1, .int .i64 a0_2, .int .i64 a0_3, .int .i64 a0_4, .bool a0_5, .slice A0_6 l0_6.length c0_6] 31 (0, 0)) (by (with_reducible repeat (first | refine blk_drewN ?_ _ | refine blk_drew ?_ | refine blk_alloc ?_ _)); exact BK120.out)) : gb121 ≠ gb120)); clear BK120; clear HB; have BK120 := n0_; have HB := n1_; have BK121 := n2_; have GW121 := n3_; have GE121 := n4_; have NB120_121 := n5_; have NB121_120 := n6_; clear n0_ n1_ n2_ n3_ n4_ n5_ n6_; clear hb hbox hg; have hnb37 := NB120_121.out; have hnc37 := NB121_120.out; have hcz38_0 : w36.cell? ⟨gb120, 0, none⟩ = some (.int .i64 a0_0) := (blk_cell BK120.out 0).trans rfl; have hcz38_1 : w36.cell? ⟨gb120, 1, none⟩ = some (.int .i64 a0_1) := (blk_cell BK120.out 1).trans rfl; have hcz38_2 : w36.cell? ⟨gb120, 2, none⟩ = some (.int .i64 a0_2) := (blk_cell BK120.out 2).trans rfl; have hcz38_3 : w36.cell? ⟨gb120, 3, none⟩ = some (.int .i64 a0_3) := (blk_cell BK120.out 3).trans rfl; have hcz38_4 : w36.cell? ⟨gb120, 4, none⟩ = some (.int .i64 a0_4) := (blk_cell BK120.out 4).trans rfl; have hcz38_5 : w36.cell? ⟨gb120, 5, none⟩ = some (.bool a0_5) := (blk_cell BK120.out 5).trans rfl; have hcz38_6 : w36.cell? ⟨gb120, 6, none⟩ = some (.slice A0_6 l0_6.length c0_6) := (blk_cell BK120.out 6).trans rfl; have hfz38_0 := blk_frozen BK120.out 0; have hfz38_1 := blk_frozen BK120.out 1; have hfz38_2 := blk_frozen BK120.out 2; have hfz38_3 := blk_frozen BK120.out 3; have hfz38_4 := blk_frozen BK120.out 4; have hfz38_5 := blk_frozen BK120.out 5; have hfz38_6 := blk_frozen BK120.out 6) | ((with_reducible refine gate_callee (f := 209) rfl ?_); refine goesL_ (some 6) rfl rfl Try.func209 (by kernel_rfl) rfl #[.agg #[.int .i64 a0_0, .int .i64 a0_1, .int .i64 a0_2, .int .i64 a0_3, .int .i64 a0_4, .bool a0_5, .slice A0_6 l0_6.length c0_6]] rfl (by (try simp only [List.map_toArray, List.map_cons, List.map_nil]); first | done | rfl | (simp only [List.length_drop, List.length_take]; rfl)) ?_; (with_reducible refine (route_counts.calls a0_0 a0_1 a0_2 a0_3 a0_4 a0_5 _ _ l0_6 false _ ?side1 ?side2 A3.out).mono ?_); (case side1 => repeat (first | exact (Kd.C_below HR0_6.out HB.out) | (with_reducible refine Kd.C_alloc ?_ _) | (with_reducible refine Kd.C_drewN ?_ _) | (with_reducible refine Kd.C_drew ?_))); (case side2 => exact HC0_6.out); rintro e w39 ⟨rfl, hb⟩; refine ⟨_, rfl, ?_⟩; have n0_ := Aside0.mk (blk_below (g := gb120) (o := .cells #[.int .i64 a0_0, .int .i64 a0_1, .int .i64 a0_2, .int .i64 a0_3, .int .i64 a0_4, .bool a0_5, .slice A0_6 l0_6.length c0_6] 31 (0, 0)) (by (with_reducible repeat (first | refine blk_drewN ?_ _ | refine blk_drew ?_ | refine blk_alloc ?_ _)); exact BK120.out) hb); have n1_ := Aside0.mk (blk_below (g := gb121) (o := .cells #[.int .i64 a1_0, .int .i64 a1_1, .int .i64 a1_2, .int .i64 a1_3, .int .i64 a1_4, .bool a1_5, .slice A1_6 l1_6.length c1_6] 31 (0, 0)) (by (with_reducible repeat (first | refine blk_drewN ?_ _ | refine blk_drew ?_ | refine blk_alloc ?_ _)); exact BK121.out) hb); have n2_ := Aside0.mk (below_step (by repeat (first | (with_reducible first | exact HB.out | apply below_alloc | apply pw_below_drewN | apply below_drew1 | refine below_set ?_ GE120.out | refine below_set ?_ GE121.out) | exact HB.out)) hb); clear BK120; clear BK121; clear HB; have BK120 := n0_; have BK121 := n1_; have HB := n2_; clear n0_ n1_ n2_; (try clear hb); (try clear hb2); (try clear hk); (try clear hi)))
    go_ret
    exact ⟨by first | rfl | (simp [errW_none, errW_some] <;> rfl) | (simp [*, errW_none, errW_some] <;> rfl), by repeat (first | (with_reducible first | exact HB.out | apply below_alloc | apply pw_below_drewN | apply below_drew1 | refine below_set ?_ GE120.out | refine below_set ?_ GE121.out) | exact HB.out)⟩

/-- In which generation two are linked; 0: they are not. -/
def linkP (a b : S31) : Int := if a.f2 = 2 ∨ a.f2 = 3 ∨ b.f2 = 2 ∨ b.f2 = 3 ∨ a.f0 = b.f0 then 0 else match commonL 1 3 [a.f3, b.f3] with
  | some (_, hi) => hi
  | none => 0
theorem span_Best_f (a b : S28) : span_Best.f a.f0 a.f1 b.f0 b.f1 = some (match commonL 1 3 [a, b] with | some (_, hi) => hi | none => 0) := by
  unfold span_Best.f span_Common.f
  cases commonL 1 3 [a, b] <;> rfl
theorem route_counts_f (a : S31) : route_counts.f a.f0 a.f1 a.f2 a.f3.f0 a.f3.f1 a.f4 a.f5 = some (!decide (a.f2 = 2 ∨ a.f2 = 3)) := by
  unfold route_counts.f
  by_cases h : a.f2 = 2
  · simp [h]
  · rw [if_neg h]; by_cases h3 : a.f2 = 3 <;> simp [h, h3]
theorem route_link_f (a b : S31) : route_link.f a.f0 a.f1 a.f2 a.f3.f0 a.f3.f1 a.f4 a.f5 b.f0 b.f1 b.f2 b.f3.f0 b.f3.f1 b.f4 b.f5 = some (linkP a b) := by
  unfold route_link.f linkP
  rw [route_counts_f, route_counts_f]
  by_cases h1 : a.f2 = 2 ∨ a.f2 = 3
  · have : a.f2 = 2 ∨ a.f2 = 3 ∨ b.f2 = 2 ∨ b.f2 = 3 ∨ a.f0 = b.f0 := by omega
    simp [h1, this]
  by_cases h2 : b.f2 = 2 ∨ b.f2 = 3
  · have : a.f2 = 2 ∨ a.f2 = 3 ∨ b.f2 = 2 ∨ b.f2 = 3 ∨ a.f0 = b.f0 := by omega
    simp [h1, h2, this]
  by_cases h3 : a.f0 = b.f0
  · simp [h1, h2, h3]
  · have : ¬ (a.f2 = 2 ∨ a.f2 = 3 ∨ b.f2 = 2 ∨ b.f2 = 3 ∨ a.f0 = b.f0) := by omega
    rw [if_neg this, span_Best_f]
    simp [h1, h2, h3]

/-! ### route_far_1: function 254 -/
/-- One place of what near does: the distances, and who is next. -/
def nearS (l : List S31) (least : Int) (i : Nat) (st : List Int × List Nat) (k : Nat) : List Int × List Nat :=
  if rd st.1 (k : Int) < 0 ∧ least ≤ linkP (rd_T31 l (i : Int)) (rd_T31 l (k : Int)) then (st.1.set k (wrap64 (rd st.1 (i : Int) + 1)), st.2 ++ [k]) else st
def nearP (l : List S31) (least : Int) (i : Nat) (out : List Int) (n : Nat) : List Int × List Nat := (List.range n).foldl (nearS l least i) (out, [])
theorem nearP_succ (l : List S31) (least : Int) (i : Nat) (out : List Int) (n : Nat) : nearP l least i out (n + 1) = nearS l least i (nearP l least i out n) n := by
  unfold nearP; rw [List.range_succ, List.foldl_append]; rfl
theorem nearP_len (l : List S31) (least : Int) (i : Nat) (out : List Int) (n : Nat) : (nearP l least i out n).1.length = out.length ∧ (nearP l least i out n).2.length ≤ n := by
  induction n with
  | zero => exact ⟨rfl, Nat.le_refl _⟩
  | succ n ih =>
    rw [nearP_succ]; unfold nearS
    split
    · simp; omega
    · omega
set_option maxHeartbeats 8000000 in
set_option maxRecDepth 100000 in
theorem far1.calls (w0 W : World) (g3 g7 g5 gO : Nat) (G3 : w0.heap.size ≤ g3) (G7 : w0.heap.size ≤ g7) (G5 : w0.heap.size ≤ g5) (GO : w0.heap.size ≤ gO) (N5 : g5 ≠ gO) (A : Option Addr) (c : Nat) (l : List S31)
    (hl : Kd.C k31 w0 A l.length l) (hlc : l.length ≤ c) (hlen : l.length < 17592186044416) (least : Int) (out : List Int) (hout : out.length = l.length) (i : Nat) (hi : i < l.length) (hB : Below w0.heap.size w0 W)
    (h3 : W.heap[g3]? = some (.cells #[.slice A l.length c] 22 (0, 0))) (h7 : W.heap[g7]? = some (.cells #[.slice (some ⟨gO, 0, none⟩) l.length l.length] 36 (0, 0))) (h5 : W.heap[g5]? = some (.cells #[.int .i64 least] 3 (0, 0)))
    (hO : W.heap[gO]? = some (.cells (ints out) 3 (0, 0))) :
    Calls Try.prog 254 #[.int .i64 i, .pointer (some ⟨g3, 0, none⟩), .pointer (some ⟨g7, 0, none⟩), .pointer (some ⟨g5, 0, none⟩)] W fun e W' => ∃ v : Value, e = .returned v ∧
      Kd.R (Kd.int .i64) 3 W' W.heap.size (fun _ => True) v (natsI (nearP l least i out l.length).2) ∧ W'.heap[gO]? = some (.cells (ints (nearP l least i out l.length).1) 3 (0, 0)) ∧ Below w0.heap.size w0 W' ∧ KeepBut W W' gO none := by
  have HL := Aside0.mk hl
  have HB := Aside0.mk hB
  have H3 := Aside0.mk h3
  have H7 := Aside0.mk h7
  have H5 := Aside0.mk h5
  have HO := Aside0.mk hO
  have HOUT := Aside0.mk hout
  have hu31 := Try.underlying31
  have c3 : W.cell? ⟨g3, 0, none⟩ = some (.slice A l.length c) := (blk_cell h3 0).trans rfl
  have N3 : g3 ≠ gO := blk_ne h3 hO (by decide)
  have N7 : g7 ≠ gO := blk_ne h7 hO (by decide)
  clear hl hB h3 h7 h5 hO hout
  go_enter Try.func254, Try.ntmps254
  go_wp2
  go_loopw [6, 10] (fun v6 v10 wr => ∃ k : Nat, k ≤ l.length ∧ v10 = .int .i64 k ∧ Aside0 (Kd.R (Kd.int .i64) 3 wr W.heap.size (fun _ => True) v6 (natsI (nearP l least i out k).2)) ∧ Aside0 (wr.heap[gO]? = some (.cells (ints (nearP l least i out k).1) 3 (0, 0))) ∧ Aside0 (Below w0.heap.size w0 wr) ∧ Aside0 (KeepBut W wr gO none)) (fun _ v10 _ => l.length - (intOf v10).toNat)
  case atStart => exact ⟨0, Nat.zero_le _, rfl, ⟨Kd.R_nil _ _ _ _ _⟩, HO, HB, ⟨KeepBut.refl _ _ _⟩⟩
  case round =>
    obtain ⟨k, hk, rfl, HR1, HO1, HB1, HK1⟩ := hrel
    by_cases hlt : k < l.length
    · obtain ⟨st, hst⟩ : ∃ st, st = nearP l least i out k := ⟨_, rfl⟩
      have hln := nearP_len l least i out k
      rw [← hst] at HR1 HO1 hln
      rw [HOUT.out] at hln
      have HST := Aside0.mk hst
      clear hst
      have hb3 := HK1.out.blk H3.out N3 (by simp)
      have hb7 := HK1.out.blk H7.out N7 (by simp)
      have hb5 := HK1.out.blk H5.out N5 (by simp)
      have d3 : wr.cell? ⟨g3, 0, none⟩ = some (.slice A l.length c) := (blk_cell hb3 0).trans rfl
      have d7 : wr.cell? ⟨g7, 0, none⟩ = some (.slice (some ⟨gO, 0, none⟩) l.length l.length) := (blk_cell hb7 0).trans rfl
      have d5 : wr.cell? ⟨g5, 0, none⟩ = some (.int .i64 least) := (blk_cell hb5 0).trans rfl
      have dk := ints_cell HO1.out k (by omega)
      have di := ints_cell HO1.out i (by omega)
      have fk := blk_frozen HO1.out k
      clear hb3 hb7 hb5
      by_cases hn : rd st.1 (k : Int) < 0
      · have hn' : decide (rd st.1 (k : Int) < 0) = true := decide_eq_true hn
        obtain ⟨ad, A6, a6, e, x0, x1, x2, x3, x4, x5, x6, xl6, xi6⟩ := at_T31 (Kd.C_below HL.out HB1.out) (i : Int) (by omega) (by omega)
        cases e
        obtain ⟨ad2, B6, b6, e, y0, y1, y2, y3, y4, y5, y6, yl6, yi6⟩ := at_T31 (Kd.C_below HL.out HB1.out) (k : Int) (by omega) (by omega)
        cases e
        simp only [Int.toNat_natCast] at x0 x1 x2 x3 x4 x5 x6 y0 y1 y2 y3 y4 y5 y6
        obtain ⟨a, ha⟩ : ∃ a, a = rd_T31 l (i : Int) := ⟨_, rfl⟩
        obtain ⟨b, hb⟩ : ∃ b, b = rd_T31 l (k : Int) := ⟨_, rfl⟩
        rw [← ha] at x0 x1 x2 x3 x4 x5 x6 xl6 xi6
        rw [← hb] at y0 y1 y2 y3 y4 y5 y6 yl6 yi6
        have XL := Aside0.mk xl6
        have XI := Aside0.mk xi6
        have YL := Aside0.mk yl6
        have YI := Aside0.mk yi6
        have EA := Aside0.mk ha
        have EB := Aside0.mk hb
        clear xl6 xi6 yl6 yi6 ha hb
        have HLK := Aside0.mk (route_link_f a b)
        have hbw : Blw wr wr := Below.refl wr.heap.size wr
        go_wp2
        go_region_held3 (fun w' => w'.cell? ⟨g7, 0, none⟩ = some (.slice (some ⟨gO, 0, none⟩) l.length l.length) ∧ w'.cell? ⟨gO, k, none⟩ = some (.int .i64 (rd st.1 (k : Int))) ∧ w'.cell? ⟨g3, 0, none⟩ = some (.slice (some ad) l.length c) ∧ w'.cell? ⟨g5, 0, none⟩ = some (.int .i64 least) ∧
            w'.cell? (ad.add (i * 7)) = some (.int .i64 a.f0) ∧ w'.cell? ⟨(ad.add (i * 7)).block, (ad.add (i * 7)).off + 1, none⟩ = some (.int .i64 a.f1) ∧ w'.cell? ⟨(ad.add (i * 7)).block, (ad.add (i * 7)).off + 2, none⟩ = some (.int .i64 a.f2) ∧ w'.cell? ⟨(ad.add (i * 7)).block, (ad.add (i * 7)).off + 3, none⟩ = some (.int .i64 a.f3.f0) ∧ w'.cell? ⟨(ad.add (i * 7)).block, (ad.add (i * 7)).off + 4, none⟩ = some (.int .i64 a.f3.f1) ∧ w'.cell? ⟨(ad.add (i * 7)).block, (ad.add (i * 7)).off + 5, none⟩ = some (.bool a.f4) ∧ w'.cell? ⟨(ad.add (i * 7)).block, (ad.add (i * 7)).off + 6, none⟩ = some (.slice A6 a.f5.length a6) ∧
            w'.cell? (ad.add (k * 7)) = some (.int .i64 b.f0) ∧ w'.cell? ⟨(ad.add (k * 7)).block, (ad.add (k * 7)).off + 1, none⟩ = some (.int .i64 b.f1) ∧ w'.cell? ⟨(ad.add (k * 7)).block, (ad.add (k * 7)).off + 2, none⟩ = some (.int .i64 b.f2) ∧ w'.cell? ⟨(ad.add (k * 7)).block, (ad.add (k * 7)).off + 3, none⟩ = some (.int .i64 b.f3.f0) ∧ w'.cell? ⟨(ad.add (k * 7)).block, (ad.add (k * 7)).off + 4, none⟩ = some (.int .i64 b.f3.f1) ∧ w'.cell? ⟨(ad.add (k * 7)).block, (ad.add (k * 7)).off + 5, none⟩ = some (.bool b.f4) ∧ w'.cell? ⟨(ad.add (k * 7)).block, (ad.add (k * 7)).off + 6, none⟩ = some (.slice B6 b.f5.length b6) ∧
            Blw wr w')
          (first
            | go_keep
            | (go_split_ands
               refine ⟨?_, ?_, ?_, ?_, ?_, ?_, ?_, ?_, ?_, ?_, ?_, ?_, ?_, ?_, ?_, ?_, ?_, ?_, ?_⟩
               all_goals first
                 | exact pw_cell_below hb2 (by assumption)
                 | exact Blw.step (by assumption) hb2
                 | go_keep))
          ((go_at_call 134
            (with_reducible refine (route_link.calls a.f0 a.f1 a.f2 a.f3.f0 a.f3.f1 a.f4 A6 a6 a.f5 b.f0 b.f1 b.f2 b.f3.f0 b.f3.f1 b.f4 B6 b6 b.f5 (linkP a b) _ ?q1 XL.out ?q2 YL.out HLK.out).mono ?_)
            (case q1 => exact Kd.C_below XI.out (Blw.out (by first | assumption | (rw [Blw_drew]; assumption))))
            (case q2 => exact Kd.C_below YI.out (Blw.out (by first | assumption | (rw [Blw_drew]; assumption))))
            rintro e w2 ⟨rfl, hb2⟩))
        have hB2 : Blw wr w2 := below_of_drew hb2
        have hS : nearP l least i out (k + 1) = nearS l least i st k := by rw [nearP_succ, ← HST.out]
        unfold nearS at hS
        rw [← EA.out, ← EB.out] at hS
        have HB2 := Aside0.mk hB2.out
        have e7 := pw_cell_below hB2.out d7
        have ek := pw_cell_below hB2.out dk
        have ei := pw_cell_below hB2.out di
        have fk2 : w2.frozen? ⟨gO, k, none⟩ = false := (hB2.out.frozen (blk_lt HO1.out)).trans fk
        have R2 := Aside0.mk (Kd.R_below HR1.out hB2.out)
        have O2 := Aside0.mk (blk_below HO1.out hB2.out)
        have K2 := Aside0.mk (HK1.out.trans (KeepBut.of_below hB2.out gO none) (.inl rfl))
        have B2 := Aside0.mk (below_then HB1.out HB1.out.size hB2.out)
        have hgo := blk_lt HO.out
        have hsz := HK1.out.1
        have hsz2 := hB2.out.size
        clear hB2 d3 d5 d7 dk di fk hbw x0 x1 x2 x3 x4 x5 x6 y0 y1 y2 y3 y4 y5 y6
        by_cases hll : least ≤ linkP a b
        · have hl' : decide (least ≤ linkP a b) = true := decide_eq_true hll
          rw [if_pos ⟨hn, hll⟩] at hS
          have HS := Aside0.mk hS
          clear hS hn
          go_wp2
          go_region
          obtain ⟨wv, hwv⟩ : ∃ wv, wv = wrap64 (rd st.1 (i : Int) + 1) := ⟨_, rfl⟩
          rw [← hwv] at HS ⊢
          clear hwv
          obtain ⟨wc, hwc⟩ : ∃ wc, wc = (w2.setCell ⟨gO, k, none⟩ (.int .i64 wv)).drew := ⟨_, rfl⟩
          have RC := Aside0.mk (show Kd.R (Kd.int .i64) 3 wc W.heap.size (fun _ => True) u6 (natsI st.2) by rw [hwc]; exact Kd.R_drew (R_set1 R2.out hgo _))
          have OC := Aside0.mk (show wc.heap[gO]? = some (.cells (ints (st.1.set k wv)) 3 (0, 0)) by rw [hwc]; exact blk_drew (ints_set O2.out k wv))
          have KC := Aside0.mk (show KeepBut W wc gO none by rw [hwc]; exact K2.out.set_ _ _)
          have BC := Aside0.mk (show Below w0.heap.size w0 wc by rw [hwc]; exact (B2.out.setCell GO _).drew)
          have hszc : W.heap.size ≤ wc.heap.size := KC.out.1
          rw [← hwc]
          clear hwc R2 O2 K2 B2 fk2 e7 ek ei HB2
          go_wp2_with ((with_reducible refine gate_builtin (b := .append) (xs := #[.tmp 39, .tmp 41]) rfl ?_); (refine Kd.R_append (Kd.int .i64) (w0 := wc) W.heap.size rfl (.tmp 39) (.tmp 41) 36 3 (.int .i64 0) 8 rfl Try.underlying36 info3 rfl (by decide) (by omega) u6 (natsI st.2) (k : Int) [.int .i64 (k : Int)] (fun _ => True) (fun _ => False) rfl rfl ?aP (fun _ hk => hk.elim) ?aF ?aO ?aB ?aS ?aL ?_; (case aP => exact rfl); (case aF => exact (fun _ _ => trivial)); (case aO => exact RC.out); (case aB => exact Below.refl _ _); (case aS => exact hszc); (case aL => rw [natsI_len]; omega); intro v1 w1 ho hb hg hat))
          have hne : some gO ≠ u6.ownBlock := fun h => by have := Kd.R_base RC.out gO h.symm; omega
          go_roundw
          case rel => exact ⟨k + 1, hlt, by go_num, ⟨by rw [HS.out, natsI_snoc]; exact ho⟩, ⟨by rw [HS.out]; exact blk_grown OC.out hg hne⟩, ⟨BC.out.grown hg BC.out.size (fun j hj => by have := Kd.R_base RC.out j hj; have := HB.out.size; omega)⟩, ⟨KC.out.trans (KeepBut.of_grown hg gO) (Kd.R_base2 RC.out)⟩⟩
          case measure => simp [intOf]; omega
        · have hl' : decide (least ≤ linkP a b) = false := decide_eq_false hll
          rw [if_neg (fun h => hll h.2)] at hS
          have HS := Aside0.mk hS
          clear hS hn
          go_wp2
          go_roundw
          case rel => exact ⟨k + 1, hlt, by go_num, ⟨by rw [HS.out]; exact R2.out⟩, ⟨by rw [HS.out]; exact O2.out⟩, B2, K2⟩
          case measure => simp [intOf]; omega
      · have hn' : decide (rd st.1 (k : Int) < 0) = false := decide_eq_false hn
        go_wp2
        have hS : nearP l least i out (k + 1) = nearS l least i st k := by rw [nearP_succ, ← HST.out]
        unfold nearS at hS
        rw [if_neg (fun h => by omega)] at hS
        have HS := Aside0.mk hS
        clear hS hn
        go_quiet (fail)
        go_wp2
        go_roundw
        case rel => exact ⟨k + 1, hlt, by go_num, ⟨by rw [HS.out]; exact Kd.R_drewN HR1.out _⟩, ⟨by rw [HS.out]; exact HO1.out⟩, ⟨pw_below_drewN HB1.out _⟩, ⟨HK1.out⟩⟩
        case measure => simp [intOf]; omega
    · obtain rfl : k = l.length := by omega
      go_wp2
      go_ret
      exact ⟨_, rfl, HR1.out, HO1.out, HB1.out, HK1.out⟩


/-! ### route_joined: function 255 -/
def route_joined.l0 : Nat → List Int → List (List Int) → Int → Int → Option (List Int)
  | 0, _, _, _, _ => none
  | k + 1, x3, x6, x7, x8 => if x8 < x7 then (if 0 ≤ x8 then (if x8 < (x6.length : Int) then (if x3.length + (rd_L10 x6 x8).length < 17592186044416 then (route_joined.l0 k (x3 ++ (rd_L10 x6 x8)) x6 x7 (wrap64 (x8 + 1))) else (none)) else (none)) else (none)) else (some x3)
def route_joined.f (k : Nat) (l0 : List (List Int)) : Option (List Int) := route_joined.l0 k ([] : List Int) l0 (l0.length : Int) 0
theorem route_joined.mono_l : ∀ k, (∀ y0 y1 y2 y3, LeO (route_joined.l0 k y0 y1 y2 y3) (route_joined.l0 (k + 1) y0 y1 y2 y3))
  | 0 => fun _ _ _ _ r h => by simp [route_joined.l0] at h
  | k + 1 => by
    have ih0 := route_joined.mono_l k
    · intro y0 y1 y2 y3
      unfold route_joined.l0
      repeat' first
      | (with_reducible exact ih0 _ _ _ _)
      | (with_reducible exact LeO.refl _)
      | (with_reducible exact LeO.none _)
      | (with_reducible refine LeO.ite ?_ ?_)
      | (with_reducible refine LeO.bind ?_ (fun _ => ?_))
      | exact ih0 _ _ _ _
      | exact LeO.none _
      | refine LeO.ite ?_ ?_
      | refine LeO.bind ?_ (fun _ => ?_)
theorem route_joined.mono : ∀ a0 k, LeO (route_joined.f k a0) (route_joined.f (k + 1) a0) := by
  intro a0 k
  have ih0 := route_joined.mono_l k
  unfold route_joined.f
  repeat' first
      | (with_reducible exact ih0 _ _ _ _)
      | (with_reducible exact LeO.refl _)
      | (with_reducible exact LeO.none _)
      | (with_reducible refine LeO.ite ?_ ?_)
      | (with_reducible refine LeO.bind ?_ (fun _ => ?_))
      | exact ih0 _ _ _ _
      | exact LeO.none _
      | refine LeO.ite ?_ ?_
      | refine LeO.bind ?_ (fun _ => ?_)
set_option maxHeartbeats 8000000 in
set_option maxRecDepth 100000 in
theorem route_joined.calls (k : Nat) (A0 : Option Addr) (c0 : Nat) (l0 : List (List Int)) (r : List Int) (w : World) (hr0 : Kd.C (Kd.slice 3 (Kd.int .i64)) w A0 l0.length l0) (hc0 : l0.length ≤ c0) (h : route_joined.f k l0 = some r) :
    Calls Try.prog 255 #[.slice A0 l0.length c0] w fun e w' => ∃ v0_ : Value, e = .returned (v0_) ∧ Kd.R (Kd.int .i64) 3 w' w.heap.size (fun _ => True) v0_ r ∧ Below w.heap.size w w' := by
  have HR0 := Aside0.mk hr0
  have HC0 := Aside0.mk hc0
  clear hr0 hc0
  have HB := Aside0.mk (Below.refl w.heap.size w)
  have H : (route_joined.l0 k ([] : List Int) l0 (l0.length : Int) 0) = some r := h
  clear h
  have H' := Aside0.mk H
  clear H
  go_enter Try.func255, Try.ntmps255
  go_wp2
  go_loopg [3, 8] k (fun kq v3 v8 w' => ∃ (x3_1 : List Int) (x8_1 : Int), v8 = .int .i64 x8_1 ∧ Aside0 (route_joined.l0 kq x3_1 l0 (l0.length : Int) x8_1 = some r) ∧ Aside0 (kq ≤ k) ∧ Aside0 (Kd.R (Kd.int .i64) 3 w' w.heap.size (fun _ => True) v3 x3_1) ∧ Aside0 (Below w.heap.size w w'))
  case atStart => exact ⟨(([] : List Int)), (0), (by first | rfl | (simp; done) | (simp [*]; done)), H', ⟨Nat.le_refl _⟩, ⟨by first | exact Kd.R_nil _ _ _ _ _ | exact Kd.N_nil _ _ _ _ _ | exact Kd.V_nil _ _ _ _ _ | exact Kd.Q_nil _ _ _ _ _ | exact Kd.S_nil _ _ _ _ _⟩, ⟨by repeat (first | (with_reducible first | exact HB.out | apply below_alloc | apply pw_below_drewN | apply below_drew1) | exact HB.out)⟩⟩
  case round =>
    clear H'
    obtain ⟨x3_1, x8_1, rfl, HA, HK1, HO_3, HB⟩ := hrel
    cases gk with
    | zero => exact absurd HA.out (by simp [route_joined.l0])
    | succ k1 =>
      have H := HA.out
      clear HA
      simp only [route_joined.l0] at H
      by_cases c2 : x8_1 < (l0.length : Int)
      · rw [if_pos c2] at H
        have c2b0 : decide (x8_1 < (l0.length : Int)) = true := decide_eq_true c2
        clear c2
        by_cases c3 : 0 ≤ x8_1
        · rw [if_pos c3] at H
          have c3b0 : decide (0 ≤ x8_1) = true := decide_eq_true c3
          clear c3
          by_cases c4 : x8_1 < (l0.length : Int)
          · rw [if_pos c4] at H
            have c4b0 : decide (x8_1 < (l0.length : Int)) = true := decide_eq_true c4
            clear c4
            by_cases c5 : x3_1.length + (rd_L10 l0 x8_1).length < 17592186044416
            · rw [if_pos c5] at H
              have LMc5 := Aside0.mk c5
              clear c5
              obtain ⟨y126, hy126⟩ : ∃ y_ : List Int, y_ = (x3_1 ++ (rd_L10 l0 x8_1)) := ⟨_, rfl⟩
              replace H : (route_joined.l0 k1 y126 l0 (l0.length : Int) (wrap64 (x8_1 + 1))) = some r := by first | (rw [hy126]; with_reducible exact H) | (have H2_ := (Option.bind_some _ _).symm.trans H; rw [hy126]; with_reducible exact H2_) | (have H2_ := (Option.bind_some _ _).symm.trans H; with_reducible exact H2_) | with_reducible exact H | (rw [hy126]; exact H) | exact H
              have Ny126 := Aside0.mk hy126
              clear hy126
              have H' := Aside0.mk H
              clear H
              have p125 : 0 ≤ (x8_1 : Int) := of_decide_eq_true (by first | (with_reducible assumption) | assumption)
              have q125 : x8_1 < (l0.length : Int) := of_decide_eq_true (by first | (with_reducible assumption) | assumption)
              obtain ⟨ad125, A125_0, c125_0, e125, hx125_0, hl125_0, hi125_0⟩ := at_L10 HR0.out x8_1 p125 q125
              cases e125
              replace hx125_0 := (HB.out.cell (World.block_lt_of_cell? w _ hx125_0)).trans hx125_0
              have HR125_0 := Aside0.mk hi125_0
              have HC125_0 := Aside0.mk hl125_0
              clear hi125_0 hl125_0
              replace p125 := eq_true p125
              replace q125 := eq_true q125
              go_wp2_with (first | ((with_reducible refine gate_builtin (b := .append) (xs := #[.tmp 12, .tmp 13]) rfl ?_); at_builtin; refine Kd.R_append_rows (Kd.int .i64) (w0 := w) w.heap.size rfl (.tmp 12) (.tmp 13) 36 3 (.int .i64 0) 8 rfl Try.underlying36 info3 rfl (by decide) (by omega) u3 x3_1 (rd_L10 l0 x8_1) _ _ _ (fun _ => True) (fun _ => False) rfl rfl ?aO ?aR (fun _ _ h => h) (fun _ h => h.elim) ?aF ?aB ?aS ?aL ?_; (case aR => repeat (first | exact (Kd.C_below HR125_0.out HB.out) | (with_reducible refine Kd.C_alloc ?_ _) | (with_reducible refine Kd.C_drewN ?_ _) | (with_reducible refine Kd.C_drew ?_))); (case aB => exact (by repeat (first | (with_reducible first | exact HB.out | apply below_alloc | apply pw_below_drewN | apply below_drew1) | exact HB.out))); (case aF => exact (fun _ _ => trivial)); (case aO => exact (by (with_reducible repeat (first | apply Kd.R_alloc | apply Kd.R_drewN | apply Kd.R_drew)); exact HO_3.out)); (case aS => exact (below_size (by repeat (first | (with_reducible first | exact HB.out | apply below_alloc | apply pw_below_drewN | apply below_drew1) | exact HB.out)))); (case aL => have := LMc5.out; omega); intro v127 w6 ho hb hg hat; rw [← Ny126.out] at ho; have n0_ := Aside0.mk (hb); have n1_ := Aside0.mk (ho); clear HB; clear HO_3; have HB := n0_; have HO128 := n1_; clear n0_ n1_; clear ho hb hg hat))
              go_roundg k1
              case measure => have := HK1.out; omega
              case rel => exact ⟨(y126), (wrap64 (x8_1 + 1)), (by first | rfl | (simp; done) | (simp [*]; done)), H', ⟨by have := HK1.out; omega⟩, ⟨by (with_reducible repeat (first | apply Kd.R_alloc | apply Kd.R_drewN | apply Kd.R_drew)); exact HO128.out⟩, ⟨by repeat (first | (with_reducible first | exact HB.out | apply below_alloc | apply pw_below_drewN | apply below_drew1) | exact HB.out)⟩⟩
            · rw [if_neg c5] at H
              exact absurd H (by simp)
          · rw [if_neg c4] at H
            exact absurd H (by simp)
        · rw [if_neg c3] at H
          exact absurd H (by simp)
      · rw [if_neg c2] at H
        have c2b0 : decide (x8_1 < (l0.length : Int)) = false := decide_eq_false c2
        clear c2
        obtain rfl := Option.some.inj H
        go_wp2
        go_ret
        exact ⟨_, by first | rfl | (simp [errW_none, errW_some] <;> rfl) | (simp [*, errW_none, errW_some] <;> rfl), by (with_reducible repeat (first | apply Kd.R_alloc | apply Kd.R_drewN | apply Kd.R_drew)); exact HO_3.out, by repeat (first | (with_reducible first | exact HB.out | apply below_alloc | apply pw_below_drewN | apply below_drew1) | exact HB.out)⟩

/-! ### route_far: function 210 -/
/-- One row of far: the distances, and who is next; none: too long for memory. -/
def rowS (l : List S31) (least : Int) : List Nat → List Int → List Nat → Option (List Int × List Nat)
  | [], out, next => some (out, next)
  | i :: is, out, next => let r := nearP l least i out l.length; if next.length + r.2.length < 17592186044416 then rowS l least is r.1 (next ++ r.2) else none
def farL (l : List S31) (least : Int) : Nat → List Int → List Nat → Option (List Int)
  | 0, _, _ => none
  | k + 1, out, row => if row = [] then some out else (rowS l least row out []).bind fun r => farL l least k r.1 r.2
def route_far.f (k : Nat) (l0 : List S31) (a1 a2 : Int) : Option (List Int) :=
  if 0 ≤ a1 ∧ a1 < l0.length ∧ l0.length < 17592186044416 then farL l0 a2 k ((List.replicate l0.length (-1)).set a1.toNat 0) [a1.toNat] else none
theorem farL_mono (l : List S31) (least : Int) : ∀ (k : Nat) (out : List Int) (row : List Nat), LeO (farL l least k out row) (farL l least (k + 1) out row)
  | 0, _, _ => LeO.none _
  | k + 1, out, row => by
    rw [farL, farL]
    exact LeO.ite (LeO.refl _) (LeO.bind (LeO.refl _) (fun r => farL_mono l least k r.1 r.2))
theorem route_far.mono : ∀ a0 a1 a2 k, LeO (route_far.f k a0 a1 a2) (route_far.f (k + 1) a0 a1 a2) := fun a0 a1 a2 k => LeO.ite (farL_mono _ _ _ _ _) (LeO.refl _)
theorem nearP_lt (l : List S31) (least : Int) (i : Nat) (out : List Int) (n : Nat) : ∀ x ∈ (nearP l least i out n).2, x < n := by
  induction n with
  | zero => intro x hx; simp [nearP] at hx
  | succ n ih =>
    rw [nearP_succ]; unfold nearS
    split
    · intro x hx
      rcases List.mem_append.1 hx with h | h
      · have := ih x h; omega
      · simp at h; omega
    · intro x hx; have := ih x hx; omega
theorem rowS_props (l : List S31) (least : Int) : ∀ (row : List Nat) (out : List Int) (next : List Nat) (r : List Int × List Nat), (∀ x ∈ next, x < l.length) → rowS l least row out next = some r → r.1.length = out.length ∧ ∀ x ∈ r.2, x < l.length := by
  intro row
  induction row with
  | nil => intro out next r hn h; obtain rfl := Option.some.inj h; exact ⟨rfl, hn⟩
  | cons i is ih =>
    intro out next r hn h
    simp only [rowS] at h
    split at h
    · obtain ⟨h1, h2⟩ := ih _ _ r (fun x hx => by
        rcases List.mem_append.1 hx with hx | hx
        · exact hn x hx
        · exact nearP_lt _ _ _ _ _ x hx) h
      exact ⟨h1.trans (nearP_len _ _ _ _ _).1, h2⟩
    · cases h
theorem R_ints {w : World} {g base : Nat} {xs : List Int} {n : Nat} (h : w.heap[g]? = some (.cells (ints xs) 3 (0, 0))) (hn : xs.length = n) (hb : base ≤ g) (hm : n ≤ 9223372036854775807) : Kd.R (Kd.int .i64) 3 w base (fun _ => True) (.slice (some ⟨g, 0, none⟩) n n) xs := by
  subst hn
  exact Kd.R_of_own (enc := Value.int .i64) ⟨by simp [encs], .inr ⟨g, xs.length, ints xs, rfl, hb, h, Nat.le_refl _, by simpa [maxLen] using hm, by simp [ints], by simp [ints, encs, List.take_of_length_le]⟩⟩ (fun _ _ => trivial)
theorem reads_of_C_int {w : World} {A : Option Addr} {n : Nat} {xs : List Int} (h : (Kd.int .i64).C w A n xs) : xs.length = n ∧ n ≤ 9223372036854775807 ∧ ∀ j, j < n → ∃ ad, A = some ad ∧ w.cell? (ad.add j) = some (.int .i64 (xs.getD j 0)) := by
  have h2 := Kd.reads_of_C (enc := Value.int .i64) (d := (0 : Int)) (h1 := fun _ => rfl) h
  refine ⟨h2.1, h2.2.1, fun j hj => ?_⟩
  obtain ⟨ad, ha, hc⟩ := h2.2.2 (by omega)
  exact ⟨ad, ha, hc j hj⟩
theorem natsI_append (xs ys : List Nat) : natsI (xs ++ ys) = natsI xs ++ natsI ys := by simp [natsI]
theorem natsI_at (xs : List Nat) (j : Nat) (h : j < xs.length) : (natsI xs).getD j 0 = (xs[j] : Int) := by
  simp [natsI, List.getD_eq_getElem?_getD, List.getElem?_eq_getElem h]
theorem R_keep1 {α : Type} {d : Kd α} {e : Nat} {w w1 : World} {base : Nat} {v : Value} {xs : List α} (h : Kd.R d e w base (fun _ => True) v xs) {g : Nat} (hk : KeepBut w w1 g none) (hg : g < base) : Kd.R d e w1 base (fun _ => True) v xs :=
  Kd.R_mono (Kd.R_keep (Kd.R_bound h) hk (fun k hk => by have := hk.2.1; omega)) (fun _ _ => trivial)
theorem joined2.calls (g : Nat) (W : World) (xs ys : List Int) (A1 A2 : Option Addr) (c1 c2 : Nat) (h1 : xs.length ≤ c1) (h2 : ys.length ≤ c2) (C1 : (Kd.int .i64).C W A1 xs.length xs) (C2 : (Kd.int .i64).C W A2 ys.length ys)
    (hb : W.heap[g]? = some (.cells #[.slice A1 xs.length c1, .slice A2 ys.length c2] 36 (0, 0))) (hlim : xs.length + ys.length < 17592186044416) :
    Calls Try.prog 255 #[.slice (some ⟨g, 0, none⟩) 2 2] W fun e w' => ∃ v, e = .returned v ∧ Kd.R (Kd.int .i64) 3 w' W.heap.size (fun _ => True) v (xs ++ ys) ∧ Below W.heap.size W w' := by
  refine route_joined.calls 3 (some ⟨g, 0, none⟩) 2 [xs, ys] (xs ++ ys) W ?_ (Nat.le_refl _) ?_
  · refine ⟨rfl, by simp, fun _ => ⟨⟨g, 0, none⟩, rfl, fun j p hj => ?_⟩⟩
    match j, hj with
    | 0, hj =>
      obtain rfl : xs = p := by simpa using hj
      refine ⟨[.slice A1 xs.length c1], rfl, ⟨A1, c1, rfl, h1, C1⟩, fun i u hu => ?_⟩
      match i, hu with
      | 0, hu => simp at hu; subst hu; exact (blk_cell hb 0).trans rfl
    | 1, hj =>
      obtain rfl : ys = p := by simpa using hj
      refine ⟨[.slice A2 ys.length c2], rfl, ⟨A2, c2, rfl, h2, C2⟩, fun i u hu => ?_⟩
      match i, hu with
      | 0, hu => simp at hu; subst hu; exact (blk_cell hb 1).trans rfl
  · have e0 : rd_L10 [xs, ys] 0 = xs := rfl
    have e1 : rd_L10 [xs, ys] 1 = ys := rfl
    simp [route_joined.f, route_joined.l0, w64, e0, e1, show xs.length < 17592186044416 by omega, hlim]
theorem madeCells_ints (n : Nat) : madeCells #[.int .i64 0] n = ints (List.replicate n 0) := by
  apply Array.ext'
  apply List.ext_getElem
  · simp [ints, madeCells]
  · intro i h1 h2
    simp [ints, madeCells, Nat.mod_one]
theorem rep_step (n j : Nat) (h : j < n) : (List.replicate j (-1 : Int) ++ List.replicate (n - j) 0).set j (-1) = List.replicate (j + 1) (-1) ++ List.replicate (n - (j + 1)) 0 := by
  rw [show n - j = (n - (j + 1)) + 1 by omega, List.replicate_succ, List.replicate_succ', List.set_append_right _ _ (by simp)]
  simp
set_option maxHeartbeats 8000000 in
set_option maxRecDepth 100000 in
theorem route_far.calls (k : Nat) (A0 : Option Addr) (c0 : Nat) (l0 : List S31) (a1 a2 : Int) (r : List Int) (w : World) (hr0 : Kd.C k31 w A0 l0.length l0) (hc0 : l0.length ≤ c0) (h : route_far.f k l0 a1 a2 = some r) :
    Calls Try.prog 210 #[.slice A0 l0.length c0, .int .i64 a1, .int .i64 a2] w fun e w' => ∃ v0_ : Value, e = .returned v0_ ∧ Kd.R (Kd.int .i64) 3 w' w.heap.size (fun _ => True) v0_ r ∧ Below w.heap.size w w' := by
  have HR := Aside0.mk hr0
  unfold route_far.f at h
  by_cases hc : 0 ≤ a1 ∧ a1 < l0.length ∧ l0.length < 17592186044416
  rotate_left
  · rw [if_neg hc] at h; exact absurd h (by simp)
  rw [if_pos hc] at h
  obtain ⟨h0, h1, h2⟩ := hc
  obtain ⟨a, rfl⟩ : ∃ a : Nat, a1 = (a : Int) := ⟨a1.toNat, by omega⟩
  simp only [Int.toNat_natCast] at h
  have HA := Aside0.mk h
  clear h hr0 h0
  have ha : a < l0.length := by omega
  have hmf : ∀ (fn : Fn) (first cap : Array Value) (w : World), (Instr.makeFunc fn first cap).run Try.prog w = .ok (.func fn first cap) w := fun _ _ _ _ => rfl
  have hmk := print_make (P := Try.prog) 36 3 .i64 8 Try.underlying36 info3 (by decide) l0.length (by omega)
  obtain ⟨n, hn⟩ : ∃ n, n = l0.length := ⟨_, rfl⟩
  have FO0 : ∀ o1 o2 o3, ((((w.alloc o1).alloc o2).alloc (.cells (ints (List.replicate n 0)) 3)).alloc o3).heap[w.heap.size + 1 + 1]? = some (.cells (ints (List.replicate n 0)) 3 (0, 0)) := fun o1 o2 o3 => blk_alloc (by have := blk_new ((w.alloc o1).alloc o2) (.cells (ints (List.replicate n 0)) 3); simpa using this) _
  have F70 : ∀ o1 o2 o3 (cs : Array Value), ((((w.alloc o1).alloc o2).alloc o3).alloc (.cells cs 36)).heap[w.heap.size + 1 + 1 + 1]? = some (.cells cs 36 (0, 0)) := fun o1 o2 o3 cs => by have := blk_new (((w.alloc o1).alloc o2).alloc o3) (.cells cs 36); simpa using this
  have F50 : ∀ o1 o3 o4 (cs : Array Value), ((((w.alloc o1).alloc (.cells cs 3)).alloc o3).alloc o4).heap[w.heap.size + 1]? = some (.cells cs 3 (0, 0)) := fun o1 o3 o4 cs => blk_alloc (blk_alloc (by have := blk_new (w.alloc o1) (.cells cs 3); simpa using this) _) _
  have F30 : ∀ o2 o3 o4 (cs : Array Value), ((((w.alloc (.cells cs 22)).alloc o2).alloc o3).alloc o4).heap[w.heap.size]? = some (.cells cs 22 (0, 0)) := fun o2 o3 o4 cs => blk_alloc (blk_alloc (blk_alloc (blk_new _ _) _) _) _
  rw [madeCells_ints, ← hn] at hmk
  have FF := Aside0.mk (And.intro FO0 (And.intro F70 (And.intro F50 F30)))
  clear FO0 F70 F50 F30
  have HN := Aside0.mk hn
  rw [← hn] at HR hc0 h1 h2 ha
  go_enter Try.func210, Try.ntmps210
  rw [← hn]
  clear hn
  go_wp2
  go_loopw [19] (fun v19 wr => ∃ k : Nat, k ≤ n ∧ v19 = .int .i64 k ∧ Aside0 (wr.heap[w.heap.size + 1 + 1]? = some (.cells (ints (List.replicate k (-1) ++ List.replicate (n - k) 0)) 3 (0, 0))) ∧ Aside0 (wr.heap[w.heap.size + 1 + 1 + 1]? = some (.cells #[.slice (some ⟨w.heap.size + 1 + 1, 0, none⟩) n n] 36 (0, 0))) ∧
      Aside0 (wr.heap[w.heap.size + 1]? = some (.cells #[.int .i64 a2] 3 (0, 0))) ∧ Aside0 (wr.heap[w.heap.size]? = some (.cells #[.slice A0 n c0] 22 (0, 0))) ∧ Aside0 (Below w.heap.size w wr)) (fun v19 _ => n - (intOf v19).toNat)
  case atStart => exact ⟨0, Nat.zero_le _, rfl, ⟨by simpa using FF.out.1 _ _ _⟩, ⟨FF.out.2.1 _ _ _ _⟩, ⟨FF.out.2.2.1 _ _ _ _⟩, ⟨FF.out.2.2.2 _ _ _ _⟩, ⟨below_alloc (below_alloc (below_alloc (below_alloc (Below.refl _ _) _) _) _) _⟩⟩
  case round =>
    obtain ⟨j, hj, rfl, HO, H7, H5, H3, HB⟩ := hrel
    clear hmk
    have d7 : wr.cell? ⟨w.heap.size + 1 + 1 + 1, 0, none⟩ = some (.slice (some ⟨w.heap.size + 1 + 1, 0, none⟩) n n) := (blk_cell H7.out 0).trans rfl
    by_cases hlt : j < n
    · have dj := ints_cell HO.out j (by simp; omega)
      have fj := blk_frozen HO.out j
      go_wp2
      go_roundw
      case rel => exact ⟨j + 1, hlt, by go_num, ⟨by rw [ints_set HO.out j (-1)]; congr 3; exact rep_step n j hlt⟩, ⟨blk_far H7.out (by simp) _⟩, ⟨blk_far H5.out (by simp) _⟩, ⟨blk_far H3.out (by simp; omega) _⟩, ⟨HB.out.setCell (by simp; omega) _⟩⟩
      case measure => simp [intOf]; omega
    · obtain rfl : n = j := by omega
      have HO' := HO.out
      rw [Nat.sub_self, List.replicate_zero, List.append_nil] at HO'
      have da := ints_cell HO' a (by simp; omega)
      have fa := blk_frozen HO' a
      have HO2 := Aside0.mk HO'
      clear HO HO'
      go_wp2
      obtain ⟨W5, hW5⟩ : ∃ W5, W5 = (wr.setCell ⟨w.heap.size + 1 + 1, a, none⟩ (.int .i64 0)).alloc (.cells #[.int .i64 (a : Int)] 3) := ⟨_, rfl⟩
      have hszr := blk_lt H7.out
      have O5 : Aside0 (W5.heap[w.heap.size + 1 + 1]? = some (.cells (ints ((List.replicate n (-1)).set a 0)) 3 (0, 0))) := ⟨by rw [hW5]; exact blk_alloc (ints_set HO2.out a 0) _⟩
      have S7 : Aside0 (W5.heap[w.heap.size + 1 + 1 + 1]? = some (.cells #[.slice (some ⟨w.heap.size + 1 + 1, 0, none⟩) n n] 36 (0, 0))) := ⟨by rw [hW5]; exact blk_alloc (blk_far H7.out (by simp) _) _⟩
      have S5 : Aside0 (W5.heap[w.heap.size + 1]? = some (.cells #[.int .i64 a2] 3 (0, 0))) := ⟨by rw [hW5]; exact blk_alloc (blk_far H5.out (by simp) _) _⟩
      have S3 : Aside0 (W5.heap[w.heap.size]? = some (.cells #[.slice A0 n c0] 22 (0, 0))) := ⟨by rw [hW5]; exact blk_alloc (blk_far H3.out (by simp; omega) _) _⟩
      have B5 : Aside0 (Below w.heap.size w W5) := ⟨by rw [hW5]; exact below_alloc (HB.out.setCell (by simp; omega) _) _⟩
      have R5 : Aside0 (Kd.R (Kd.int .i64) 3 W5 (w.heap.size + 4) (fun _ => True) (.slice (some ⟨wr.heap.size, 0, none⟩) 1 1) (natsI [a])) := ⟨by
        have h := own_lit_of (enc := Value.int .i64) (wr.setCell ⟨w.heap.size + 1 + 1, a, none⟩ (.int .i64 0)) (w.heap.size + 4) 3 (natsI [a]) (by simp; omega) (by simp [natsI])
        rw [hW5]
        exact Kd.R_of_own (by simpa [natsI, encs] using h) (fun _ _ => trivial)⟩
      rw [← hW5]
      clear hW5 HO2 H7 H5 H3 HB da fa d7
      go_loopg [10] k (fun kq v10 wo => ∃ (out : List Int) (row : List Nat), Aside0 (farL l0 a2 kq out row = some r) ∧ Aside0 (kq ≤ k) ∧ Aside0 (out.length = n) ∧ Aside0 (∀ x ∈ row, x < n) ∧ Aside0 (Kd.R (Kd.int .i64) 3 wo (w.heap.size + 4) (fun _ => True) v10 (natsI row)) ∧ Aside0 (wo.heap[w.heap.size + 1 + 1]? = some (.cells (ints out) 3 (0, 0))) ∧ Aside0 (wo.heap[w.heap.size + 1 + 1 + 1]? = some (.cells #[.slice (some ⟨w.heap.size + 1 + 1, 0, none⟩) n n] 36 (0, 0))) ∧
        Aside0 (wo.heap[w.heap.size + 1]? = some (.cells #[.int .i64 a2] 3 (0, 0))) ∧ Aside0 (wo.heap[w.heap.size]? = some (.cells #[.slice A0 n c0] 22 (0, 0))) ∧ Aside0 (Below w.heap.size w wo))
      case atStart => exact ⟨_, [a], by rw [HN.out]; exact HA, ⟨Nat.le_refl _⟩, ⟨by simp⟩, ⟨by simpa using ha⟩, R5, O5, S7, S5, S3, B5⟩
      case round =>
        clear O5 S7 S5 S3 B5 R5
        obtain ⟨out, row, HF, HK, HL, HX, HR10, HO, H7, H5, H3, HB⟩ := hrel
        cases gk with
        | zero => exact absurd HF.out (by simp [farL])
        | succ k1 =>
          have hF := HF.out
          rw [farL] at hF
          obtain ⟨Ar, cr, hv, hlr, hCr⟩ := Kd.R_reads HR10.out
          rw [natsI_len] at hv hlr hCr
          subst hv
          by_cases hrow : row = []
          · rw [if_pos hrow] at hF
            obtain rfl := Option.some.inj hF
            subst hrow
            have d7 : wr.cell? ⟨w.heap.size + 1 + 1 + 1, 0, none⟩ = some (.slice (some ⟨w.heap.size + 1 + 1, 0, none⟩) n n) := (blk_cell H7.out 0).trans rfl
            go_wp2
            go_ret
            exact ⟨_, rfl, R_ints HO.out HL.out (by omega) (by omega), HB.out⟩
          · rw [if_neg hrow] at hF
            obtain ⟨rr, hrr, hF⟩ := Option.bind_eq_some_iff.1 hF
            have HRR := Aside0.mk hrr
            have HF2 := Aside0.mk hF
            have hpos : 0 < row.length := List.length_pos_iff.2 hrow
            have hCR := Aside0.mk hCr
            clear hrr hF hCr HF
            go_wp2
            obtain ⟨wo, hwo⟩ : ∃ wo : World, wo = wr := ⟨_, rfl⟩
            rw [← hwo] at HR10 HO H7 H5 H3 HB hCR ⊢
            clear hwo
            go_loopw [11, 37] (fun v11 v37 wi => ∃ (j : Nat) (o2 : List Int) (nx : List Nat), j ≤ row.length ∧ v37 = .int .i64 j ∧ Aside0 (rowS l0 a2 row out [] = rowS l0 a2 (row.drop j) o2 nx) ∧ Aside0 (o2.length = n) ∧ Aside0 (∀ x ∈ nx, x < n) ∧
              Aside0 (Kd.R (Kd.int .i64) 3 wi (w.heap.size + 4) (fun _ => True) v11 (natsI nx)) ∧ Aside0 (Kd.R (Kd.int .i64) 3 wi (w.heap.size + 4) (fun _ => True) (.slice Ar row.length cr) (natsI row)) ∧ Aside0 (wi.heap[w.heap.size + 1 + 1]? = some (.cells (ints o2) 3 (0, 0))) ∧ Aside0 (wi.heap[w.heap.size + 1 + 1 + 1]? = some (.cells #[.slice (some ⟨w.heap.size + 1 + 1, 0, none⟩) n n] 36 (0, 0))) ∧
              Aside0 (wi.heap[w.heap.size + 1]? = some (.cells #[.int .i64 a2] 3 (0, 0))) ∧ Aside0 (wi.heap[w.heap.size]? = some (.cells #[.slice A0 n c0] 22 (0, 0))) ∧ Aside0 (Below w.heap.size w wi)) (fun _ v37 _ => row.length - (intOf v37).toNat)
            case atStart => exact ⟨0, out, [], Nat.zero_le _, rfl, ⟨by simp⟩, HL, ⟨by simp⟩, ⟨Kd.R_nil _ _ _ _ _⟩, HR10, HO, H7, H5, H3, HB⟩
            case round =>
              clear HO H7 H5 H3 HB HR10 hCR
              obtain ⟨j, o2, nx, hj, rfl, HS, HL2, HX2, HN2, HW2, HO, H7, H5, H3, HB⟩ := hrel
              obtain ⟨An, cn, hvn, hln, hCn⟩ := Kd.R_reads HN2.out
              rw [natsI_len] at hvn hln hCn
              subst hvn
              by_cases hjl : j < row.length
              · obtain ⟨x, hx⟩ : ∃ x, x = row[j] := ⟨_, rfl⟩
                have hd : row.drop j = x :: row.drop (j + 1) := by rw [hx]; exact List.drop_eq_getElem_cons hjl
                have hxn : x < n := HX.out x (by rw [hx]; exact List.getElem_mem hjl)
                have hs := HS.out
                rw [hd, rowS, HN.out.symm] at hs
                have hlim : nx.length + (nearP l0 a2 x o2 n).2.length < 17592186044416 := by
                  rcases Nat.lt_or_ge (nx.length + (nearP l0 a2 x o2 n).2.length) 17592186044416 with h | h
                  · exact h
                  · rw [if_neg (by omega)] at hs; rw [HRR.out] at hs; cases hs
                rw [if_pos hlim] at hs
                have HS2 := Aside0.mk hs
                obtain ⟨adr, hAr, hcx⟩ := (reads_of_C_int (Kd.R_reads' HW2.out).2.2).2.2 j (by rw [natsI_len]; exact hjl)
                rw [natsI_at row j hjl, ← hx] at hcx
                subst hAr
                have hc1 := far1.calls w wr w.heap.size (w.heap.size + 1 + 1 + 1) (w.heap.size + 1) (w.heap.size + 1 + 1) (Nat.le_refl _) (by omega) (by omega) (by omega) (by omega) A0 c0 l0 (by rw [← HN.out]; exact HR.out) (by rw [← HN.out]; exact hc0) (by rw [← HN.out]; exact h2) a2 o2 (by rw [← HN.out]; exact HL2.out) x (by rw [← HN.out]; exact hxn) HB.out (by rw [← HN.out]; exact H3.out) (by rw [← HN.out]; exact H7.out) H5.out HO.out
                rw [← HN.out] at hc1
                have HC1 := Aside0.mk hc1
                have HSZ := Aside0.mk (blk_lt H7.out)
                have hrl := (reads_of_C_int (Kd.R_reads' HW2.out).2.2).2.1
                rw [natsI_len] at hrl
                have HNL := Aside0.mk (nearP_len l0 a2 x o2 n)
                have HNX := Aside0.mk (nearP_lt l0 a2 x o2 n)
                obtain ⟨rn, hrn⟩ : ∃ rn, rn = nearP l0 a2 x o2 n := ⟨_, rfl⟩
                rw [← hrn] at HC1 HS2 hlim HNL HNX
                have HLIM := Aside0.mk hlim
                have HLN := Aside0.mk hln
                clear hs hd hx hc1 hrn hlim hln hCn
                go_wp2_with (first | (go_at_call 254; (refine HC1.out.mono ?_; rintro e w2 ⟨v, he, hv, hgo, hbw, hkw⟩; obtain ⟨Av, cv, hvv, lv, Cv⟩ := Kd.R_reads hv; rw [natsI_len] at hvv lv Cv; subst hvv; subst he; (have HV := Aside0.mk hv); (have HO2 := Aside0.mk hgo); (have HB2 := Aside0.mk hbw); (have HK2 := Aside0.mk hkw); (have HLV := Aside0.mk lv); clear hv hgo hbw hkw lv Cv)) | (go_at_call 255; (refine (joined2.calls w2.heap.size _ (natsI nx) (natsI rn.2) An Av cn cv ?j1 ?j2 ?j3 ?j4 ?j5 ?j6).mono ?_; (case j1 => rw [natsI_len]; exact HLN.out); (case j2 => rw [natsI_len]; exact HLV.out); (case j3 => exact Kd.C_alloc (Kd.R_reads' (R_keep1 HN2.out HK2.out (by omega))).2.2 _); (case j4 => exact Kd.C_alloc (Kd.R_reads' HV.out).2.2 _); (case j5 => simp only [natsI_len]; exact blk_new _ _); (case j6 => rw [natsI_len, natsI_len]; exact HLIM.out); rintro e w3 ⟨v3, he, hv3, hb3⟩; subst he; (have HV3 := Aside0.mk hv3); (have HB3 := Aside0.mk hb3); clear hv3 hb3)))
                go_roundw
                case rel =>
                  refine ⟨j + 1, rn.1, nx ++ rn.2, hjl, by go_num, HS2, ⟨HNL.out.1.trans HL2.out⟩, ⟨fun y hy => ?_⟩, ⟨?_⟩, ⟨?_⟩, ⟨blk_below (blk_alloc HO2.out _) HB3.out⟩, ⟨blk_below (blk_alloc (HK2.out.blk H7.out (by omega) (by simp)) _) HB3.out⟩, ⟨blk_below (blk_alloc (HK2.out.blk H5.out (by omega) (by simp)) _) HB3.out⟩, ⟨blk_below (blk_alloc (HK2.out.blk H3.out (by omega) (by simp)) _) HB3.out⟩, ⟨below_then (below_alloc_of HB2.out _) (below_alloc_of HB2.out _).size HB3.out⟩⟩
                  · rcases List.mem_append.1 hy with h | h
                    · exact HX2.out y h
                    · exact HNX.out y h
                  · rw [natsI_append]; exact Kd.R_lower HV3.out (by have := blk_lt (blk_alloc HO2.out (.cells #[] 3)); have := HSZ.out; have := HK2.out.1; simp; omega)
                  · exact Kd.R_below (Kd.R_alloc (R_keep1 HW2.out HK2.out (by omega)) _) HB3.out
                case measure => simp [intOf]; omega
              · obtain rfl : j = row.length := by omega
                have hs := HS.out
                rw [List.drop_eq_nil_of_le (Nat.le_refl _), rowS, HRR.out] at hs
                obtain rfl := Option.some.inj hs
                clear hs
                go_wp2
                go_roundg k1
                case measure => have := HK.out; omega
                case rel => exact ⟨o2, nx, HF2, ⟨by have := HK.out; omega⟩, HL2, HX2, HN2, HO, H7, H5, H3, HB⟩


end Go.Proofs.Ythajahdjkmfnnaa.RL
