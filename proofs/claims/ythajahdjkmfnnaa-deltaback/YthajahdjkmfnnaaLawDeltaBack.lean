/- DeltaBack: for two sorted lists of up to 20 records of which no id is gone, the delta laid over the base is what is now, and each record of the delta is needed; it answers true for every input, and never panics. -/
import Derived.Test.YthajahdjkmfnnaaRows
import Derived.Test.YthajahdjkmfnnaaHead
import Derived.Test.YthajahdjkmfnnaaHg
import Derived.Test.YthajahdjkmfnnaaDBx10
import Derived.Test.YthajahdjkmfnnaaDBo
import Derived.Test.YthajahdjkmfnnaaDBp
import Derived.WalkKit
import Derived.ProofKit
import Derived.OpenShut
import Derived.ShutString
import Derived.ChangeOld
import Derived.Below
import Derived.SizedLaws
namespace Go.Proofs.Ythajahdjkmfnnaa.deltaBack
open Go.ChangeShapes Go.WideShapes Go.ChangeAt Go.RowKit
open Go.ChangeMaps (open_string shut_string)
open Go.Proofs.YthajahdjkmfnnaaW.PrintWords Go.Proofs.Ythajahdjkmfnnaa.DB
set_option linter.unusedVariables false
theorem own : ownKnob Try.prog.godebug = none := by kernel_rfl
theorem laidOut : laidOutB Try.prog = true := Head.laid_out
set_option maxRecDepth 100000 in
theorem lifted (os : Os) (started : os.Started) (H : Type) (enc : TypeId × Value → H) :
    ReturnsInHanded {} Try.checked os 4 .any (Rows.deltaBackSpec.pre6 enc Try.prog Try.f4 Rows.deltaBackRow.domain false) (Rows.deltaBackSpec.post enc Try.prog Try.f4 false true false false) := by
  refine returnsInHanded_of_change_sized (C := Try.checked) own started (by kernel_rfl) Try.func4
    (ChangeSpec.witness6 (enc := enc) (C := Try.checked) false ⟨#[], #[.slice none 0 0, .slice none 0 0, .int .i64 0], []⟩ 8 (by kernel_rfl) (by kernel_rfl) (by kernel_rfl) (by kernel_rfl)) ?_
  intro W base args ds gs before hval0 hW hcnd hsz0 _
  have hval : ∀ (j : Nat) t v, Try.f4.params[j]? = some t → args[j]? = some v → Value.okWide Try.prog W .any base t v := hval0
  have hW' := hW
  obtain ⟨p, q, hA0, hV, rfl, hfz, hnd⟩ := hW
  have hA : DataW.TrodAll enc Try.prog W 0 (fun _ => true) true Try.f4.params.toList args.toList ds p := hA0
  rw [Try.params4] at hA hval
  obtain ⟨v0, vs0, d0, ds0, p0, q0, hargs, rfl, rfl, h0, r0⟩ := trodAll_cons hA
  obtain ⟨v1, vs1, d1, ds1, p1, q1, rfl, rfl, rfl, h1, r1⟩ := trodAll_cons r0
  obtain ⟨v2, vs2, d2, ds2, p2, q2, rfl, rfl, rfl, h2, r2⟩ := trodAll_cons r1
  obtain ⟨rfl, rfl, rfl⟩ := trodAll_nil r2
  obtain rfl : args = #[v0, v1, v2] := by cases args; simp_all
  obtain ⟨rfl, rfl⟩ := trodVars_none hV
  have zz0 : (d0.weights Try.prog 22).all (· ≤ reachBytes) = true := List.all_eq_true.2 fun n hn => List.all_eq_true.1 hsz0 n (DataW.weights_mem_each (j := 0) (t := 22) (d := d0) rfl rfl n hn)
  have k0 := h0
  have lt0 : ∀ x ∈ p0, x.block < W.heap.size := by obtain ⟨m, hm⟩ := k0; exact DataW.trod_lt m _ _ _ hm
  obtain ⟨a0, len0, cap0, rfl⟩ := okWide_slice Try.underlying22 (hval 0 22 v0 rfl rfl)
  obtain ⟨z0, ⟨A0, c0, e0, l0, C0⟩, g0⟩ : ∃ z, (Kd.K _ W z (Value.slice a0 len0 cap0).cells.toList) ∧ good22 z := by
    obtain ⟨fuel, hf⟩ := h0
    exact opens_22 _ enc W fuel _ _ hf zz0
  obtain ⟨rfl, rfl, rfl⟩ : a0 = A0 ∧ len0 = z0.length ∧ cap0 = c0 := by simpa [Value.cells] using e0
  clear e0
  have zz1 : (d1.weights Try.prog 22).all (· ≤ reachBytes) = true := List.all_eq_true.2 fun n hn => List.all_eq_true.1 hsz0 n (DataW.weights_mem_each (j := 1) (t := 22) (d := d1) rfl rfl n hn)
  have k1 := h1
  have lt1 : ∀ x ∈ p1, x.block < W.heap.size := by obtain ⟨m, hm⟩ := k1; exact DataW.trod_lt m _ _ _ hm
  obtain ⟨a1, len1, cap1, rfl⟩ := okWide_slice Try.underlying22 (hval 1 22 v1 rfl rfl)
  obtain ⟨z1, ⟨A1, c1, e1, l1, C1⟩, g1⟩ : ∃ z, (Kd.K _ W z (Value.slice a1 len1 cap1).cells.toList) ∧ good22 z := by
    obtain ⟨fuel, hf⟩ := h1
    exact opens_22 _ enc W fuel _ _ hf zz1
  obtain ⟨rfl, rfl, rfl⟩ : a1 = A1 ∧ len1 = z1.length ∧ cap1 = c1 := by simpa [Value.cells] using e1
  clear e1
  obtain ⟨a2, rfl, rfl, rfl, w2⟩ := open_int Try.underlying3 (hval 2 3 v2 rfl rfl) h2
  obtain ⟨k, h⟩ := Pure.DeltaBack z0 z1 a2 g0 g1 w2
  clear hA0 hval0 hsz0
  refine (polyglotlaw14_DeltaBack.calls k _ _ z0 _ _ z1 a2 true W C0 l0 C1 l1 h).mono fun e W' ⟨he, bel0⟩ => ?_
  have bel : Below W.heap.size W W' := bel0
  subst he
  exact ⟨_, rfl, _, _, _, [], _, [], hW', trodAll_mk1 (shut_bool Try.underlying4 _), (trodAll_cons_mk (Below.trod laidOut (by kernel_rfl) (of_decide_eq_true (by kernel_rfl)) k0 bel lt0) (trodAll_cons_mk (Below.trod laidOut (by kernel_rfl) (of_decide_eq_true (by kernel_rfl)) k1 bel lt1) (trodAll_cons_mk (shut_int Try.underlying3 w2) trodAll_mk0))), rfl, bel.frame _, fun h => by cases h⟩
theorem fact0 : (Rows.deltaBackRow.wf (OpenSpec.ofChange Rows.deltaBackSpec)) = true := by kernel_rfl
theorem fact1 : (Try.f4.params.all (Try.pinned.checked.prog.readableRec ·)) = true := by kernel_rfl
theorem fact2 : (namedTie Try.pinned.checked.prog Rows.deltaBackRow.named Rows.deltaBackSpec.vars) = true := by kernel_rfl
theorem fact3 : ((Rows.deltaBackRow.stops == [])) = true := by kernel_rfl
theorem fact4 : ((Rows.deltaBackRow.knobs == [])) = true := by kernel_rfl
theorem fact5 : ((Rows.deltaBackRow.inPlace == Try.pinned.checked.prog.inPlace 4)) = true := by kernel_rfl
theorem fact6 : ((Rows.deltaBackRow.unfollowed == Try.pinned.checked.prog.unfollowed 4)) = true := by kernel_rfl
theorem fact7 : ((Rows.deltaBackRow.recurses == Try.pinned.checked.prog.recurses 4)) = true := by kernel_rfl
theorem fact8 : ((Rows.deltaBackRow.named == Try.pinned.checked.prog.varsNamed 4)) = true := by kernel_rfl
theorem fact9 : ((Rows.deltaBackRow.maps == (Try.f4.params.toList ++ Rows.deltaBackSpec.plain.varTypes Try.pinned.checked.prog).any (Try.pinned.checked.prog.mapsRec ·))) = true := by kernel_rfl
theorem fact10 : ((Rows.deltaBackRow.ifaces == (Try.f4.params.toList ++ Rows.deltaBackSpec.plain.varTypes Try.pinned.checked.prog).any (Try.pinned.checked.prog.ifacesRec ·))) = true := by kernel_rfl
theorem fact11 : ((Rows.deltaBackRow.mapsOut == Try.pinned.checked.prog.mapsAmong Try.f4.resultTypes.toList)) = true := by kernel_rfl
theorem fact12 : ((Rows.deltaBackRow.loops == (Try.f4.params.toList ++ Rows.deltaBackSpec.plain.varTypes Try.pinned.checked.prog).any (Try.pinned.checked.prog.loopsFrom ·))) = true := by kernel_rfl
theorem fact13 : ((Rows.deltaBackRow.wideKeys == (Try.f4.params.toList ++ Rows.deltaBackSpec.plain.varTypes Try.pinned.checked.prog ++ Try.f4.resultTypes.toList).any (Try.pinned.checked.prog.wideKeysFrom ·))) = true := by kernel_rfl
theorem fact14 : (Rows.deltaBackSpec.vars.all (Try.pinned.checked.prog.varReadable ·)) = true := by kernel_rfl
theorem fact15 : (Try.f4.resultTypes.all (fun t => Try.pinned.checked.prog.readableRec t && decide (t < Try.pinned.checked.prog.types.size))) = true := by kernel_rfl
theorem fact16 : ((Rows.deltaBackRow.ifacesOut == Try.f4.resultTypes.toList.any (Try.pinned.checked.prog.ifacesRec ·))) = true := by kernel_rfl
theorem fact17 : ((Rows.deltaBackRow.loopsOut == Try.f4.resultTypes.toList.any (Try.pinned.checked.prog.loopsFrom ·))) = true := by kernel_rfl
theorem fact18 : ((Rows.deltaBackRow.plainKeys == Try.pinned.checked.prog.plainKeys)) = true := by kernel_rfl
theorem fact19 : (Rows.deltaBackRow.shortTexts.isNone) = true := by kernel_rfl
theorem fact20 : ((Rows.deltaBackRow.lifted == false)) = true := by kernel_rfl
theorem fact21 : (((some .cut : Option Make) == some Rows.deltaBackRow.make)) = true := by kernel_rfl
theorem fact22 : ((Rows.deltaBackRow.kinds == Go.Proofs.HeadGen.kindsOf Try.pinned.checked.prog Try.f4 Rows.deltaBackRow)) = true := by kernel_rfl
theorem fact23 : ((Rows.deltaBackRow.pinned == Rows.deltaBackRow.pinnedBy)) = true := by kernel_rfl
theorem fact24 : ((Rows.deltaBackRow.veiled == (Try.f4.params.toList ++ Rows.deltaBackSpec.plain.varTypes Try.pinned.checked.prog ++ Try.f4.resultTypes.toList).any (Try.pinned.checked.prog.veiledRec ·))) = true := by kernel_rfl
theorem fact25 : (Rows.deltaBackRow.veiledFits Try.pinned.checked.prog Try.f4.params.toList (Try.f4.params.toList ++ Rows.deltaBackSpec.plain.varTypes Try.pinned.checked.prog ++ Try.f4.resultTypes.toList)) = true := by kernel_rfl
theorem lifts : (Rows.deltaBackRow.lifted == Try.pinned.checked.prog.liftsFinal) = true := by rw [Head.lifts_final]; exact fact20
theorem makes : (Try.pinned.checked.prog.make == some Rows.deltaBackRow.make) = true := by rw [Head.make_cut]; exact fact21
theorem closed : joinedFacts Try.pinned.checked.prog 4 Try.f4 Rows.deltaBackSpec Rows.deltaBackRow = true :=
  @Go.Proofs.HeadGen.joinedFacts_mk Try.pinned.checked.prog 4 Try.f4 Rows.deltaBackSpec Rows.deltaBackRow fact0 Head.laid_out Head.maps_rowed fact1 fact2 fact3 Head.no_stops fact4 Head.no_stopKnobs fact5 fact6 fact7 fact8 fact9 fact10 fact11 fact12 fact13 fact14 fact15 fact16 fact17 fact18 fact19 Head.stops_heard Head.may_enter lifts makes fact22 fact23 fact24 fact25
theorem over : Rows.deltaBackRow.holds Try.pinned (OpenSpec.ofChange Rows.deltaBackSpec) :=
  OpenClaim.holds_of_wide 4 Try.f4 rfl rfl rfl rfl rfl rfl rfl ⟨rfl, rfl, rfl, rfl, rfl⟩ rfl rfl rfl rfl rfl (by kernel_rfl) Try.func4 closed
    (of_decide_eq_true (by kernel_rfl)) (by unfold Func.isWrapper; first | (rw [if_pos (by decide +kernel)]; kernel_rfl) | (rw [if_neg (by decide +kernel)]; exact ⟨rfl, rfl⟩))
    (fun os started H enc _ => lifted os started H enc)
theorem proved : Rows.DeltaBackSaid := over
#print axioms proved
end Go.Proofs.Ythajahdjkmfnnaa.deltaBack
namespace Go.Proofs.Ythajahdjkmfnnaa
/-- The row, under a short name, for the claim. -/
theorem deltaBack_holds : Rows.DeltaBackSaid := deltaBack.proved
end Go.Proofs.Ythajahdjkmfnnaa
