/- DeltaLays: any delta laid over any base comes to what rec.Put of each of its records comes to, and to nothing where one of the two is not sorted; it answers true for every input, and never panics. -/
import Derived.Test.YthajahdjkmfnnaaRows
import Derived.Test.YthajahdjkmfnnaaHead
import Derived.Test.YthajahdjkmfnnaaHg
import Derived.Test.YthajahdjkmfnnaaDLx10
import Derived.Test.YthajahdjkmfnnaaDLo
import Derived.Test.YthajahdjkmfnnaaDLp
import Derived.WalkKit
import Derived.ProofKit
import Derived.OpenShut
import Derived.ShutString
import Derived.ChangeOld
import Derived.Below
import Derived.SizedLaws
namespace Go.Proofs.Ythajahdjkmfnnaa.deltaLays
open Go.ChangeShapes Go.WideShapes Go.ChangeAt Go.RowKit
open Go.ChangeMaps (open_string shut_string)
open Go.Proofs.YthajahdjkmfnnaaW.PrintWords Go.Proofs.Ythajahdjkmfnnaa.DL
set_option linter.unusedVariables false
theorem own : ownKnob Try.prog.godebug = none := by kernel_rfl
theorem laidOut : laidOutB Try.prog = true := Head.laid_out
set_option maxRecDepth 100000 in
theorem lifted (os : Os) (started : os.Started) (H : Type) (enc : TypeId × Value → H) :
    ReturnsInHanded {} Try.checked os 6 .any (Rows.deltaLaysSpec.pre6 enc Try.prog Try.f6 Rows.deltaLaysRow.domain false) (Rows.deltaLaysSpec.post enc Try.prog Try.f6 false true false false) := by
  refine returnsInHanded_of_change_sized (C := Try.checked) own started (by kernel_rfl) Try.func6
    (ChangeSpec.witness6 (enc := enc) (C := Try.checked) false ⟨#[], #[.slice none 0 0, .slice none 0 0], []⟩ 8 (by kernel_rfl) (by kernel_rfl) (by kernel_rfl) (by kernel_rfl)) ?_
  intro W base args ds gs before hval0 hW hcnd hsz0 _
  have hval : ∀ (j : Nat) t v, Try.f6.params[j]? = some t → args[j]? = some v → Value.okWide Try.prog W .any base t v := hval0
  have hW' := hW
  obtain ⟨p, q, hA0, hV, rfl, hfz, hnd⟩ := hW
  have hA : DataW.TrodAll enc Try.prog W 0 (fun _ => true) true Try.f6.params.toList args.toList ds p := hA0
  rw [Try.params6] at hA hval
  obtain ⟨v0, vs0, d0, ds0, p0, q0, hargs, rfl, rfl, h0, r0⟩ := trodAll_cons hA
  obtain ⟨v1, vs1, d1, ds1, p1, q1, rfl, rfl, rfl, h1, r1⟩ := trodAll_cons r0
  obtain ⟨rfl, rfl, rfl⟩ := trodAll_nil r1
  obtain rfl : args = #[v0, v1] := by cases args; simp_all
  obtain ⟨rfl, rfl⟩ := trodVars_none hV
  have zz0 : (d0.weights Try.prog 22).all (· ≤ reachBytes) = true := List.all_eq_true.2 fun n hn => List.all_eq_true.1 hsz0 n (DataW.weights_mem_each (j := 0) (t := 22) (d := d0) rfl rfl n hn)
  have k0 := h0
  have lt0 : ∀ x ∈ p0, x.block < W.heap.size := by obtain ⟨m, hm⟩ := k0; exact DataW.trod_lt m _ _ _ hm
  obtain ⟨a0, len0, cap0, rfl⟩ := okWide_slice Try.underlying22 (hval 0 22 v0 rfl rfl)
  obtain ⟨z0, ⟨A0, c0, e0, l0, C0⟩, g0⟩ : ∃ z, (Kd.K _ W z (Value.slice a0 len0 cap0).cells.toList) ∧ good22 z := by
    obtain ⟨fuel, hf⟩ := h0
    exact opens_22 _ enc W fuel _ _ hf zz0
  obtain ⟨rfl, rfl, rfl⟩ : a0 = A0 ∧ len0 = z0.length ∧ cap0 = c0 := by simpa [Value.cells] using e0
  clear e0
  have zz1 : (d1.weights Try.prog 22).all (· ≤ reachBytes) = true := List.all_eq_true.2 fun n hn => List.all_eq_true.1 hsz0 n (DataW.weights_mem_each (j := 1) (t := 22) (d := d1) rfl rfl n hn)
  have k1 := h1
  have lt1 : ∀ x ∈ p1, x.block < W.heap.size := by obtain ⟨m, hm⟩ := k1; exact DataW.trod_lt m _ _ _ hm
  obtain ⟨a1, len1, cap1, rfl⟩ := okWide_slice Try.underlying22 (hval 1 22 v1 rfl rfl)
  obtain ⟨z1, ⟨A1, c1, e1, l1, C1⟩, g1⟩ : ∃ z, (Kd.K _ W z (Value.slice a1 len1 cap1).cells.toList) ∧ good22 z := by
    obtain ⟨fuel, hf⟩ := h1
    exact opens_22 _ enc W fuel _ _ hf zz1
  obtain ⟨rfl, rfl, rfl⟩ : a1 = A1 ∧ len1 = z1.length ∧ cap1 = c1 := by simpa [Value.cells] using e1
  clear e1
  obtain ⟨k, h⟩ := Pure.DeltaLays z0 z1 g0 g1
  clear hA0 hval0 hsz0
  refine (polyglotlaw14_DeltaLays.calls k _ _ z0 _ _ z1 true W C0 l0 C1 l1 h).mono fun e W' ⟨he, bel0⟩ => ?_
  have bel : Below W.heap.size W W' := bel0
  subst he
  exact ⟨_, rfl, _, _, _, [], _, [], hW', trodAll_mk1 (shut_bool Try.underlying4 _), (trodAll_cons_mk (Below.trod laidOut (by kernel_rfl) (of_decide_eq_true (by kernel_rfl)) k0 bel lt0) (trodAll_cons_mk (Below.trod laidOut (by kernel_rfl) (of_decide_eq_true (by kernel_rfl)) k1 bel lt1) trodAll_mk0)), rfl, bel.frame _, fun h => by cases h⟩
theorem fact0 : (Rows.deltaLaysRow.wf (OpenSpec.ofChange Rows.deltaLaysSpec)) = true := by kernel_rfl
theorem fact1 : (Try.f6.params.all (Try.pinned.checked.prog.readableRec ·)) = true := by kernel_rfl
theorem fact2 : (namedTie Try.pinned.checked.prog Rows.deltaLaysRow.named Rows.deltaLaysSpec.vars) = true := by kernel_rfl
theorem fact3 : ((Rows.deltaLaysRow.stops == [])) = true := by kernel_rfl
theorem fact4 : ((Rows.deltaLaysRow.knobs == [])) = true := by kernel_rfl
theorem fact5 : ((Rows.deltaLaysRow.inPlace == Try.pinned.checked.prog.inPlace 6)) = true := by kernel_rfl
theorem fact6 : ((Rows.deltaLaysRow.unfollowed == Try.pinned.checked.prog.unfollowed 6)) = true := by kernel_rfl
theorem fact7 : ((Rows.deltaLaysRow.recurses == Try.pinned.checked.prog.recurses 6)) = true := by kernel_rfl
theorem fact8 : ((Rows.deltaLaysRow.named == Try.pinned.checked.prog.varsNamed 6)) = true := by kernel_rfl
theorem fact9 : ((Rows.deltaLaysRow.maps == (Try.f6.params.toList ++ Rows.deltaLaysSpec.plain.varTypes Try.pinned.checked.prog).any (Try.pinned.checked.prog.mapsRec ·))) = true := by kernel_rfl
theorem fact10 : ((Rows.deltaLaysRow.ifaces == (Try.f6.params.toList ++ Rows.deltaLaysSpec.plain.varTypes Try.pinned.checked.prog).any (Try.pinned.checked.prog.ifacesRec ·))) = true := by kernel_rfl
theorem fact11 : ((Rows.deltaLaysRow.mapsOut == Try.pinned.checked.prog.mapsAmong Try.f6.resultTypes.toList)) = true := by kernel_rfl
theorem fact12 : ((Rows.deltaLaysRow.loops == (Try.f6.params.toList ++ Rows.deltaLaysSpec.plain.varTypes Try.pinned.checked.prog).any (Try.pinned.checked.prog.loopsFrom ·))) = true := by kernel_rfl
theorem fact13 : ((Rows.deltaLaysRow.wideKeys == (Try.f6.params.toList ++ Rows.deltaLaysSpec.plain.varTypes Try.pinned.checked.prog ++ Try.f6.resultTypes.toList).any (Try.pinned.checked.prog.wideKeysFrom ·))) = true := by kernel_rfl
theorem fact14 : (Rows.deltaLaysSpec.vars.all (Try.pinned.checked.prog.varReadable ·)) = true := by kernel_rfl
theorem fact15 : (Try.f6.resultTypes.all (fun t => Try.pinned.checked.prog.readableRec t && decide (t < Try.pinned.checked.prog.types.size))) = true := by kernel_rfl
theorem fact16 : ((Rows.deltaLaysRow.ifacesOut == Try.f6.resultTypes.toList.any (Try.pinned.checked.prog.ifacesRec ·))) = true := by kernel_rfl
theorem fact17 : ((Rows.deltaLaysRow.loopsOut == Try.f6.resultTypes.toList.any (Try.pinned.checked.prog.loopsFrom ·))) = true := by kernel_rfl
theorem fact18 : ((Rows.deltaLaysRow.plainKeys == Try.pinned.checked.prog.plainKeys)) = true := by kernel_rfl
theorem fact19 : (Rows.deltaLaysRow.shortTexts.isNone) = true := by kernel_rfl
theorem fact20 : ((Rows.deltaLaysRow.lifted == false)) = true := by kernel_rfl
theorem fact21 : (((some .cut : Option Make) == some Rows.deltaLaysRow.make)) = true := by kernel_rfl
theorem fact22 : ((Rows.deltaLaysRow.kinds == Go.Proofs.HeadGen.kindsOf Try.pinned.checked.prog Try.f6 Rows.deltaLaysRow)) = true := by kernel_rfl
theorem fact23 : ((Rows.deltaLaysRow.pinned == Rows.deltaLaysRow.pinnedBy)) = true := by kernel_rfl
theorem fact24 : ((Rows.deltaLaysRow.veiled == (Try.f6.params.toList ++ Rows.deltaLaysSpec.plain.varTypes Try.pinned.checked.prog ++ Try.f6.resultTypes.toList).any (Try.pinned.checked.prog.veiledRec ·))) = true := by kernel_rfl
theorem fact25 : (Rows.deltaLaysRow.veiledFits Try.pinned.checked.prog Try.f6.params.toList (Try.f6.params.toList ++ Rows.deltaLaysSpec.plain.varTypes Try.pinned.checked.prog ++ Try.f6.resultTypes.toList)) = true := by kernel_rfl
theorem lifts : (Rows.deltaLaysRow.lifted == Try.pinned.checked.prog.liftsFinal) = true := by rw [Head.lifts_final]; exact fact20
theorem makes : (Try.pinned.checked.prog.make == some Rows.deltaLaysRow.make) = true := by rw [Head.make_cut]; exact fact21
theorem closed : joinedFacts Try.pinned.checked.prog 6 Try.f6 Rows.deltaLaysSpec Rows.deltaLaysRow = true :=
  @Go.Proofs.HeadGen.joinedFacts_mk Try.pinned.checked.prog 6 Try.f6 Rows.deltaLaysSpec Rows.deltaLaysRow fact0 Head.laid_out Head.maps_rowed fact1 fact2 fact3 Head.no_stops fact4 Head.no_stopKnobs fact5 fact6 fact7 fact8 fact9 fact10 fact11 fact12 fact13 fact14 fact15 fact16 fact17 fact18 fact19 Head.stops_heard Head.may_enter lifts makes fact22 fact23 fact24 fact25
theorem over : Rows.deltaLaysRow.holds Try.pinned (OpenSpec.ofChange Rows.deltaLaysSpec) :=
  OpenClaim.holds_of_wide 6 Try.f6 rfl rfl rfl rfl rfl rfl rfl ⟨rfl, rfl, rfl, rfl, rfl⟩ rfl rfl rfl rfl rfl (by kernel_rfl) Try.func6 closed
    (of_decide_eq_true (by kernel_rfl)) (by unfold Func.isWrapper; first | (rw [if_pos (by decide +kernel)]; kernel_rfl) | (rw [if_neg (by decide +kernel)]; exact ⟨rfl, rfl⟩))
    (fun os started H enc _ => lifted os started H enc)
theorem proved : Rows.DeltaLaysSaid := over
#print axioms proved
end Go.Proofs.Ythajahdjkmfnnaa.deltaLays
namespace Go.Proofs.Ythajahdjkmfnnaa
/-- The row, under a short name, for the claim. -/
theorem deltaLays_holds : Rows.DeltaLaysSaid := deltaLays.proved
end Go.Proofs.Ythajahdjkmfnnaa
