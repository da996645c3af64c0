/-
  No cell of these rows narrows 'for every input' (looked for: loops, veiled, ifaces, maps, wideKeys, modest, calm, conditions, laid).
  DERIVED. THE GIVEN ROWS OF THIS SEAT. 23 by the template 'for every input the law returns true; each argument reads behind the call as it read before'; 0 by the template 'total and deterministic' (their statements: YthajahdjkmfnnaaTotals.lean).
  GIVEN WITH THE SEED: the statements are not yours to turn. If you find one false, say at which input.
  Laid BY PROGRAM, IN A SANDBOX (cutbox-rows.mjs): the forced cells as the released guide's own fill.sh prints them over the translation 8d10d0fc8bb1999f… (all of the seat's roots in one cut). By AI agents, Wed Nov 11 2026. No macro, syntax, notation, axiom, sorry.
-/
import Derived.Test.YthajahdjkmfnnaaChecked
import GoSem.Claim
import GoSem.ClaimJoined
import GoSem.ClaimMapViews
import Derived.JoinedTies
import Derived.KernelRfl
namespace Go.Proofs.Ythajahdjkmfnnaa
/- THE CELL 'sum', in the pinned program and in every row, IS THE sha256 OF THE DUMP (.gsa) THAT YthajahdjkmfnnaaProg.lean LOADS. Nothing in Lean hashes anything: it is a label: what it is worth is what the hold of that sum in a sandbox is worth. -/
noncomputable def Try.pinned : Pinned := { name := "ythajahdjkmfnnaa", sum := "8d10d0fc8bb1999f8f8b23061062099168ae1de5a338cf9a23e6b8e86b962dc7", checked := Try.checked }
namespace Rows
def none {H : Type} : Left H := { results := [], args := [] }

/-- 'polyglotlaw47.RouteLinks': WHATEVER THE INPUT: true; the input reads as it did. -/
def routeLinksSpec : ChangeSpec := { name := "routeLinks", fn := fun _ => fun
  | [d1, d2, d3] => { results := [.lit (.bool true)], args := [d1, d2, d3] }
  | _ => none }
def routeLinksRow : OpenClaim := { program := "ythajahdjkmfnnaa", sum := "8d10d0fc8bb1999f8f8b23061062099168ae1de5a338cf9a23e6b8e86b962dc7", func := "polyglot/polyglotlaw47.RouteLinks", spec := "routeLinks", unfollowed := true, recurses := true, apart := false }
def RouteLinksSaid : Prop := routeLinksRow.holds Try.pinned (OpenSpec.ofChange routeLinksSpec)

/-- ITS FALSE NEIGHBOUR: 'it returns false'. Refute it at one input. -/
def routeLinksWrong : ChangeSpec := { name := "routeLinks", fn := fun _ => fun
  | [d1, d2, d3] => { results := [.lit (.bool false)], args := [d1, d2, d3] }
  | _ => none }
def RouteLinksWrongFalsely : Prop := routeLinksRow.holds Try.pinned (OpenSpec.ofChange routeLinksWrong)

/-- 'polyglotlaw14.DeltaBack': WHATEVER THE INPUT: true; the input reads as it did. -/
def deltaBackSpec : ChangeSpec := { name := "deltaBack", fn := fun _ => fun
  | [d1, d2, d3] => { results := [.lit (.bool true)], args := [d1, d2, d3] }
  | _ => none }
def deltaBackRow : OpenClaim := { program := "ythajahdjkmfnnaa", sum := "8d10d0fc8bb1999f8f8b23061062099168ae1de5a338cf9a23e6b8e86b962dc7", func := "polyglot/polyglotlaw14.DeltaBack", spec := "deltaBack", unfollowed := true, recurses := true, apart := false }
def DeltaBackSaid : Prop := deltaBackRow.holds Try.pinned (OpenSpec.ofChange deltaBackSpec)

/-- ITS FALSE NEIGHBOUR: 'it returns false'. Refute it at one input. -/
def deltaBackWrong : ChangeSpec := { name := "deltaBack", fn := fun _ => fun
  | [d1, d2, d3] => { results := [.lit (.bool false)], args := [d1, d2, d3] }
  | _ => none }
def DeltaBackWrongFalsely : Prop := deltaBackRow.holds Try.pinned (OpenSpec.ofChange deltaBackWrong)

/-- 'polyglotlaw44.EventSince': WHATEVER THE INPUT: true; the input reads as it did. -/
def eventSinceSpec : ChangeSpec := { name := "eventSince", fn := fun _ => fun
  | [d1, d2] => { results := [.lit (.bool true)], args := [d1, d2] }
  | _ => none }
def eventSinceRow : OpenClaim := { program := "ythajahdjkmfnnaa", sum := "8d10d0fc8bb1999f8f8b23061062099168ae1de5a338cf9a23e6b8e86b962dc7", func := "polyglot/polyglotlaw44.EventSince", spec := "eventSince", unfollowed := true, recurses := true, apart := false }
def EventSinceSaid : Prop := eventSinceRow.holds Try.pinned (OpenSpec.ofChange eventSinceSpec)

/-- ITS FALSE NEIGHBOUR: 'it returns false'. Refute it at one input. -/
def eventSinceWrong : ChangeSpec := { name := "eventSince", fn := fun _ => fun
  | [d1, d2] => { results := [.lit (.bool false)], args := [d1, d2] }
  | _ => none }
def EventSinceWrongFalsely : Prop := eventSinceRow.holds Try.pinned (OpenSpec.ofChange eventSinceWrong)

/-- 'polyglotlaw14.DeltaLays': WHATEVER THE INPUT: true; the input reads as it did. -/
def deltaLaysSpec : ChangeSpec := { name := "deltaLays", fn := fun _ => fun
  | [d1, d2] => { results := [.lit (.bool true)], args := [d1, d2] }
  | _ => none }
def deltaLaysRow : OpenClaim := { program := "ythajahdjkmfnnaa", sum := "8d10d0fc8bb1999f8f8b23061062099168ae1de5a338cf9a23e6b8e86b962dc7", func := "polyglot/polyglotlaw14.DeltaLays", spec := "deltaLays", unfollowed := true, recurses := true, apart := false }
def DeltaLaysSaid : Prop := deltaLaysRow.holds Try.pinned (OpenSpec.ofChange deltaLaysSpec)

/-- ITS FALSE NEIGHBOUR: 'it returns false'. Refute it at one input. -/
def deltaLaysWrong : ChangeSpec := { name := "deltaLays", fn := fun _ => fun
  | [d1, d2] => { results := [.lit (.bool false)], args := [d1, d2] }
  | _ => none }
def DeltaLaysWrongFalsely : Prop := deltaLaysRow.holds Try.pinned (OpenSpec.ofChange deltaLaysWrong)

/-- 'polyglotlaw32.PlanApplies': WHATEVER THE INPUT: true; the input reads as it did. -/
def planAppliesSpec : ChangeSpec := { name := "planApplies", fn := fun _ => fun
  | [d1, d2] => { results := [.lit (.bool true)], args := [d1, d2] }
  | _ => none }
def planAppliesRow : OpenClaim := { program := "ythajahdjkmfnnaa", sum := "8d10d0fc8bb1999f8f8b23061062099168ae1de5a338cf9a23e6b8e86b962dc7", func := "polyglot/polyglotlaw32.PlanApplies", spec := "planApplies", unfollowed := true, recurses := true, apart := false }
def PlanAppliesSaid : Prop := planAppliesRow.holds Try.pinned (OpenSpec.ofChange planAppliesSpec)

/-- ITS FALSE NEIGHBOUR: 'it returns false'. Refute it at one input. -/
def planAppliesWrong : ChangeSpec := { name := "planApplies", fn := fun _ => fun
  | [d1, d2] => { results := [.lit (.bool false)], args := [d1, d2] }
  | _ => none }
def PlanAppliesWrongFalsely : Prop := planAppliesRow.holds Try.pinned (OpenSpec.ofChange planAppliesWrong)

/-- 'polyglotlaw32.PlanSafe': WHATEVER THE INPUT: true; the input reads as it did. -/
def planSafeSpec : ChangeSpec := { name := "planSafe", fn := fun _ => fun
  | [d1, d2, d3] => { results := [.lit (.bool true)], args := [d1, d2, d3] }
  | _ => none }
def planSafeRow : OpenClaim := { program := "ythajahdjkmfnnaa", sum := "8d10d0fc8bb1999f8f8b23061062099168ae1de5a338cf9a23e6b8e86b962dc7", func := "polyglot/polyglotlaw32.PlanSafe", spec := "planSafe", unfollowed := true, recurses := true, apart := false }
def PlanSafeSaid : Prop := planSafeRow.holds Try.pinned (OpenSpec.ofChange planSafeSpec)

/-- ITS FALSE NEIGHBOUR: 'it returns false'. Refute it at one input. -/
def planSafeWrong : ChangeSpec := { name := "planSafe", fn := fun _ => fun
  | [d1, d2, d3] => { results := [.lit (.bool false)], args := [d1, d2, d3] }
  | _ => none }
def PlanSafeWrongFalsely : Prop := planSafeRow.holds Try.pinned (OpenSpec.ofChange planSafeWrong)

/-- 'polyglotlaw26.BaseOuts': WHATEVER THE INPUT: true; the input reads as it did. -/
def baseOutsSpec : ChangeSpec := { name := "baseOuts", fn := fun _ => fun
  | [d1, d2] => { results := [.lit (.bool true)], args := [d1, d2] }
  | _ => none }
def baseOutsRow : OpenClaim := { program := "ythajahdjkmfnnaa", sum := "8d10d0fc8bb1999f8f8b23061062099168ae1de5a338cf9a23e6b8e86b962dc7", func := "polyglot/polyglotlaw26.BaseOuts", spec := "baseOuts", unfollowed := true, recurses := true, apart := false }
def BaseOutsSaid : Prop := baseOutsRow.holds Try.pinned (OpenSpec.ofChange baseOutsSpec)

/-- ITS FALSE NEIGHBOUR: 'it returns false'. Refute it at one input. -/
def baseOutsWrong : ChangeSpec := { name := "baseOuts", fn := fun _ => fun
  | [d1, d2] => { results := [.lit (.bool false)], args := [d1, d2] }
  | _ => none }
def BaseOutsWrongFalsely : Prop := baseOutsRow.holds Try.pinned (OpenSpec.ofChange baseOutsWrong)

/-- 'polyglotlaw25.MemberRefutes': WHATEVER THE INPUT: true; the input reads as it did. -/
def memberRefutesSpec : ChangeSpec := { name := "memberRefutes", fn := fun _ => fun
  | [d1, d2] => { results := [.lit (.bool true)], args := [d1, d2] }
  | _ => none }
def memberRefutesRow : OpenClaim := { program := "ythajahdjkmfnnaa", sum := "8d10d0fc8bb1999f8f8b23061062099168ae1de5a338cf9a23e6b8e86b962dc7", func := "polyglot/polyglotlaw25.MemberRefutes", spec := "memberRefutes", unfollowed := true, recurses := true, apart := false }
def MemberRefutesSaid : Prop := memberRefutesRow.holds Try.pinned (OpenSpec.ofChange memberRefutesSpec)

/-- ITS FALSE NEIGHBOUR: 'it returns false'. Refute it at one input. -/
def memberRefutesWrong : ChangeSpec := { name := "memberRefutes", fn := fun _ => fun
  | [d1, d2] => { results := [.lit (.bool false)], args := [d1, d2] }
  | _ => none }
def MemberRefutesWrongFalsely : Prop := memberRefutesRow.holds Try.pinned (OpenSpec.ofChange memberRefutesWrong)

/-- 'polyglotlaw33.CoordBegins': WHATEVER THE INPUT: true; the input reads as it did. -/
def coordBeginsSpec : ChangeSpec := { name := "coordBegins", fn := fun _ => fun
  | [d1, d2, d3] => { results := [.lit (.bool true)], args := [d1, d2, d3] }
  | _ => none }
def coordBeginsRow : OpenClaim := { program := "ythajahdjkmfnnaa", sum := "8d10d0fc8bb1999f8f8b23061062099168ae1de5a338cf9a23e6b8e86b962dc7", func := "polyglot/polyglotlaw33.CoordBegins", spec := "coordBegins", inPlace := ["sync/atomic.AddInt64", "sync/atomic.StoreInt64", "sync/atomic.StoreUint32", "sync/atomic.LoadUint32", "(*internal/sync.Mutex).Lock", "internal/race.Disable", "sync/atomic.CompareAndSwapInt32", "internal/race.Enable", "internal/race.Acquire", "(*internal/sync.Mutex).lockSlow", "internal/sync.runtime_canSpin", "internal/sync.runtime_doSpin", "internal/sync.throw", "internal/sync.runtime_nanotime", "internal/sync.runtime_SemacquireMutex", "sync/atomic.AddInt32", "(*internal/sync.Mutex).Unlock", "internal/race.ReleaseMerge", "(*internal/sync.Mutex).unlockSlow", "internal/sync.fatal", "internal/sync.runtime_Semrelease", "sync/atomic.LoadInt64"], unfollowed := true, recurses := true, apart := false }
def CoordBeginsSaid : Prop := coordBeginsRow.holds Try.pinned (OpenSpec.ofChange coordBeginsSpec)

/-- ITS FALSE NEIGHBOUR: 'it returns false'. Refute it at one input. -/
def coordBeginsWrong : ChangeSpec := { name := "coordBegins", fn := fun _ => fun
  | [d1, d2, d3] => { results := [.lit (.bool false)], args := [d1, d2, d3] }
  | _ => none }
def CoordBeginsWrongFalsely : Prop := coordBeginsRow.holds Try.pinned (OpenSpec.ofChange coordBeginsWrong)

/-- 'polyglotlaw33.CoordLeads': WHATEVER THE INPUT: true; the input reads as it did. -/
def coordLeadsSpec : ChangeSpec := { name := "coordLeads", fn := fun _ => fun
  | [d1, d2, d3] => { results := [.lit (.bool true)], args := [d1, d2, d3] }
  | _ => none }
def coordLeadsRow : OpenClaim := { program := "ythajahdjkmfnnaa", sum := "8d10d0fc8bb1999f8f8b23061062099168ae1de5a338cf9a23e6b8e86b962dc7", func := "polyglot/polyglotlaw33.CoordLeads", spec := "coordLeads", inPlace := ["sync/atomic.AddInt64", "sync/atomic.StoreInt64", "sync/atomic.StoreUint32", "sync/atomic.LoadUint32", "(*internal/sync.Mutex).Lock", "internal/race.Disable", "sync/atomic.CompareAndSwapInt32", "internal/race.Enable", "internal/race.Acquire", "(*internal/sync.Mutex).lockSlow", "internal/sync.runtime_canSpin", "internal/sync.runtime_doSpin", "internal/sync.throw", "internal/sync.runtime_nanotime", "internal/sync.runtime_SemacquireMutex", "sync/atomic.AddInt32", "(*internal/sync.Mutex).Unlock", "internal/race.ReleaseMerge", "(*internal/sync.Mutex).unlockSlow", "internal/sync.fatal", "internal/sync.runtime_Semrelease", "sync/atomic.LoadInt64"], unfollowed := true, recurses := true, apart := false }
def CoordLeadsSaid : Prop := coordLeadsRow.holds Try.pinned (OpenSpec.ofChange coordLeadsSpec)

/-- ITS FALSE NEIGHBOUR: 'it returns false'. Refute it at one input. -/
def coordLeadsWrong : ChangeSpec := { name := "coordLeads", fn := fun _ => fun
  | [d1, d2, d3] => { results := [.lit (.bool false)], args := [d1, d2, d3] }
  | _ => none }
def CoordLeadsWrongFalsely : Prop := coordLeadsRow.holds Try.pinned (OpenSpec.ofChange coordLeadsWrong)

/-- 'polyglotlaw47.RouteHands': WHATEVER THE INPUT: true; the input reads as it did. -/
def routeHandsSpec : ChangeSpec := { name := "routeHands", fn := fun _ => fun
  | [d1, d2, d3, d4] => { results := [.lit (.bool true)], args := [d1, d2, d3, d4] }
  | _ => none }
def routeHandsRow : OpenClaim := { program := "ythajahdjkmfnnaa", sum := "8d10d0fc8bb1999f8f8b23061062099168ae1de5a338cf9a23e6b8e86b962dc7", func := "polyglot/polyglotlaw47.RouteHands", spec := "routeHands", unfollowed := true, recurses := true, apart := false }
def RouteHandsSaid : Prop := routeHandsRow.holds Try.pinned (OpenSpec.ofChange routeHandsSpec)

/-- ITS FALSE NEIGHBOUR: 'it returns false'. Refute it at one input. -/
def routeHandsWrong : ChangeSpec := { name := "routeHands", fn := fun _ => fun
  | [d1, d2, d3, d4] => { results := [.lit (.bool false)], args := [d1, d2, d3, d4] }
  | _ => none }
def RouteHandsWrongFalsely : Prop := routeHandsRow.holds Try.pinned (OpenSpec.ofChange routeHandsWrong)

/-- 'polyglotlaw25.MemberPlays': WHATEVER THE INPUT: true; the input reads as it did. -/
def memberPlaysSpec : ChangeSpec := { name := "memberPlays", fn := fun _ => fun
  | [d1, d2, d3, d4, d5] => { results := [.lit (.bool true)], args := [d1, d2, d3, d4, d5] }
  | _ => none }
def memberPlaysRow : OpenClaim := { program := "ythajahdjkmfnnaa", sum := "8d10d0fc8bb1999f8f8b23061062099168ae1de5a338cf9a23e6b8e86b962dc7", func := "polyglot/polyglotlaw25.MemberPlays", spec := "memberPlays", unfollowed := true, recurses := true, apart := false }
def MemberPlaysSaid : Prop := memberPlaysRow.holds Try.pinned (OpenSpec.ofChange memberPlaysSpec)

/-- ITS FALSE NEIGHBOUR: 'it returns false'. Refute it at one input. -/
def memberPlaysWrong : ChangeSpec := { name := "memberPlays", fn := fun _ => fun
  | [d1, d2, d3, d4, d5] => { results := [.lit (.bool false)], args := [d1, d2, d3, d4, d5] }
  | _ => none }
def MemberPlaysWrongFalsely : Prop := memberPlaysRow.holds Try.pinned (OpenSpec.ofChange memberPlaysWrong)

/-- 'polyglotlaw25.MemberGrows': WHATEVER THE INPUT: true; the input reads as it did. -/
def memberGrowsSpec : ChangeSpec := { name := "memberGrows", fn := fun _ => fun
  | [d1, d2, d3] => { results := [.lit (.bool true)], args := [d1, d2, d3] }
  | _ => none }
def memberGrowsRow : OpenClaim := { program := "ythajahdjkmfnnaa", sum := "8d10d0fc8bb1999f8f8b23061062099168ae1de5a338cf9a23e6b8e86b962dc7", func := "polyglot/polyglotlaw25.MemberGrows", spec := "memberGrows", unfollowed := true, recurses := true, apart := false }
def MemberGrowsSaid : Prop := memberGrowsRow.holds Try.pinned (OpenSpec.ofChange memberGrowsSpec)

/-- ITS FALSE NEIGHBOUR: 'it returns false'. Refute it at one input. -/
def memberGrowsWrong : ChangeSpec := { name := "memberGrows", fn := fun _ => fun
  | [d1, d2, d3] => { results := [.lit (.bool false)], args := [d1, d2, d3] }
  | _ => none }
def MemberGrowsWrongFalsely : Prop := memberGrowsRow.holds Try.pinned (OpenSpec.ofChange memberGrowsWrong)

/-- 'polyglotlaw21.TimerPlays': WHATEVER THE INPUT: true; the input reads as it did. -/
def timerPlaysSpec : ChangeSpec := { name := "timerPlays", fn := fun _ => fun
  | [d1, d2] => { results := [.lit (.bool true)], args := [d1, d2] }
  | _ => none }
def timerPlaysRow : OpenClaim := { program := "ythajahdjkmfnnaa", sum := "8d10d0fc8bb1999f8f8b23061062099168ae1de5a338cf9a23e6b8e86b962dc7", func := "polyglot/polyglotlaw21.TimerPlays", spec := "timerPlays", recurses := true, apart := false }
def TimerPlaysSaid : Prop := timerPlaysRow.holds Try.pinned (OpenSpec.ofChange timerPlaysSpec)

/-- ITS FALSE NEIGHBOUR: 'it returns false'. Refute it at one input. -/
def timerPlaysWrong : ChangeSpec := { name := "timerPlays", fn := fun _ => fun
  | [d1, d2] => { results := [.lit (.bool false)], args := [d1, d2] }
  | _ => none }
def TimerPlaysWrongFalsely : Prop := timerPlaysRow.holds Try.pinned (OpenSpec.ofChange timerPlaysWrong)

/-- 'polyglotlaw21.TimerOnce': WHATEVER THE INPUT: true; the input reads as it did. -/
def timerOnceSpec : ChangeSpec := { name := "timerOnce", fn := fun _ => fun
  | [d1, d2, d3, d4] => { results := [.lit (.bool true)], args := [d1, d2, d3, d4] }
  | _ => none }
def timerOnceRow : OpenClaim := { program := "ythajahdjkmfnnaa", sum := "8d10d0fc8bb1999f8f8b23061062099168ae1de5a338cf9a23e6b8e86b962dc7", func := "polyglot/polyglotlaw21.TimerOnce", spec := "timerOnce", recurses := true, apart := false }
def TimerOnceSaid : Prop := timerOnceRow.holds Try.pinned (OpenSpec.ofChange timerOnceSpec)

/-- ITS FALSE NEIGHBOUR: 'it returns false'. Refute it at one input. -/
def timerOnceWrong : ChangeSpec := { name := "timerOnce", fn := fun _ => fun
  | [d1, d2, d3, d4] => { results := [.lit (.bool false)], args := [d1, d2, d3, d4] }
  | _ => none }
def TimerOnceWrongFalsely : Prop := timerOnceRow.holds Try.pinned (OpenSpec.ofChange timerOnceWrong)

/-- 'polyglotlaw23.PeersLearn': WHATEVER THE INPUT: true; the input reads as it did. -/
def peersLearnSpec : ChangeSpec := { name := "peersLearn", fn := fun _ => fun
  | [d1, d2] => { results := [.lit (.bool true)], args := [d1, d2] }
  | _ => none }
def peersLearnRow : OpenClaim := { program := "ythajahdjkmfnnaa", sum := "8d10d0fc8bb1999f8f8b23061062099168ae1de5a338cf9a23e6b8e86b962dc7", func := "polyglot/polyglotlaw23.PeersLearn", spec := "peersLearn", recurses := true, apart := false }
def PeersLearnSaid : Prop := peersLearnRow.holds Try.pinned (OpenSpec.ofChange peersLearnSpec)

/-- ITS FALSE NEIGHBOUR: 'it returns false'. Refute it at one input. -/
def peersLearnWrong : ChangeSpec := { name := "peersLearn", fn := fun _ => fun
  | [d1, d2] => { results := [.lit (.bool false)], args := [d1, d2] }
  | _ => none }
def PeersLearnWrongFalsely : Prop := peersLearnRow.holds Try.pinned (OpenSpec.ofChange peersLearnWrong)

/-- 'polyglotlaw26.BaseIns': WHATEVER THE INPUT: true; the input reads as it did. -/
def baseInsSpec : ChangeSpec := { name := "baseIns", fn := fun _ => fun
  | [d1, d2, d3] => { results := [.lit (.bool true)], args := [d1, d2, d3] }
  | _ => none }
def baseInsRow : OpenClaim := { program := "ythajahdjkmfnnaa", sum := "8d10d0fc8bb1999f8f8b23061062099168ae1de5a338cf9a23e6b8e86b962dc7", func := "polyglot/polyglotlaw26.BaseIns", spec := "baseIns", inPlace := ["slices.overlaps[polyglot/base.row]"], unfollowed := true, recurses := true, apart := false }
def BaseInsSaid : Prop := baseInsRow.holds Try.pinned (OpenSpec.ofChange baseInsSpec)

/-- ITS FALSE NEIGHBOUR: 'it returns false'. Refute it at one input. -/
def baseInsWrong : ChangeSpec := { name := "baseIns", fn := fun _ => fun
  | [d1, d2, d3] => { results := [.lit (.bool false)], args := [d1, d2, d3] }
  | _ => none }
def BaseInsWrongFalsely : Prop := baseInsRow.holds Try.pinned (OpenSpec.ofChange baseInsWrong)

/-- 'polyglotlaw34.BlindPlays': WHATEVER THE INPUT: true; the input reads as it did. -/
def blindPlaysSpec : ChangeSpec := { name := "blindPlays", fn := fun _ => fun
  | [d1, d2, d3, d4] => { results := [.lit (.bool true)], args := [d1, d2, d3, d4] }
  | _ => none }
def blindPlaysRow : OpenClaim := { program := "ythajahdjkmfnnaa", sum := "8d10d0fc8bb1999f8f8b23061062099168ae1de5a338cf9a23e6b8e86b962dc7", func := "polyglot/polyglotlaw34.BlindPlays", spec := "blindPlays", unfollowed := true, recurses := true, apart := false }
def BlindPlaysSaid : Prop := blindPlaysRow.holds Try.pinned (OpenSpec.ofChange blindPlaysSpec)

/-- ITS FALSE NEIGHBOUR: 'it returns false'. Refute it at one input. -/
def blindPlaysWrong : ChangeSpec := { name := "blindPlays", fn := fun _ => fun
  | [d1, d2, d3, d4] => { results := [.lit (.bool false)], args := [d1, d2, d3, d4] }
  | _ => none }
def BlindPlaysWrongFalsely : Prop := blindPlaysRow.holds Try.pinned (OpenSpec.ofChange blindPlaysWrong)

/-- 'polyglotlaw34.BlindGrows': WHATEVER THE INPUT: true; the input reads as it did. -/
def blindGrowsSpec : ChangeSpec := { name := "blindGrows", fn := fun _ => fun
  | [d1, d2, d3] => { results := [.lit (.bool true)], args := [d1, d2, d3] }
  | _ => none }
def blindGrowsRow : OpenClaim := { program := "ythajahdjkmfnnaa", sum := "8d10d0fc8bb1999f8f8b23061062099168ae1de5a338cf9a23e6b8e86b962dc7", func := "polyglot/polyglotlaw34.BlindGrows", spec := "blindGrows", unfollowed := true, recurses := true, apart := false }
def BlindGrowsSaid : Prop := blindGrowsRow.holds Try.pinned (OpenSpec.ofChange blindGrowsSpec)

/-- ITS FALSE NEIGHBOUR: 'it returns false'. Refute it at one input. -/
def blindGrowsWrong : ChangeSpec := { name := "blindGrows", fn := fun _ => fun
  | [d1, d2, d3] => { results := [.lit (.bool false)], args := [d1, d2, d3] }
  | _ => none }
def BlindGrowsWrongFalsely : Prop := blindGrowsRow.holds Try.pinned (OpenSpec.ofChange blindGrowsWrong)

/-- 'polyglotlaw26.BasePair': WHATEVER THE INPUT: true; the input reads as it did. -/
def basePairSpec : ChangeSpec := { name := "basePair", fn := fun _ => fun
  | [d] => { results := [.lit (.bool true)], args := [d] }
  | _ => none }
def basePairRow : OpenClaim := { program := "ythajahdjkmfnnaa", sum := "8d10d0fc8bb1999f8f8b23061062099168ae1de5a338cf9a23e6b8e86b962dc7", func := "polyglot/polyglotlaw26.BasePair", spec := "basePair", inPlace := ["slices.overlaps[polyglot/base.row]"], unfollowed := true, recurses := true, apart := false }
def BasePairSaid : Prop := basePairRow.holds Try.pinned (OpenSpec.ofChange basePairSpec)

/-- ITS FALSE NEIGHBOUR: 'it returns false'. Refute it at one input. -/
def basePairWrong : ChangeSpec := { name := "basePair", fn := fun _ => fun
  | [d] => { results := [.lit (.bool false)], args := [d] }
  | _ => none }
def BasePairWrongFalsely : Prop := basePairRow.holds Try.pinned (OpenSpec.ofChange basePairWrong)

/-- 'polyglotlaw44.EventGrows': WHATEVER THE INPUT: true; the input reads as it did. -/
def eventGrowsSpec : ChangeSpec := { name := "eventGrows", fn := fun _ => fun
  | [d1, d2] => { results := [.lit (.bool true)], args := [d1, d2] }
  | _ => none }
def eventGrowsRow : OpenClaim := { program := "ythajahdjkmfnnaa", sum := "8d10d0fc8bb1999f8f8b23061062099168ae1de5a338cf9a23e6b8e86b962dc7", func := "polyglot/polyglotlaw44.EventGrows", spec := "eventGrows", unfollowed := true, recurses := true, apart := false }
def EventGrowsSaid : Prop := eventGrowsRow.holds Try.pinned (OpenSpec.ofChange eventGrowsSpec)

/-- ITS FALSE NEIGHBOUR: 'it returns false'. Refute it at one input. -/
def eventGrowsWrong : ChangeSpec := { name := "eventGrows", fn := fun _ => fun
  | [d1, d2] => { results := [.lit (.bool false)], args := [d1, d2] }
  | _ => none }
def EventGrowsWrongFalsely : Prop := eventGrowsRow.holds Try.pinned (OpenSpec.ofChange eventGrowsWrong)

/-- 'polyglotlaw20.RingFair': WHATEVER THE INPUT: true; the input reads as it did. -/
def ringFairSpec : ChangeSpec := { name := "ringFair", fn := fun _ => fun
  | [d1, d2, d3, d4, d5] => { results := [.lit (.bool true)], args := [d1, d2, d3, d4, d5] }
  | _ => none }
def ringFairRow : OpenClaim := { program := "ythajahdjkmfnnaa", sum := "8d10d0fc8bb1999f8f8b23061062099168ae1de5a338cf9a23e6b8e86b962dc7", func := "polyglot/polyglotlaw20.RingFair", spec := "ringFair", inPlace := ["slices.overlaps[int]"], unfollowed := true, recurses := true, apart := false }
def RingFairSaid : Prop := ringFairRow.holds Try.pinned (OpenSpec.ofChange ringFairSpec)

/-- ITS FALSE NEIGHBOUR: 'it returns false'. Refute it at one input. -/
def ringFairWrong : ChangeSpec := { name := "ringFair", fn := fun _ => fun
  | [d1, d2, d3, d4, d5] => { results := [.lit (.bool false)], args := [d1, d2, d3, d4, d5] }
  | _ => none }
def RingFairWrongFalsely : Prop := ringFairRow.holds Try.pinned (OpenSpec.ofChange ringFairWrong)

/-- 'polyglotlaw20.RingTurns': WHATEVER THE INPUT: true; the input reads as it did. -/
def ringTurnsSpec : ChangeSpec := { name := "ringTurns", fn := fun _ => fun
  | [d1, d2] => { results := [.lit (.bool true)], args := [d1, d2] }
  | _ => none }
def ringTurnsRow : OpenClaim := { program := "ythajahdjkmfnnaa", sum := "8d10d0fc8bb1999f8f8b23061062099168ae1de5a338cf9a23e6b8e86b962dc7", func := "polyglot/polyglotlaw20.RingTurns", spec := "ringTurns", inPlace := ["slices.overlaps[int]"], unfollowed := true, recurses := true, apart := false }
def RingTurnsSaid : Prop := ringTurnsRow.holds Try.pinned (OpenSpec.ofChange ringTurnsSpec)

/-- ITS FALSE NEIGHBOUR: 'it returns false'. Refute it at one input. -/
def ringTurnsWrong : ChangeSpec := { name := "ringTurns", fn := fun _ => fun
  | [d1, d2] => { results := [.lit (.bool false)], args := [d1, d2] }
  | _ => none }
def RingTurnsWrongFalsely : Prop := ringTurnsRow.holds Try.pinned (OpenSpec.ofChange ringTurnsWrong)

/- THE SECOND FORM. 'bulk': how many values and letters a reading holds, each counted each time it is reached (what is shared counts as often as it is met; a slice's spare places count too). A statement '..UptoSaid' is the law's where the arguments, and the package variables that the reading takes, are together of bulk at most 1048576: NARROWER than '..Said'. Prove '..Said' where nothing that the law and all that it calls make is longer than what came in: it says more and counts as full. Else prove '..UptoSaid'. A law counts once. -/
mutual
def uptoBulk {H : Type} : DataW H → Nat
  | .lit (.string bytes) => bytes.length + 1
  | .lit _ => 1
  | .nil => 1
  | .ptr d => uptoBulk d + 1
  | .slice elems spare => uptoBulkAll elems + uptoBulkAll spare + 1
  | .agg parts => uptoBulkAll parts + 1
  | .iface _ d => uptoBulk d + 1
  | .map entries => uptoBulkEntries entries + 1
  | .held _ => 1
def uptoBulkAll {H : Type} : List (DataW H) → Nat
  | [] => 0
  | d :: r => uptoBulk d + uptoBulkAll r
def uptoBulkEntries {H : Type} : List (Lit × DataW H) → Nat
  | [] => 0
  | x :: r => uptoBulkEntry x + uptoBulkEntries r
def uptoBulkEntry {H : Type} : Lit × DataW H → Nat
  | (.string bytes, d) => bytes.length + uptoBulk d + 1
  | (_, d) => uptoBulk d + 1
 end
def uptoSmall : (H : Type) → List (DataW H) → Bool := fun _ ds => decide (uptoBulkAll ds ≤ 1048576)
def OpenSpec.upto (s : _root_.Go.ChangeSpec) : _root_.Go.OpenSpec := { _root_.Go.OpenSpec.ofChange s with cond := some uptoSmall }

/-- 'polyglotlaw47.RouteLinks', WHERE WHAT IT READS IS OF BULK AT MOST 1048576: true; the input reads as it did. -/
def routeLinksUptoRow : OpenClaim := { program := "ythajahdjkmfnnaa", sum := "8d10d0fc8bb1999f8f8b23061062099168ae1de5a338cf9a23e6b8e86b962dc7", func := "polyglot/polyglotlaw47.RouteLinks", spec := "routeLinks", unfollowed := true, recurses := true, apart := false, narrowed := true }
def RouteLinksUptoSaid : Prop := routeLinksUptoRow.holds Try.pinned (OpenSpec.upto routeLinksSpec)

/-- 'polyglotlaw14.DeltaBack', WHERE WHAT IT READS IS OF BULK AT MOST 1048576: true; the input reads as it did. -/
def deltaBackUptoRow : OpenClaim := { program := "ythajahdjkmfnnaa", sum := "8d10d0fc8bb1999f8f8b23061062099168ae1de5a338cf9a23e6b8e86b962dc7", func := "polyglot/polyglotlaw14.DeltaBack", spec := "deltaBack", unfollowed := true, recurses := true, apart := false, narrowed := true }
def DeltaBackUptoSaid : Prop := deltaBackUptoRow.holds Try.pinned (OpenSpec.upto deltaBackSpec)

/-- 'polyglotlaw44.EventSince', WHERE WHAT IT READS IS OF BULK AT MOST 1048576: true; the input reads as it did. -/
def eventSinceUptoRow : OpenClaim := { program := "ythajahdjkmfnnaa", sum := "8d10d0fc8bb1999f8f8b23061062099168ae1de5a338cf9a23e6b8e86b962dc7", func := "polyglot/polyglotlaw44.EventSince", spec := "eventSince", unfollowed := true, recurses := true, apart := false, narrowed := true }
def EventSinceUptoSaid : Prop := eventSinceUptoRow.holds Try.pinned (OpenSpec.upto eventSinceSpec)

/-- 'polyglotlaw14.DeltaLays', WHERE WHAT IT READS IS OF BULK AT MOST 1048576: true; the input reads as it did. -/
def deltaLaysUptoRow : OpenClaim := { program := "ythajahdjkmfnnaa", sum := "8d10d0fc8bb1999f8f8b23061062099168ae1de5a338cf9a23e6b8e86b962dc7", func := "polyglot/polyglotlaw14.DeltaLays", spec := "deltaLays", unfollowed := true, recurses := true, apart := false, narrowed := true }
def DeltaLaysUptoSaid : Prop := deltaLaysUptoRow.holds Try.pinned (OpenSpec.upto deltaLaysSpec)

/-- 'polyglotlaw32.PlanApplies', WHERE WHAT IT READS IS OF BULK AT MOST 1048576: true; the input reads as it did. -/
def planAppliesUptoRow : OpenClaim := { program := "ythajahdjkmfnnaa", sum := "8d10d0fc8bb1999f8f8b23061062099168ae1de5a338cf9a23e6b8e86b962dc7", func := "polyglot/polyglotlaw32.PlanApplies", spec := "planApplies", unfollowed := true, recurses := true, apart := false, narrowed := true }
def PlanAppliesUptoSaid : Prop := planAppliesUptoRow.holds Try.pinned (OpenSpec.upto planAppliesSpec)

/-- 'polyglotlaw32.PlanSafe', WHERE WHAT IT READS IS OF BULK AT MOST 1048576: true; the input reads as it did. -/
def planSafeUptoRow : OpenClaim := { program := "ythajahdjkmfnnaa", sum := "8d10d0fc8bb1999f8f8b23061062099168ae1de5a338cf9a23e6b8e86b962dc7", func := "polyglot/polyglotlaw32.PlanSafe", spec := "planSafe", unfollowed := true, recurses := true, apart := false, narrowed := true }
def PlanSafeUptoSaid : Prop := planSafeUptoRow.holds Try.pinned (OpenSpec.upto planSafeSpec)

/-- 'polyglotlaw26.BaseOuts', WHERE WHAT IT READS IS OF BULK AT MOST 1048576: true; the input reads as it did. -/
def baseOutsUptoRow : OpenClaim := { program := "ythajahdjkmfnnaa", sum := "8d10d0fc8bb1999f8f8b23061062099168ae1de5a338cf9a23e6b8e86b962dc7", func := "polyglot/polyglotlaw26.BaseOuts", spec := "baseOuts", unfollowed := true, recurses := true, apart := false, narrowed := true }
def BaseOutsUptoSaid : Prop := baseOutsUptoRow.holds Try.pinned (OpenSpec.upto baseOutsSpec)

/-- 'polyglotlaw25.MemberRefutes', WHERE WHAT IT READS IS OF BULK AT MOST 1048576: true; the input reads as it did. -/
def memberRefutesUptoRow : OpenClaim := { program := "ythajahdjkmfnnaa", sum := "8d10d0fc8bb1999f8f8b23061062099168ae1de5a338cf9a23e6b8e86b962dc7", func := "polyglot/polyglotlaw25.MemberRefutes", spec := "memberRefutes", unfollowed := true, recurses := true, apart := false, narrowed := true }
def MemberRefutesUptoSaid : Prop := memberRefutesUptoRow.holds Try.pinned (OpenSpec.upto memberRefutesSpec)

/-- 'polyglotlaw33.CoordBegins', WHERE WHAT IT READS IS OF BULK AT MOST 1048576: true; the input reads as it did. -/
def coordBeginsUptoRow : OpenClaim := { program := "ythajahdjkmfnnaa", sum := "8d10d0fc8bb1999f8f8b23061062099168ae1de5a338cf9a23e6b8e86b962dc7", func := "polyglot/polyglotlaw33.CoordBegins", spec := "coordBegins", inPlace := ["sync/atomic.AddInt64", "sync/atomic.StoreInt64", "sync/atomic.StoreUint32", "sync/atomic.LoadUint32", "(*internal/sync.Mutex).Lock", "internal/race.Disable", "sync/atomic.CompareAndSwapInt32", "internal/race.Enable", "internal/race.Acquire", "(*internal/sync.Mutex).lockSlow", "internal/sync.runtime_canSpin", "internal/sync.runtime_doSpin", "internal/sync.throw", "internal/sync.runtime_nanotime", "internal/sync.runtime_SemacquireMutex", "sync/atomic.AddInt32", "(*internal/sync.Mutex).Unlock", "internal/race.ReleaseMerge", "(*internal/sync.Mutex).unlockSlow", "internal/sync.fatal", "internal/sync.runtime_Semrelease", "sync/atomic.LoadInt64"], unfollowed := true, recurses := true, apart := false, narrowed := true }
def CoordBeginsUptoSaid : Prop := coordBeginsUptoRow.holds Try.pinned (OpenSpec.upto coordBeginsSpec)

/-- 'polyglotlaw33.CoordLeads', WHERE WHAT IT READS IS OF BULK AT MOST 1048576: true; the input reads as it did. -/
def coordLeadsUptoRow : OpenClaim := { program := "ythajahdjkmfnnaa", sum := "8d10d0fc8bb1999f8f8b23061062099168ae1de5a338cf9a23e6b8e86b962dc7", func := "polyglot/polyglotlaw33.CoordLeads", spec := "coordLeads", inPlace := ["sync/atomic.AddInt64", "sync/atomic.StoreInt64", "sync/atomic.StoreUint32", "sync/atomic.LoadUint32", "(*internal/sync.Mutex).Lock", "internal/race.Disable", "sync/atomic.CompareAndSwapInt32", "internal/race.Enable", "internal/race.Acquire", "(*internal/sync.Mutex).lockSlow", "internal/sync.runtime_canSpin", "internal/sync.runtime_doSpin", "internal/sync.throw", "internal/sync.runtime_nanotime", "internal/sync.runtime_SemacquireMutex", "sync/atomic.AddInt32", "(*internal/sync.Mutex).Unlock", "internal/race.ReleaseMerge", "(*internal/sync.Mutex).unlockSlow", "internal/sync.fatal", "internal/sync.runtime_Semrelease", "sync/atomic.LoadInt64"], unfollowed := true, recurses := true, apart := false, narrowed := true }
def CoordLeadsUptoSaid : Prop := coordLeadsUptoRow.holds Try.pinned (OpenSpec.upto coordLeadsSpec)

/-- 'polyglotlaw47.RouteHands', WHERE WHAT IT READS IS OF BULK AT MOST 1048576: true; the input reads as it did. -/
def routeHandsUptoRow : OpenClaim := { program := "ythajahdjkmfnnaa", sum := "8d10d0fc8bb1999f8f8b23061062099168ae1de5a338cf9a23e6b8e86b962dc7", func := "polyglot/polyglotlaw47.RouteHands", spec := "routeHands", unfollowed := true, recurses := true, apart := false, narrowed := true }
def RouteHandsUptoSaid : Prop := routeHandsUptoRow.holds Try.pinned (OpenSpec.upto routeHandsSpec)

/-- 'polyglotlaw25.MemberPlays', WHERE WHAT IT READS IS OF BULK AT MOST 1048576: true; the input reads as it did. -/
def memberPlaysUptoRow : OpenClaim := { program := "ythajahdjkmfnnaa", sum := "8d10d0fc8bb1999f8f8b23061062099168ae1de5a338cf9a23e6b8e86b962dc7", func := "polyglot/polyglotlaw25.MemberPlays", spec := "memberPlays", unfollowed := true, recurses := true, apart := false, narrowed := true }
def MemberPlaysUptoSaid : Prop := memberPlaysUptoRow.holds Try.pinned (OpenSpec.upto memberPlaysSpec)

/-- 'polyglotlaw25.MemberGrows', WHERE WHAT IT READS IS OF BULK AT MOST 1048576: true; the input reads as it did. -/
def memberGrowsUptoRow : OpenClaim := { program := "ythajahdjkmfnnaa", sum := "8d10d0fc8bb1999f8f8b23061062099168ae1de5a338cf9a23e6b8e86b962dc7", func := "polyglot/polyglotlaw25.MemberGrows", spec := "memberGrows", unfollowed := true, recurses := true, apart := false, narrowed := true }
def MemberGrowsUptoSaid : Prop := memberGrowsUptoRow.holds Try.pinned (OpenSpec.upto memberGrowsSpec)

/-- 'polyglotlaw21.TimerPlays', WHERE WHAT IT READS IS OF BULK AT MOST 1048576: true; the input reads as it did. -/
def timerPlaysUptoRow : OpenClaim := { program := "ythajahdjkmfnnaa", sum := "8d10d0fc8bb1999f8f8b23061062099168ae1de5a338cf9a23e6b8e86b962dc7", func := "polyglot/polyglotlaw21.TimerPlays", spec := "timerPlays", recurses := true, apart := false, narrowed := true }
def TimerPlaysUptoSaid : Prop := timerPlaysUptoRow.holds Try.pinned (OpenSpec.upto timerPlaysSpec)

/-- 'polyglotlaw21.TimerOnce', WHERE WHAT IT READS IS OF BULK AT MOST 1048576: true; the input reads as it did. -/
def timerOnceUptoRow : OpenClaim := { program := "ythajahdjkmfnnaa", sum := "8d10d0fc8bb1999f8f8b23061062099168ae1de5a338cf9a23e6b8e86b962dc7", func := "polyglot/polyglotlaw21.TimerOnce", spec := "timerOnce", recurses := true, apart := false, narrowed := true }
def TimerOnceUptoSaid : Prop := timerOnceUptoRow.holds Try.pinned (OpenSpec.upto timerOnceSpec)

/-- 'polyglotlaw23.PeersLearn', WHERE WHAT IT READS IS OF BULK AT MOST 1048576: true; the input reads as it did. -/
def peersLearnUptoRow : OpenClaim := { program := "ythajahdjkmfnnaa", sum := "8d10d0fc8bb1999f8f8b23061062099168ae1de5a338cf9a23e6b8e86b962dc7", func := "polyglot/polyglotlaw23.PeersLearn", spec := "peersLearn", recurses := true, apart := false, narrowed := true }
def PeersLearnUptoSaid : Prop := peersLearnUptoRow.holds Try.pinned (OpenSpec.upto peersLearnSpec)

/-- 'polyglotlaw26.BaseIns', WHERE WHAT IT READS IS OF BULK AT MOST 1048576: true; the input reads as it did. -/
def baseInsUptoRow : OpenClaim := { program := "ythajahdjkmfnnaa", sum := "8d10d0fc8bb1999f8f8b23061062099168ae1de5a338cf9a23e6b8e86b962dc7", func := "polyglot/polyglotlaw26.BaseIns", spec := "baseIns", inPlace := ["slices.overlaps[polyglot/base.row]"], unfollowed := true, recurses := true, apart := false, narrowed := true }
def BaseInsUptoSaid : Prop := baseInsUptoRow.holds Try.pinned (OpenSpec.upto baseInsSpec)

/-- 'polyglotlaw34.BlindPlays', WHERE WHAT IT READS IS OF BULK AT MOST 1048576: true; the input reads as it did. -/
def blindPlaysUptoRow : OpenClaim := { program := "ythajahdjkmfnnaa", sum := "8d10d0fc8bb1999f8f8b23061062099168ae1de5a338cf9a23e6b8e86b962dc7", func := "polyglot/polyglotlaw34.BlindPlays", spec := "blindPlays", unfollowed := true, recurses := true, apart := false, narrowed := true }
def BlindPlaysUptoSaid : Prop := blindPlaysUptoRow.holds Try.pinned (OpenSpec.upto blindPlaysSpec)

/-- 'polyglotlaw34.BlindGrows', WHERE WHAT IT READS IS OF BULK AT MOST 1048576: true; the input reads as it did. -/
def blindGrowsUptoRow : OpenClaim := { program := "ythajahdjkmfnnaa", sum := "8d10d0fc8bb1999f8f8b23061062099168ae1de5a338cf9a23e6b8e86b962dc7", func := "polyglot/polyglotlaw34.BlindGrows", spec := "blindGrows", unfollowed := true, recurses := true, apart := false, narrowed := true }
def BlindGrowsUptoSaid : Prop := blindGrowsUptoRow.holds Try.pinned (OpenSpec.upto blindGrowsSpec)

/-- 'polyglotlaw26.BasePair', WHERE WHAT IT READS IS OF BULK AT MOST 1048576: true; the input reads as it did. -/
def basePairUptoRow : OpenClaim := { program := "ythajahdjkmfnnaa", sum := "8d10d0fc8bb1999f8f8b23061062099168ae1de5a338cf9a23e6b8e86b962dc7", func := "polyglot/polyglotlaw26.BasePair", spec := "basePair", inPlace := ["slices.overlaps[polyglot/base.row]"], unfollowed := true, recurses := true, apart := false, narrowed := true }
def BasePairUptoSaid : Prop := basePairUptoRow.holds Try.pinned (OpenSpec.upto basePairSpec)

/-- 'polyglotlaw44.EventGrows', WHERE WHAT IT READS IS OF BULK AT MOST 1048576: true; the input reads as it did. -/
def eventGrowsUptoRow : OpenClaim := { program := "ythajahdjkmfnnaa", sum := "8d10d0fc8bb1999f8f8b23061062099168ae1de5a338cf9a23e6b8e86b962dc7", func := "polyglot/polyglotlaw44.EventGrows", spec := "eventGrows", unfollowed := true, recurses := true, apart := false, narrowed := true }
def EventGrowsUptoSaid : Prop := eventGrowsUptoRow.holds Try.pinned (OpenSpec.upto eventGrowsSpec)

/-- 'polyglotlaw20.RingFair', WHERE WHAT IT READS IS OF BULK AT MOST 1048576: true; the input reads as it did. -/
def ringFairUptoRow : OpenClaim := { program := "ythajahdjkmfnnaa", sum := "8d10d0fc8bb1999f8f8b23061062099168ae1de5a338cf9a23e6b8e86b962dc7", func := "polyglot/polyglotlaw20.RingFair", spec := "ringFair", inPlace := ["slices.overlaps[int]"], unfollowed := true, recurses := true, apart := false, narrowed := true }
def RingFairUptoSaid : Prop := ringFairUptoRow.holds Try.pinned (OpenSpec.upto ringFairSpec)

/-- 'polyglotlaw20.RingTurns', WHERE WHAT IT READS IS OF BULK AT MOST 1048576: true; the input reads as it did. -/
def ringTurnsUptoRow : OpenClaim := { program := "ythajahdjkmfnnaa", sum := "8d10d0fc8bb1999f8f8b23061062099168ae1de5a338cf9a23e6b8e86b962dc7", func := "polyglot/polyglotlaw20.RingTurns", spec := "ringTurns", inPlace := ["slices.overlaps[int]"], unfollowed := true, recurses := true, apart := false, narrowed := true }
def RingTurnsUptoSaid : Prop := ringTurnsUptoRow.holds Try.pinned (OpenSpec.upto ringTurnsSpec)

end Rows
end Go.Proofs.Ythajahdjkmfnnaa
