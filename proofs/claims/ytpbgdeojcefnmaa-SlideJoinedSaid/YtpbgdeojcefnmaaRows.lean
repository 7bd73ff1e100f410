/-
  No cell of these rows narrows 'for every input' (looked for: loops, veiled, ifaces, maps, wideKeys, modest, calm, conditions, laid).
  DERIVED. THE GIVEN ROWS OF THIS SEAT. 13 by the template 'for every input the law returns true; each argument reads behind the call as it read before'; 0 by the template 'total and deterministic' (their statements: YtpbgdeojcefnmaaTotals.lean).
  GIVEN WITH THE SEED: the statements are not yours to turn. If you find one false, say at which input.
  Laid BY PROGRAM, IN A SANDBOX (cutbox-rows.mjs): the forced cells as the released guide's own fill.sh prints them over the translation 3ea5126dc98559f0… (all of the seat's roots in one cut). By AI agents, Wed Nov 11 2026. No macro, syntax, notation, axiom, sorry.
-/
import Derived.Test.YtpbgdeojcefnmaaChecked
import GoSem.Claim
import GoSem.ClaimJoined
import GoSem.ClaimMapViews
import Derived.JoinedTies
import Derived.KernelRfl
namespace Go.Proofs.Ytpbgdeojcefnmaa
/- THE CELL 'sum', in the pinned program and in every row, IS THE sha256 OF THE DUMP (.gsa) THAT YtpbgdeojcefnmaaProg.lean LOADS. Nothing in Lean hashes anything: it is a label: what it is worth is what the hold of that sum in a sandbox is worth. -/
noncomputable def Try.pinned : Pinned := { name := "ytpbgdeojcefnmaa", sum := "3ea5126dc98559f0ac59cf742c5c8b1f074c34a7b98bc4fb8d6dd404590b11cc", checked := Try.checked }
namespace Rows
def none {H : Type} : Left H := { results := [], args := [] }

/-- 'kreisellaw03.SlideHeads': WHATEVER THE INPUT: true; the input reads as it did. -/
def slideHeadsSpec : ChangeSpec := { name := "slideHeads", fn := fun _ => fun
  | [d1, d2, d3, d4] => { results := [.lit (.bool true)], args := [d1, d2, d3, d4] }
  | _ => none }
def slideHeadsRow : OpenClaim := { program := "ytpbgdeojcefnmaa", sum := "3ea5126dc98559f0ac59cf742c5c8b1f074c34a7b98bc4fb8d6dd404590b11cc", func := "kreisel/kreisellaw03.SlideHeads", spec := "slideHeads", unfollowed := true, recurses := true, apart := false }
def SlideHeadsSaid : Prop := slideHeadsRow.holds Try.pinned (OpenSpec.ofChange slideHeadsSpec)

/-- ITS FALSE NEIGHBOUR: 'it returns false'. Refute it at one input. -/
def slideHeadsWrong : ChangeSpec := { name := "slideHeads", fn := fun _ => fun
  | [d1, d2, d3, d4] => { results := [.lit (.bool false)], args := [d1, d2, d3, d4] }
  | _ => none }
def SlideHeadsWrongFalsely : Prop := slideHeadsRow.holds Try.pinned (OpenSpec.ofChange slideHeadsWrong)

/-- 'kreisellaw03.SlideSafes': WHATEVER THE INPUT: true; the input reads as it did. -/
def slideSafesSpec : ChangeSpec := { name := "slideSafes", fn := fun _ => fun
  | [d1, d2, d3] => { results := [.lit (.bool true)], args := [d1, d2, d3] }
  | _ => none }
def slideSafesRow : OpenClaim := { program := "ytpbgdeojcefnmaa", sum := "3ea5126dc98559f0ac59cf742c5c8b1f074c34a7b98bc4fb8d6dd404590b11cc", func := "kreisel/kreisellaw03.SlideSafes", spec := "slideSafes", unfollowed := true, recurses := true, apart := false }
def SlideSafesSaid : Prop := slideSafesRow.holds Try.pinned (OpenSpec.ofChange slideSafesSpec)

/-- ITS FALSE NEIGHBOUR: 'it returns false'. Refute it at one input. -/
def slideSafesWrong : ChangeSpec := { name := "slideSafes", fn := fun _ => fun
  | [d1, d2, d3] => { results := [.lit (.bool false)], args := [d1, d2, d3] }
  | _ => none }
def SlideSafesWrongFalsely : Prop := slideSafesRow.holds Try.pinned (OpenSpec.ofChange slideSafesWrong)

/-- 'kreisellaw03.SlideWithin': WHATEVER THE INPUT: true; the input reads as it did. -/
def slideWithinSpec : ChangeSpec := { name := "slideWithin", fn := fun _ => fun
  | [d1, d2, d3] => { results := [.lit (.bool true)], args := [d1, d2, d3] }
  | _ => none }
def slideWithinRow : OpenClaim := { program := "ytpbgdeojcefnmaa", sum := "3ea5126dc98559f0ac59cf742c5c8b1f074c34a7b98bc4fb8d6dd404590b11cc", func := "kreisel/kreisellaw03.SlideWithin", spec := "slideWithin", unfollowed := true, recurses := true, apart := false }
def SlideWithinSaid : Prop := slideWithinRow.holds Try.pinned (OpenSpec.ofChange slideWithinSpec)

/-- ITS FALSE NEIGHBOUR: 'it returns false'. Refute it at one input. -/
def slideWithinWrong : ChangeSpec := { name := "slideWithin", fn := fun _ => fun
  | [d1, d2, d3] => { results := [.lit (.bool false)], args := [d1, d2, d3] }
  | _ => none }
def SlideWithinWrongFalsely : Prop := slideWithinRow.holds Try.pinned (OpenSpec.ofChange slideWithinWrong)

/-- 'kreisellaw03.SlideEnds': WHATEVER THE INPUT: true; the input reads as it did. -/
def slideEndsSpec : ChangeSpec := { name := "slideEnds", fn := fun _ => fun
  | [d1, d2] => { results := [.lit (.bool true)], args := [d1, d2] }
  | _ => none }
def slideEndsRow : OpenClaim := { program := "ytpbgdeojcefnmaa", sum := "3ea5126dc98559f0ac59cf742c5c8b1f074c34a7b98bc4fb8d6dd404590b11cc", func := "kreisel/kreisellaw03.SlideEnds", spec := "slideEnds", unfollowed := true, recurses := true, apart := false }
def SlideEndsSaid : Prop := slideEndsRow.holds Try.pinned (OpenSpec.ofChange slideEndsSpec)

/-- ITS FALSE NEIGHBOUR: 'it returns false'. Refute it at one input. -/
def slideEndsWrong : ChangeSpec := { name := "slideEnds", fn := fun _ => fun
  | [d1, d2] => { results := [.lit (.bool false)], args := [d1, d2] }
  | _ => none }
def SlideEndsWrongFalsely : Prop := slideEndsRow.holds Try.pinned (OpenSpec.ofChange slideEndsWrong)

/-- 'kreisellaw03.SlideThrown': WHATEVER THE INPUT: true; the input reads as it did. -/
def slideThrownSpec : ChangeSpec := { name := "slideThrown", fn := fun _ => fun
  | [d1, d2, d3] => { results := [.lit (.bool true)], args := [d1, d2, d3] }
  | _ => none }
def slideThrownRow : OpenClaim := { program := "ytpbgdeojcefnmaa", sum := "3ea5126dc98559f0ac59cf742c5c8b1f074c34a7b98bc4fb8d6dd404590b11cc", func := "kreisel/kreisellaw03.SlideThrown", spec := "slideThrown", unfollowed := true, recurses := true, apart := false }
def SlideThrownSaid : Prop := slideThrownRow.holds Try.pinned (OpenSpec.ofChange slideThrownSpec)

/-- ITS FALSE NEIGHBOUR: 'it returns false'. Refute it at one input. -/
def slideThrownWrong : ChangeSpec := { name := "slideThrown", fn := fun _ => fun
  | [d1, d2, d3] => { results := [.lit (.bool false)], args := [d1, d2, d3] }
  | _ => none }
def SlideThrownWrongFalsely : Prop := slideThrownRow.holds Try.pinned (OpenSpec.ofChange slideThrownWrong)

/-- 'kreisellaw03.SlideMore': WHATEVER THE INPUT: true; the input reads as it did. -/
def slideMoreSpec : ChangeSpec := { name := "slideMore", fn := fun _ => fun
  | [d1, d2, d3, d4] => { results := [.lit (.bool true)], args := [d1, d2, d3, d4] }
  | _ => none }
def slideMoreRow : OpenClaim := { program := "ytpbgdeojcefnmaa", sum := "3ea5126dc98559f0ac59cf742c5c8b1f074c34a7b98bc4fb8d6dd404590b11cc", func := "kreisel/kreisellaw03.SlideMore", spec := "slideMore", unfollowed := true, recurses := true, apart := false }
def SlideMoreSaid : Prop := slideMoreRow.holds Try.pinned (OpenSpec.ofChange slideMoreSpec)

/-- ITS FALSE NEIGHBOUR: 'it returns false'. Refute it at one input. -/
def slideMoreWrong : ChangeSpec := { name := "slideMore", fn := fun _ => fun
  | [d1, d2, d3, d4] => { results := [.lit (.bool false)], args := [d1, d2, d3, d4] }
  | _ => none }
def SlideMoreWrongFalsely : Prop := slideMoreRow.holds Try.pinned (OpenSpec.ofChange slideMoreWrong)

/-- 'kreisellaw03.SlideStart': WHATEVER THE INPUT: true; the input reads as it did. -/
def slideStartSpec : ChangeSpec := { name := "slideStart", fn := fun _ => fun
  | [d1, d2, d3] => { results := [.lit (.bool true)], args := [d1, d2, d3] }
  | _ => none }
def slideStartRow : OpenClaim := { program := "ytpbgdeojcefnmaa", sum := "3ea5126dc98559f0ac59cf742c5c8b1f074c34a7b98bc4fb8d6dd404590b11cc", func := "kreisel/kreisellaw03.SlideStart", spec := "slideStart", unfollowed := true, recurses := true, apart := false }
def SlideStartSaid : Prop := slideStartRow.holds Try.pinned (OpenSpec.ofChange slideStartSpec)

/-- ITS FALSE NEIGHBOUR: 'it returns false'. Refute it at one input. -/
def slideStartWrong : ChangeSpec := { name := "slideStart", fn := fun _ => fun
  | [d1, d2, d3] => { results := [.lit (.bool false)], args := [d1, d2, d3] }
  | _ => none }
def SlideStartWrongFalsely : Prop := slideStartRow.holds Try.pinned (OpenSpec.ofChange slideStartWrong)

/-- 'kreisellaw03.SlideWalls': WHATEVER THE INPUT: true; the input reads as it did. -/
def slideWallsSpec : ChangeSpec := { name := "slideWalls", fn := fun _ => fun
  | [d1, d2] => { results := [.lit (.bool true)], args := [d1, d2] }
  | _ => none }
def slideWallsRow : OpenClaim := { program := "ytpbgdeojcefnmaa", sum := "3ea5126dc98559f0ac59cf742c5c8b1f074c34a7b98bc4fb8d6dd404590b11cc", func := "kreisel/kreisellaw03.SlideWalls", spec := "slideWalls", unfollowed := true, recurses := true, apart := false }
def SlideWallsSaid : Prop := slideWallsRow.holds Try.pinned (OpenSpec.ofChange slideWallsSpec)

/-- ITS FALSE NEIGHBOUR: 'it returns false'. Refute it at one input. -/
def slideWallsWrong : ChangeSpec := { name := "slideWalls", fn := fun _ => fun
  | [d1, d2] => { results := [.lit (.bool false)], args := [d1, d2] }
  | _ => none }
def SlideWallsWrongFalsely : Prop := slideWallsRow.holds Try.pinned (OpenSpec.ofChange slideWallsWrong)

/-- 'kreisellaw03.SlideShut': WHATEVER THE INPUT: true; the input reads as it did. -/
def slideShutSpec : ChangeSpec := { name := "slideShut", fn := fun _ => fun
  | [d1, d2] => { results := [.lit (.bool true)], args := [d1, d2] }
  | _ => none }
def slideShutRow : OpenClaim := { program := "ytpbgdeojcefnmaa", sum := "3ea5126dc98559f0ac59cf742c5c8b1f074c34a7b98bc4fb8d6dd404590b11cc", func := "kreisel/kreisellaw03.SlideShut", spec := "slideShut", unfollowed := true, recurses := true, apart := false }
def SlideShutSaid : Prop := slideShutRow.holds Try.pinned (OpenSpec.ofChange slideShutSpec)

/-- ITS FALSE NEIGHBOUR: 'it returns false'. Refute it at one input. -/
def slideShutWrong : ChangeSpec := { name := "slideShut", fn := fun _ => fun
  | [d1, d2] => { results := [.lit (.bool false)], args := [d1, d2] }
  | _ => none }
def SlideShutWrongFalsely : Prop := slideShutRow.holds Try.pinned (OpenSpec.ofChange slideShutWrong)

/-- 'kreisellaw03.SlideJoined': WHATEVER THE INPUT: true; the input reads as it did. -/
def slideJoinedSpec : ChangeSpec := { name := "slideJoined", fn := fun _ => fun
  | [d1, d2, d3] => { results := [.lit (.bool true)], args := [d1, d2, d3] }
  | _ => none }
def slideJoinedRow : OpenClaim := { program := "ytpbgdeojcefnmaa", sum := "3ea5126dc98559f0ac59cf742c5c8b1f074c34a7b98bc4fb8d6dd404590b11cc", func := "kreisel/kreisellaw03.SlideJoined", spec := "slideJoined", unfollowed := true, recurses := true, apart := false }
def SlideJoinedSaid : Prop := slideJoinedRow.holds Try.pinned (OpenSpec.ofChange slideJoinedSpec)

/-- ITS FALSE NEIGHBOUR: 'it returns false'. Refute it at one input. -/
def slideJoinedWrong : ChangeSpec := { name := "slideJoined", fn := fun _ => fun
  | [d1, d2, d3] => { results := [.lit (.bool false)], args := [d1, d2, d3] }
  | _ => none }
def SlideJoinedWrongFalsely : Prop := slideJoinedRow.holds Try.pinned (OpenSpec.ofChange slideJoinedWrong)

/-- 'kreisellaw03.SlideExamples': WHATEVER THE INPUT: true; the input reads as it did. -/
def slideExamplesSpec : ChangeSpec := { name := "slideExamples", fn := fun _ => fun
  | [] => { results := [.lit (.bool true)], args := [] }
  | _ => none }
def slideExamplesRow : OpenClaim := { program := "ytpbgdeojcefnmaa", sum := "3ea5126dc98559f0ac59cf742c5c8b1f074c34a7b98bc4fb8d6dd404590b11cc", func := "kreisel/kreisellaw03.SlideExamples", spec := "slideExamples", unfollowed := true, recurses := true, apart := false }
def SlideExamplesSaid : Prop := slideExamplesRow.holds Try.pinned (OpenSpec.ofChange slideExamplesSpec)

/-- ITS FALSE NEIGHBOUR: 'it returns false'. Refute it at one input. -/
def slideExamplesWrong : ChangeSpec := { name := "slideExamples", fn := fun _ => fun
  | [] => { results := [.lit (.bool false)], args := [] }
  | _ => none }
def SlideExamplesWrongFalsely : Prop := slideExamplesRow.holds Try.pinned (OpenSpec.ofChange slideExamplesWrong)

/-- 'kreisellaw03.SlideLeast': WHATEVER THE INPUT: true; the input reads as it did. -/
def slideLeastSpec : ChangeSpec := { name := "slideLeast", fn := fun _ => fun
  | [d1, d2, d3, d4] => { results := [.lit (.bool true)], args := [d1, d2, d3, d4] }
  | _ => none }
def slideLeastRow : OpenClaim := { program := "ytpbgdeojcefnmaa", sum := "3ea5126dc98559f0ac59cf742c5c8b1f074c34a7b98bc4fb8d6dd404590b11cc", func := "kreisel/kreisellaw03.SlideLeast", spec := "slideLeast", unfollowed := true, recurses := true, apart := false }
def SlideLeastSaid : Prop := slideLeastRow.holds Try.pinned (OpenSpec.ofChange slideLeastSpec)

/-- ITS FALSE NEIGHBOUR: 'it returns false'. Refute it at one input. -/
def slideLeastWrong : ChangeSpec := { name := "slideLeast", fn := fun _ => fun
  | [d1, d2, d3, d4] => { results := [.lit (.bool false)], args := [d1, d2, d3, d4] }
  | _ => none }
def SlideLeastWrongFalsely : Prop := slideLeastRow.holds Try.pinned (OpenSpec.ofChange slideLeastWrong)

/-- 'kreisellaw03.SlideNarrow': WHATEVER THE INPUT: true; the input reads as it did. -/
def slideNarrowSpec : ChangeSpec := { name := "slideNarrow", fn := fun _ => fun
  | [d1, d2, d3] => { results := [.lit (.bool true)], args := [d1, d2, d3] }
  | _ => none }
def slideNarrowRow : OpenClaim := { program := "ytpbgdeojcefnmaa", sum := "3ea5126dc98559f0ac59cf742c5c8b1f074c34a7b98bc4fb8d6dd404590b11cc", func := "kreisel/kreisellaw03.SlideNarrow", spec := "slideNarrow", unfollowed := true, recurses := true, apart := false }
def SlideNarrowSaid : Prop := slideNarrowRow.holds Try.pinned (OpenSpec.ofChange slideNarrowSpec)

/-- ITS FALSE NEIGHBOUR: 'it returns false'. Refute it at one input. -/
def slideNarrowWrong : ChangeSpec := { name := "slideNarrow", fn := fun _ => fun
  | [d1, d2, d3] => { results := [.lit (.bool false)], args := [d1, d2, d3] }
  | _ => none }
def SlideNarrowWrongFalsely : Prop := slideNarrowRow.holds Try.pinned (OpenSpec.ofChange slideNarrowWrong)

/- THE SECOND FORM. 'bulk': how many values and letters a reading holds, each counted each time it is reached (what is shared counts as often as it is met; a slice's spare places count too). A statement '..UptoSaid' is the law's where the arguments, and the package variables that the reading takes, are together of bulk at most 1048576: NARROWER than '..Said'. Prove '..Said' where nothing that the law and all that it calls make is longer than what came in: it says more and counts as full. Else prove '..UptoSaid'. A law counts once. -/
mutual
def uptoBulk {H : Type} : DataW H → Nat
  | .lit (.string bytes) => bytes.length + 1
  | .lit _ => 1
  | .nil => 1
  | .ptr d => uptoBulk d + 1
  | .slice elems spare => uptoBulkAll elems + uptoBulkAll spare + 1
  | .agg parts => uptoBulkAll parts + 1
  | .iface _ d => uptoBulk d + 1
  | .map entries => uptoBulkEntries entries + 1
  | .held _ => 1
def uptoBulkAll {H : Type} : List (DataW H) → Nat
  | [] => 0
  | d :: r => uptoBulk d + uptoBulkAll r
def uptoBulkEntries {H : Type} : List (Lit × DataW H) → Nat
  | [] => 0
  | x :: r => uptoBulkEntry x + uptoBulkEntries r
def uptoBulkEntry {H : Type} : Lit × DataW H → Nat
  | (.string bytes, d) => bytes.length + uptoBulk d + 1
  | (_, d) => uptoBulk d + 1
 end
def uptoSmall : (H : Type) → List (DataW H) → Bool := fun _ ds => decide (uptoBulkAll ds ≤ 1048576)
def OpenSpec.upto (s : _root_.Go.ChangeSpec) : _root_.Go.OpenSpec := { _root_.Go.OpenSpec.ofChange s with cond := some uptoSmall }

/-- 'kreisellaw03.SlideHeads', WHERE WHAT IT READS IS OF BULK AT MOST 1048576: true; the input reads as it did. -/
def slideHeadsUptoRow : OpenClaim := { program := "ytpbgdeojcefnmaa", sum := "3ea5126dc98559f0ac59cf742c5c8b1f074c34a7b98bc4fb8d6dd404590b11cc", func := "kreisel/kreisellaw03.SlideHeads", spec := "slideHeads", unfollowed := true, recurses := true, apart := false, narrowed := true }
def SlideHeadsUptoSaid : Prop := slideHeadsUptoRow.holds Try.pinned (OpenSpec.upto slideHeadsSpec)

/-- 'kreisellaw03.SlideSafes', WHERE WHAT IT READS IS OF BULK AT MOST 1048576: true; the input reads as it did. -/
def slideSafesUptoRow : OpenClaim := { program := "ytpbgdeojcefnmaa", sum := "3ea5126dc98559f0ac59cf742c5c8b1f074c34a7b98bc4fb8d6dd404590b11cc", func := "kreisel/kreisellaw03.SlideSafes", spec := "slideSafes", unfollowed := true, recurses := true, apart := false, narrowed := true }
def SlideSafesUptoSaid : Prop := slideSafesUptoRow.holds Try.pinned (OpenSpec.upto slideSafesSpec)

/-- 'kreisellaw03.SlideWithin', WHERE WHAT IT READS IS OF BULK AT MOST 1048576: true; the input reads as it did. -/
def slideWithinUptoRow : OpenClaim := { program := "ytpbgdeojcefnmaa", sum := "3ea5126dc98559f0ac59cf742c5c8b1f074c34a7b98bc4fb8d6dd404590b11cc", func := "kreisel/kreisellaw03.SlideWithin", spec := "slideWithin", unfollowed := true, recurses := true, apart := false, narrowed := true }
def SlideWithinUptoSaid : Prop := slideWithinUptoRow.holds Try.pinned (OpenSpec.upto slideWithinSpec)

/-- 'kreisellaw03.SlideEnds', WHERE WHAT IT READS IS OF BULK AT MOST 1048576: true; the input reads as it did. -/
def slideEndsUptoRow : OpenClaim := { program := "ytpbgdeojcefnmaa", sum := "3ea5126dc98559f0ac59cf742c5c8b1f074c34a7b98bc4fb8d6dd404590b11cc", func := "kreisel/kreisellaw03.SlideEnds", spec := "slideEnds", unfollowed := true, recurses := true, apart := false, narrowed := true }
def SlideEndsUptoSaid : Prop := slideEndsUptoRow.holds Try.pinned (OpenSpec.upto slideEndsSpec)

/-- 'kreisellaw03.SlideThrown', WHERE WHAT IT READS IS OF BULK AT MOST 1048576: true; the input reads as it did. -/
def slideThrownUptoRow : OpenClaim := { program := "ytpbgdeojcefnmaa", sum := "3ea5126dc98559f0ac59cf742c5c8b1f074c34a7b98bc4fb8d6dd404590b11cc", func := "kreisel/kreisellaw03.SlideThrown", spec := "slideThrown", unfollowed := true, recurses := true, apart := false, narrowed := true }
def SlideThrownUptoSaid : Prop := slideThrownUptoRow.holds Try.pinned (OpenSpec.upto slideThrownSpec)

/-- 'kreisellaw03.SlideMore', WHERE WHAT IT READS IS OF BULK AT MOST 1048576: true; the input reads as it did. -/
def slideMoreUptoRow : OpenClaim := { program := "ytpbgdeojcefnmaa", sum := "3ea5126dc98559f0ac59cf742c5c8b1f074c34a7b98bc4fb8d6dd404590b11cc", func := "kreisel/kreisellaw03.SlideMore", spec := "slideMore", unfollowed := true, recurses := true, apart := false, narrowed := true }
def SlideMoreUptoSaid : Prop := slideMoreUptoRow.holds Try.pinned (OpenSpec.upto slideMoreSpec)

/-- 'kreisellaw03.SlideStart', WHERE WHAT IT READS IS OF BULK AT MOST 1048576: true; the input reads as it did. -/
def slideStartUptoRow : OpenClaim := { program := "ytpbgdeojcefnmaa", sum := "3ea5126dc98559f0ac59cf742c5c8b1f074c34a7b98bc4fb8d6dd404590b11cc", func := "kreisel/kreisellaw03.SlideStart", spec := "slideStart", unfollowed := true, recurses := true, apart := false, narrowed := true }
def SlideStartUptoSaid : Prop := slideStartUptoRow.holds Try.pinned (OpenSpec.upto slideStartSpec)

/-- 'kreisellaw03.SlideWalls', WHERE WHAT IT READS IS OF BULK AT MOST 1048576: true; the input reads as it did. -/
def slideWallsUptoRow : OpenClaim := { program := "ytpbgdeojcefnmaa", sum := "3ea5126dc98559f0ac59cf742c5c8b1f074c34a7b98bc4fb8d6dd404590b11cc", func := "kreisel/kreisellaw03.SlideWalls", spec := "slideWalls", unfollowed := true, recurses := true, apart := false, narrowed := true }
def SlideWallsUptoSaid : Prop := slideWallsUptoRow.holds Try.pinned (OpenSpec.upto slideWallsSpec)

/-- 'kreisellaw03.SlideShut', WHERE WHAT IT READS IS OF BULK AT MOST 1048576: true; the input reads as it did. -/
def slideShutUptoRow : OpenClaim := { program := "ytpbgdeojcefnmaa", sum := "3ea5126dc98559f0ac59cf742c5c8b1f074c34a7b98bc4fb8d6dd404590b11cc", func := "kreisel/kreisellaw03.SlideShut", spec := "slideShut", unfollowed := true, recurses := true, apart := false, narrowed := true }
def SlideShutUptoSaid : Prop := slideShutUptoRow.holds Try.pinned (OpenSpec.upto slideShutSpec)

/-- 'kreisellaw03.SlideJoined', WHERE WHAT IT READS IS OF BULK AT MOST 1048576: true; the input reads as it did. -/
def slideJoinedUptoRow : OpenClaim := { program := "ytpbgdeojcefnmaa", sum := "3ea5126dc98559f0ac59cf742c5c8b1f074c34a7b98bc4fb8d6dd404590b11cc", func := "kreisel/kreisellaw03.SlideJoined", spec := "slideJoined", unfollowed := true, recurses := true, apart := false, narrowed := true }
def SlideJoinedUptoSaid : Prop := slideJoinedUptoRow.holds Try.pinned (OpenSpec.upto slideJoinedSpec)

/-- 'kreisellaw03.SlideExamples', WHERE WHAT IT READS IS OF BULK AT MOST 1048576: true; the input reads as it did. -/
def slideExamplesUptoRow : OpenClaim := { program := "ytpbgdeojcefnmaa", sum := "3ea5126dc98559f0ac59cf742c5c8b1f074c34a7b98bc4fb8d6dd404590b11cc", func := "kreisel/kreisellaw03.SlideExamples", spec := "slideExamples", unfollowed := true, recurses := true, apart := false, narrowed := true }
def SlideExamplesUptoSaid : Prop := slideExamplesUptoRow.holds Try.pinned (OpenSpec.upto slideExamplesSpec)

/-- 'kreisellaw03.SlideLeast', WHERE WHAT IT READS IS OF BULK AT MOST 1048576: true; the input reads as it did. -/
def slideLeastUptoRow : OpenClaim := { program := "ytpbgdeojcefnmaa", sum := "3ea5126dc98559f0ac59cf742c5c8b1f074c34a7b98bc4fb8d6dd404590b11cc", func := "kreisel/kreisellaw03.SlideLeast", spec := "slideLeast", unfollowed := true, recurses := true, apart := false, narrowed := true }
def SlideLeastUptoSaid : Prop := slideLeastUptoRow.holds Try.pinned (OpenSpec.upto slideLeastSpec)

/-- 'kreisellaw03.SlideNarrow', WHERE WHAT IT READS IS OF BULK AT MOST 1048576: true; the input reads as it did. -/
def slideNarrowUptoRow : OpenClaim := { program := "ytpbgdeojcefnmaa", sum := "3ea5126dc98559f0ac59cf742c5c8b1f074c34a7b98bc4fb8d6dd404590b11cc", func := "kreisel/kreisellaw03.SlideNarrow", spec := "slideNarrow", unfollowed := true, recurses := true, apart := false, narrowed := true }
def SlideNarrowUptoSaid : Prop := slideNarrowUptoRow.holds Try.pinned (OpenSpec.upto slideNarrowSpec)

end Rows
end Go.Proofs.Ytpbgdeojcefnmaa
