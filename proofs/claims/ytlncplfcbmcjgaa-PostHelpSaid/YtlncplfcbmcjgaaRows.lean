/-
  No cell of these rows narrows 'for every input' (looked for: loops, veiled, ifaces, maps, wideKeys, modest, calm, conditions, laid).
  DERIVED. THE GIVEN ROWS OF THIS SEAT. 10 by the template 'for every input the law returns true; each argument reads behind the call as it read before'; 0 by the template 'total and deterministic' (their statements: YtlncplfcbmcjgaaTotals.lean).
  GIVEN WITH THE SEED: the statements are not yours to turn. If you find one false, say at which input.
  Laid BY PROGRAM, IN A SANDBOX (cutbox-rows.mjs): the forced cells as the released guide's own fill.sh prints them over the translation e354b509fdad4e0f… (all of the seat's roots in one cut). By AI agents, Wed Nov 11 2026. No macro, syntax, notation, axiom, sorry.
-/
import Derived.Test.YtlncplfcbmcjgaaChecked
import GoSem.Claim
import GoSem.ClaimJoined
import GoSem.ClaimMapViews
import Derived.JoinedTies
import Derived.KernelRfl
namespace Go.Proofs.Ytlncplfcbmcjgaa
/- THE CELL 'sum', in the pinned program and in every row, IS THE sha256 OF THE DUMP (.gsa) THAT YtlncplfcbmcjgaaProg.lean LOADS. Nothing in Lean hashes anything: it is a label: what it is worth is what the hold of that sum in a sandbox is worth. -/
noncomputable def Try.pinned : Pinned := { name := "ytlncplfcbmcjgaa", sum := "e354b509fdad4e0f58ceefdac149ffdd33bc962ceba813b5405a8bee59d43fe6", checked := Try.checked }
namespace Rows
def none {H : Type} : Left H := { results := [], args := [] }

/-- 'kreisellaw09.PostTimes': WHATEVER THE INPUT: true; the input reads as it did. -/
def postTimesSpec : ChangeSpec := { name := "postTimes", fn := fun _ => fun
  | [d1, d2, d3, d4, d5] => { results := [.lit (.bool true)], args := [d1, d2, d3, d4, d5] }
  | _ => none }
def postTimesRow : OpenClaim := { program := "ytlncplfcbmcjgaa", sum := "e354b509fdad4e0f58ceefdac149ffdd33bc962ceba813b5405a8bee59d43fe6", func := "kreisel/kreisellaw09.PostTimes", spec := "postTimes", unfollowed := true, recurses := true, apart := false }
def PostTimesSaid : Prop := postTimesRow.holds Try.pinned (OpenSpec.ofChange postTimesSpec)

/-- ITS FALSE NEIGHBOUR: 'it returns false'. Refute it at one input. -/
def postTimesWrong : ChangeSpec := { name := "postTimes", fn := fun _ => fun
  | [d1, d2, d3, d4, d5] => { results := [.lit (.bool false)], args := [d1, d2, d3, d4, d5] }
  | _ => none }
def PostTimesWrongFalsely : Prop := postTimesRow.holds Try.pinned (OpenSpec.ofChange postTimesWrong)

/-- 'kreisellaw09.PostHelp': WHATEVER THE INPUT: true; the input reads as it did. -/
def postHelpSpec : ChangeSpec := { name := "postHelp", fn := fun _ => fun
  | [d1, d2, d3, d4] => { results := [.lit (.bool true)], args := [d1, d2, d3, d4] }
  | _ => none }
def postHelpRow : OpenClaim := { program := "ytlncplfcbmcjgaa", sum := "e354b509fdad4e0f58ceefdac149ffdd33bc962ceba813b5405a8bee59d43fe6", func := "kreisel/kreisellaw09.PostHelp", spec := "postHelp", unfollowed := true, recurses := true, apart := false }
def PostHelpSaid : Prop := postHelpRow.holds Try.pinned (OpenSpec.ofChange postHelpSpec)

/-- ITS FALSE NEIGHBOUR: 'it returns false'. Refute it at one input. -/
def postHelpWrong : ChangeSpec := { name := "postHelp", fn := fun _ => fun
  | [d1, d2, d3, d4] => { results := [.lit (.bool false)], args := [d1, d2, d3, d4] }
  | _ => none }
def PostHelpWrongFalsely : Prop := postHelpRow.holds Try.pinned (OpenSpec.ofChange postHelpWrong)

/-- 'kreisellaw09.PostFar': WHATEVER THE INPUT: true; the input reads as it did. -/
def postFarSpec : ChangeSpec := { name := "postFar", fn := fun _ => fun
  | [d1, d2, d3, d4] => { results := [.lit (.bool true)], args := [d1, d2, d3, d4] }
  | _ => none }
def postFarRow : OpenClaim := { program := "ytlncplfcbmcjgaa", sum := "e354b509fdad4e0f58ceefdac149ffdd33bc962ceba813b5405a8bee59d43fe6", func := "kreisel/kreisellaw09.PostFar", spec := "postFar", unfollowed := true, recurses := true, apart := false }
def PostFarSaid : Prop := postFarRow.holds Try.pinned (OpenSpec.ofChange postFarSpec)

/-- ITS FALSE NEIGHBOUR: 'it returns false'. Refute it at one input. -/
def postFarWrong : ChangeSpec := { name := "postFar", fn := fun _ => fun
  | [d1, d2, d3, d4] => { results := [.lit (.bool false)], args := [d1, d2, d3, d4] }
  | _ => none }
def PostFarWrongFalsely : Prop := postFarRow.holds Try.pinned (OpenSpec.ofChange postFarWrong)

/-- 'kreisellaw09.PostSpare': WHATEVER THE INPUT: true; the input reads as it did. -/
def postSpareSpec : ChangeSpec := { name := "postSpare", fn := fun _ => fun
  | [d] => { results := [.lit (.bool true)], args := [d] }
  | _ => none }
def postSpareRow : OpenClaim := { program := "ytlncplfcbmcjgaa", sum := "e354b509fdad4e0f58ceefdac149ffdd33bc962ceba813b5405a8bee59d43fe6", func := "kreisel/kreisellaw09.PostSpare", spec := "postSpare", unfollowed := true, recurses := true, apart := false }
def PostSpareSaid : Prop := postSpareRow.holds Try.pinned (OpenSpec.ofChange postSpareSpec)

/-- ITS FALSE NEIGHBOUR: 'it returns false'. Refute it at one input. -/
def postSpareWrong : ChangeSpec := { name := "postSpare", fn := fun _ => fun
  | [d] => { results := [.lit (.bool false)], args := [d] }
  | _ => none }
def PostSpareWrongFalsely : Prop := postSpareRow.holds Try.pinned (OpenSpec.ofChange postSpareWrong)

/-- 'kreisellaw09.PostHeard': WHATEVER THE INPUT: true; the input reads as it did. -/
def postHeardSpec : ChangeSpec := { name := "postHeard", fn := fun _ => fun
  | [d1, d2] => { results := [.lit (.bool true)], args := [d1, d2] }
  | _ => none }
def postHeardRow : OpenClaim := { program := "ytlncplfcbmcjgaa", sum := "e354b509fdad4e0f58ceefdac149ffdd33bc962ceba813b5405a8bee59d43fe6", func := "kreisel/kreisellaw09.PostHeard", spec := "postHeard", unfollowed := true, recurses := true, apart := false }
def PostHeardSaid : Prop := postHeardRow.holds Try.pinned (OpenSpec.ofChange postHeardSpec)

/-- ITS FALSE NEIGHBOUR: 'it returns false'. Refute it at one input. -/
def postHeardWrong : ChangeSpec := { name := "postHeard", fn := fun _ => fun
  | [d1, d2] => { results := [.lit (.bool false)], args := [d1, d2] }
  | _ => none }
def PostHeardWrongFalsely : Prop := postHeardRow.holds Try.pinned (OpenSpec.ofChange postHeardWrong)

/-- 'kreisellaw09.PostExamples': WHATEVER THE INPUT: true; the input reads as it did. -/
def postExamplesSpec : ChangeSpec := { name := "postExamples", fn := fun _ => fun
  | [] => { results := [.lit (.bool true)], args := [] }
  | _ => none }
def postExamplesRow : OpenClaim := { program := "ytlncplfcbmcjgaa", sum := "e354b509fdad4e0f58ceefdac149ffdd33bc962ceba813b5405a8bee59d43fe6", func := "kreisel/kreisellaw09.PostExamples", spec := "postExamples", unfollowed := true, recurses := true, apart := false }
def PostExamplesSaid : Prop := postExamplesRow.holds Try.pinned (OpenSpec.ofChange postExamplesSpec)

/-- ITS FALSE NEIGHBOUR: 'it returns false'. Refute it at one input. -/
def postExamplesWrong : ChangeSpec := { name := "postExamples", fn := fun _ => fun
  | [] => { results := [.lit (.bool false)], args := [] }
  | _ => none }
def PostExamplesWrongFalsely : Prop := postExamplesRow.holds Try.pinned (OpenSpec.ofChange postExamplesWrong)

/-- 'kreisellaw09.PostWeak': WHATEVER THE INPUT: true; the input reads as it did. -/
def postWeakSpec : ChangeSpec := { name := "postWeak", fn := fun _ => fun
  | [d1, d2] => { results := [.lit (.bool true)], args := [d1, d2] }
  | _ => none }
def postWeakRow : OpenClaim := { program := "ytlncplfcbmcjgaa", sum := "e354b509fdad4e0f58ceefdac149ffdd33bc962ceba813b5405a8bee59d43fe6", func := "kreisel/kreisellaw09.PostWeak", spec := "postWeak", unfollowed := true, recurses := true, apart := false }
def PostWeakSaid : Prop := postWeakRow.holds Try.pinned (OpenSpec.ofChange postWeakSpec)

/-- ITS FALSE NEIGHBOUR: 'it returns false'. Refute it at one input. -/
def postWeakWrong : ChangeSpec := { name := "postWeak", fn := fun _ => fun
  | [d1, d2] => { results := [.lit (.bool false)], args := [d1, d2] }
  | _ => none }
def PostWeakWrongFalsely : Prop := postWeakRow.holds Try.pinned (OpenSpec.ofChange postWeakWrong)

/-- 'kreisellaw09.PostFewest': WHATEVER THE INPUT: true; the input reads as it did. -/
def postFewestSpec : ChangeSpec := { name := "postFewest", fn := fun _ => fun
  | [d1, d2] => { results := [.lit (.bool true)], args := [d1, d2] }
  | _ => none }
def postFewestRow : OpenClaim := { program := "ytlncplfcbmcjgaa", sum := "e354b509fdad4e0f58ceefdac149ffdd33bc962ceba813b5405a8bee59d43fe6", func := "kreisel/kreisellaw09.PostFewest", spec := "postFewest", unfollowed := true, recurses := true, apart := false }
def PostFewestSaid : Prop := postFewestRow.holds Try.pinned (OpenSpec.ofChange postFewestSpec)

/-- ITS FALSE NEIGHBOUR: 'it returns false'. Refute it at one input. -/
def postFewestWrong : ChangeSpec := { name := "postFewest", fn := fun _ => fun
  | [d1, d2] => { results := [.lit (.bool false)], args := [d1, d2] }
  | _ => none }
def PostFewestWrongFalsely : Prop := postFewestRow.holds Try.pinned (OpenSpec.ofChange postFewestWrong)

/-- 'kreisellaw09.PostMore': WHATEVER THE INPUT: true; the input reads as it did. -/
def postMoreSpec : ChangeSpec := { name := "postMore", fn := fun _ => fun
  | [d1, d2, d3, d4, d5] => { results := [.lit (.bool true)], args := [d1, d2, d3, d4, d5] }
  | _ => none }
def postMoreRow : OpenClaim := { program := "ytlncplfcbmcjgaa", sum := "e354b509fdad4e0f58ceefdac149ffdd33bc962ceba813b5405a8bee59d43fe6", func := "kreisel/kreisellaw09.PostMore", spec := "postMore", unfollowed := true, recurses := true, apart := false }
def PostMoreSaid : Prop := postMoreRow.holds Try.pinned (OpenSpec.ofChange postMoreSpec)

/-- ITS FALSE NEIGHBOUR: 'it returns false'. Refute it at one input. -/
def postMoreWrong : ChangeSpec := { name := "postMore", fn := fun _ => fun
  | [d1, d2, d3, d4, d5] => { results := [.lit (.bool false)], args := [d1, d2, d3, d4, d5] }
  | _ => none }
def PostMoreWrongFalsely : Prop := postMoreRow.holds Try.pinned (OpenSpec.ofChange postMoreWrong)

/-- 'kreisellaw09.PostTurned': WHATEVER THE INPUT: true; the input reads as it did. -/
def postTurnedSpec : ChangeSpec := { name := "postTurned", fn := fun _ => fun
  | [d1, d2] => { results := [.lit (.bool true)], args := [d1, d2] }
  | _ => none }
def postTurnedRow : OpenClaim := { program := "ytlncplfcbmcjgaa", sum := "e354b509fdad4e0f58ceefdac149ffdd33bc962ceba813b5405a8bee59d43fe6", func := "kreisel/kreisellaw09.PostTurned", spec := "postTurned", unfollowed := true, recurses := true, apart := false }
def PostTurnedSaid : Prop := postTurnedRow.holds Try.pinned (OpenSpec.ofChange postTurnedSpec)

/-- ITS FALSE NEIGHBOUR: 'it returns false'. Refute it at one input. -/
def postTurnedWrong : ChangeSpec := { name := "postTurned", fn := fun _ => fun
  | [d1, d2] => { results := [.lit (.bool false)], args := [d1, d2] }
  | _ => none }
def PostTurnedWrongFalsely : Prop := postTurnedRow.holds Try.pinned (OpenSpec.ofChange postTurnedWrong)

/- THE SECOND FORM. 'bulk': how many values and letters a reading holds, each counted each time it is reached (what is shared counts as often as it is met; a slice's spare places count too). A statement '..UptoSaid' is the law's where the arguments, and the package variables that the reading takes, are together of bulk at most 1048576: NARROWER than '..Said'. Prove '..Said' where nothing that the law and all that it calls make is longer than what came in: it says more and counts as full. Else prove '..UptoSaid'. A law counts once. -/
mutual
def uptoBulk {H : Type} : DataW H → Nat
  | .lit (.string bytes) => bytes.length + 1
  | .lit _ => 1
  | .nil => 1
  | .ptr d => uptoBulk d + 1
  | .slice elems spare => uptoBulkAll elems + uptoBulkAll spare + 1
  | .agg parts => uptoBulkAll parts + 1
  | .iface _ d => uptoBulk d + 1
  | .map entries => uptoBulkEntries entries + 1
  | .held _ => 1
def uptoBulkAll {H : Type} : List (DataW H) → Nat
  | [] => 0
  | d :: r => uptoBulk d + uptoBulkAll r
def uptoBulkEntries {H : Type} : List (Lit × DataW H) → Nat
  | [] => 0
  | x :: r => uptoBulkEntry x + uptoBulkEntries r
def uptoBulkEntry {H : Type} : Lit × DataW H → Nat
  | (.string bytes, d) => bytes.length + uptoBulk d + 1
  | (_, d) => uptoBulk d + 1
 end
def uptoSmall : (H : Type) → List (DataW H) → Bool := fun _ ds => decide (uptoBulkAll ds ≤ 1048576)
def OpenSpec.upto (s : _root_.Go.ChangeSpec) : _root_.Go.OpenSpec := { _root_.Go.OpenSpec.ofChange s with cond := some uptoSmall }

/-- 'kreisellaw09.PostTimes', WHERE WHAT IT READS IS OF BULK AT MOST 1048576: true; the input reads as it did. -/
def postTimesUptoRow : OpenClaim := { program := "ytlncplfcbmcjgaa", sum := "e354b509fdad4e0f58ceefdac149ffdd33bc962ceba813b5405a8bee59d43fe6", func := "kreisel/kreisellaw09.PostTimes", spec := "postTimes", unfollowed := true, recurses := true, apart := false, narrowed := true }
def PostTimesUptoSaid : Prop := postTimesUptoRow.holds Try.pinned (OpenSpec.upto postTimesSpec)

/-- 'kreisellaw09.PostHelp', WHERE WHAT IT READS IS OF BULK AT MOST 1048576: true; the input reads as it did. -/
def postHelpUptoRow : OpenClaim := { program := "ytlncplfcbmcjgaa", sum := "e354b509fdad4e0f58ceefdac149ffdd33bc962ceba813b5405a8bee59d43fe6", func := "kreisel/kreisellaw09.PostHelp", spec := "postHelp", unfollowed := true, recurses := true, apart := false, narrowed := true }
def PostHelpUptoSaid : Prop := postHelpUptoRow.holds Try.pinned (OpenSpec.upto postHelpSpec)

/-- 'kreisellaw09.PostFar', WHERE WHAT IT READS IS OF BULK AT MOST 1048576: true; the input reads as it did. -/
def postFarUptoRow : OpenClaim := { program := "ytlncplfcbmcjgaa", sum := "e354b509fdad4e0f58ceefdac149ffdd33bc962ceba813b5405a8bee59d43fe6", func := "kreisel/kreisellaw09.PostFar", spec := "postFar", unfollowed := true, recurses := true, apart := false, narrowed := true }
def PostFarUptoSaid : Prop := postFarUptoRow.holds Try.pinned (OpenSpec.upto postFarSpec)

/-- 'kreisellaw09.PostSpare', WHERE WHAT IT READS IS OF BULK AT MOST 1048576: true; the input reads as it did. -/
def postSpareUptoRow : OpenClaim := { program := "ytlncplfcbmcjgaa", sum := "e354b509fdad4e0f58ceefdac149ffdd33bc962ceba813b5405a8bee59d43fe6", func := "kreisel/kreisellaw09.PostSpare", spec := "postSpare", unfollowed := true, recurses := true, apart := false, narrowed := true }
def PostSpareUptoSaid : Prop := postSpareUptoRow.holds Try.pinned (OpenSpec.upto postSpareSpec)

/-- 'kreisellaw09.PostHeard', WHERE WHAT IT READS IS OF BULK AT MOST 1048576: true; the input reads as it did. -/
def postHeardUptoRow : OpenClaim := { program := "ytlncplfcbmcjgaa", sum := "e354b509fdad4e0f58ceefdac149ffdd33bc962ceba813b5405a8bee59d43fe6", func := "kreisel/kreisellaw09.PostHeard", spec := "postHeard", unfollowed := true, recurses := true, apart := false, narrowed := true }
def PostHeardUptoSaid : Prop := postHeardUptoRow.holds Try.pinned (OpenSpec.upto postHeardSpec)

/-- 'kreisellaw09.PostExamples', WHERE WHAT IT READS IS OF BULK AT MOST 1048576: true; the input reads as it did. -/
def postExamplesUptoRow : OpenClaim := { program := "ytlncplfcbmcjgaa", sum := "e354b509fdad4e0f58ceefdac149ffdd33bc962ceba813b5405a8bee59d43fe6", func := "kreisel/kreisellaw09.PostExamples", spec := "postExamples", unfollowed := true, recurses := true, apart := false, narrowed := true }
def PostExamplesUptoSaid : Prop := postExamplesUptoRow.holds Try.pinned (OpenSpec.upto postExamplesSpec)

/-- 'kreisellaw09.PostWeak', WHERE WHAT IT READS IS OF BULK AT MOST 1048576: true; the input reads as it did. -/
def postWeakUptoRow : OpenClaim := { program := "ytlncplfcbmcjgaa", sum := "e354b509fdad4e0f58ceefdac149ffdd33bc962ceba813b5405a8bee59d43fe6", func := "kreisel/kreisellaw09.PostWeak", spec := "postWeak", unfollowed := true, recurses := true, apart := false, narrowed := true }
def PostWeakUptoSaid : Prop := postWeakUptoRow.holds Try.pinned (OpenSpec.upto postWeakSpec)

/-- 'kreisellaw09.PostFewest', WHERE WHAT IT READS IS OF BULK AT MOST 1048576: true; the input reads as it did. -/
def postFewestUptoRow : OpenClaim := { program := "ytlncplfcbmcjgaa", sum := "e354b509fdad4e0f58ceefdac149ffdd33bc962ceba813b5405a8bee59d43fe6", func := "kreisel/kreisellaw09.PostFewest", spec := "postFewest", unfollowed := true, recurses := true, apart := false, narrowed := true }
def PostFewestUptoSaid : Prop := postFewestUptoRow.holds Try.pinned (OpenSpec.upto postFewestSpec)

/-- 'kreisellaw09.PostMore', WHERE WHAT IT READS IS OF BULK AT MOST 1048576: true; the input reads as it did. -/
def postMoreUptoRow : OpenClaim := { program := "ytlncplfcbmcjgaa", sum := "e354b509fdad4e0f58ceefdac149ffdd33bc962ceba813b5405a8bee59d43fe6", func := "kreisel/kreisellaw09.PostMore", spec := "postMore", unfollowed := true, recurses := true, apart := false, narrowed := true }
def PostMoreUptoSaid : Prop := postMoreUptoRow.holds Try.pinned (OpenSpec.upto postMoreSpec)

/-- 'kreisellaw09.PostTurned', WHERE WHAT IT READS IS OF BULK AT MOST 1048576: true; the input reads as it did. -/
def postTurnedUptoRow : OpenClaim := { program := "ytlncplfcbmcjgaa", sum := "e354b509fdad4e0f58ceefdac149ffdd33bc962ceba813b5405a8bee59d43fe6", func := "kreisel/kreisellaw09.PostTurned", spec := "postTurned", unfollowed := true, recurses := true, apart := false, narrowed := true }
def PostTurnedUptoSaid : Prop := postTurnedUptoRow.holds Try.pinned (OpenSpec.upto postTurnedSpec)

end Rows
end Go.Proofs.Ytlncplfcbmcjgaa
