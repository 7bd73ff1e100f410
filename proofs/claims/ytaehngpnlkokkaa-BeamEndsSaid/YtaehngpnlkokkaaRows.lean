/-
  No cell of these rows narrows 'for every input' (looked for: loops, veiled, ifaces, maps, wideKeys, modest, calm, conditions, laid).
  DERIVED. THE GIVEN ROWS OF THIS SEAT. 8 by the template 'for every input the law returns true; each argument reads behind the call as it read before'; 0 by the template 'total and deterministic' (their statements: YtaehngpnlkokkaaTotals.lean).
  GIVEN WITH THE SEED: the statements are not yours to turn. If you find one false, say at which input.
  Laid BY PROGRAM, IN A SANDBOX (cutbox-rows.mjs): the forced cells as the released guide's own fill.sh prints them over the translation 0811ab0e653fb539… (all of the seat's roots in one cut). By AI agents, Wed Nov 11 2026. No macro, syntax, notation, axiom, sorry.
-/
import Derived.Test.YtaehngpnlkokkaaChecked
import GoSem.Claim
import GoSem.ClaimJoined
import GoSem.ClaimMapViews
import Derived.JoinedTies
import Derived.KernelRfl
namespace Go.Proofs.Ytaehngpnlkokkaa
/- THE CELL 'sum', in the pinned program and in every row, IS THE sha256 OF THE DUMP (.gsa) THAT YtaehngpnlkokkaaProg.lean LOADS. Nothing in Lean hashes anything: it is a label: what it is worth is what the hold of that sum in a sandbox is worth. -/
noncomputable def Try.pinned : Pinned := { name := "ytaehngpnlkokkaa", sum := "0811ab0e653fb53966d9a257497c365b31f4e11864b06e8756f2ac4174258897", checked := Try.checked }
namespace Rows
def none {H : Type} : Left H := { results := [], args := [] }

/-- 'kreisellaw05.BeamTimes': WHATEVER THE INPUT: true; the input reads as it did. -/
def beamTimesSpec : ChangeSpec := { name := "beamTimes", fn := fun _ => fun
  | [d1, d2, d3, d4, d5] => { results := [.lit (.bool true)], args := [d1, d2, d3, d4, d5] }
  | _ => none }
def beamTimesRow : OpenClaim := { program := "ytaehngpnlkokkaa", sum := "0811ab0e653fb53966d9a257497c365b31f4e11864b06e8756f2ac4174258897", func := "kreisel/kreisellaw05.BeamTimes", spec := "beamTimes", unfollowed := true, recurses := true, plainKeys := false, apart := false }
def BeamTimesSaid : Prop := beamTimesRow.holds Try.pinned (OpenSpec.ofChange beamTimesSpec)

/-- ITS FALSE NEIGHBOUR: 'it returns false'. Refute it at one input. -/
def beamTimesWrong : ChangeSpec := { name := "beamTimes", fn := fun _ => fun
  | [d1, d2, d3, d4, d5] => { results := [.lit (.bool false)], args := [d1, d2, d3, d4, d5] }
  | _ => none }
def BeamTimesWrongFalsely : Prop := beamTimesRow.holds Try.pinned (OpenSpec.ofChange beamTimesWrong)

/-- 'kreisellaw05.BeamTold': WHATEVER THE INPUT: true; the input reads as it did. -/
def beamToldSpec : ChangeSpec := { name := "beamTold", fn := fun _ => fun
  | [d1, d2, d3] => { results := [.lit (.bool true)], args := [d1, d2, d3] }
  | _ => none }
def beamToldRow : OpenClaim := { program := "ytaehngpnlkokkaa", sum := "0811ab0e653fb53966d9a257497c365b31f4e11864b06e8756f2ac4174258897", func := "kreisel/kreisellaw05.BeamTold", spec := "beamTold", unfollowed := true, recurses := true, plainKeys := false, apart := false }
def BeamToldSaid : Prop := beamToldRow.holds Try.pinned (OpenSpec.ofChange beamToldSpec)

/-- ITS FALSE NEIGHBOUR: 'it returns false'. Refute it at one input. -/
def beamToldWrong : ChangeSpec := { name := "beamTold", fn := fun _ => fun
  | [d1, d2, d3] => { results := [.lit (.bool false)], args := [d1, d2, d3] }
  | _ => none }
def BeamToldWrongFalsely : Prop := beamToldRow.holds Try.pinned (OpenSpec.ofChange beamToldWrong)

/-- 'kreisellaw05.BeamAhead': WHATEVER THE INPUT: true; the input reads as it did. -/
def beamAheadSpec : ChangeSpec := { name := "beamAhead", fn := fun _ => fun
  | [d1, d2, d3, d4, d5] => { results := [.lit (.bool true)], args := [d1, d2, d3, d4, d5] }
  | _ => none }
def beamAheadRow : OpenClaim := { program := "ytaehngpnlkokkaa", sum := "0811ab0e653fb53966d9a257497c365b31f4e11864b06e8756f2ac4174258897", func := "kreisel/kreisellaw05.BeamAhead", spec := "beamAhead", unfollowed := true, recurses := true, plainKeys := false, apart := false }
def BeamAheadSaid : Prop := beamAheadRow.holds Try.pinned (OpenSpec.ofChange beamAheadSpec)

/-- ITS FALSE NEIGHBOUR: 'it returns false'. Refute it at one input. -/
def beamAheadWrong : ChangeSpec := { name := "beamAhead", fn := fun _ => fun
  | [d1, d2, d3, d4, d5] => { results := [.lit (.bool false)], args := [d1, d2, d3, d4, d5] }
  | _ => none }
def BeamAheadWrongFalsely : Prop := beamAheadRow.holds Try.pinned (OpenSpec.ofChange beamAheadWrong)

/-- 'kreisellaw05.BeamMore': WHATEVER THE INPUT: true; the input reads as it did. -/
def beamMoreSpec : ChangeSpec := { name := "beamMore", fn := fun _ => fun
  | [d1, d2, d3] => { results := [.lit (.bool true)], args := [d1, d2, d3] }
  | _ => none }
def beamMoreRow : OpenClaim := { program := "ytaehngpnlkokkaa", sum := "0811ab0e653fb53966d9a257497c365b31f4e11864b06e8756f2ac4174258897", func := "kreisel/kreisellaw05.BeamMore", spec := "beamMore", unfollowed := true, recurses := true, plainKeys := false, apart := false }
def BeamMoreSaid : Prop := beamMoreRow.holds Try.pinned (OpenSpec.ofChange beamMoreSpec)

/-- ITS FALSE NEIGHBOUR: 'it returns false'. Refute it at one input. -/
def beamMoreWrong : ChangeSpec := { name := "beamMore", fn := fun _ => fun
  | [d1, d2, d3] => { results := [.lit (.bool false)], args := [d1, d2, d3] }
  | _ => none }
def BeamMoreWrongFalsely : Prop := beamMoreRow.holds Try.pinned (OpenSpec.ofChange beamMoreWrong)

/-- 'kreisellaw05.BeamGoes': WHATEVER THE INPUT: true; the input reads as it did. -/
def beamGoesSpec : ChangeSpec := { name := "beamGoes", fn := fun _ => fun
  | [d1, d2, d3] => { results := [.lit (.bool true)], args := [d1, d2, d3] }
  | _ => none }
def beamGoesRow : OpenClaim := { program := "ytaehngpnlkokkaa", sum := "0811ab0e653fb53966d9a257497c365b31f4e11864b06e8756f2ac4174258897", func := "kreisel/kreisellaw05.BeamGoes", spec := "beamGoes", unfollowed := true, recurses := true, plainKeys := false, apart := false }
def BeamGoesSaid : Prop := beamGoesRow.holds Try.pinned (OpenSpec.ofChange beamGoesSpec)

/-- ITS FALSE NEIGHBOUR: 'it returns false'. Refute it at one input. -/
def beamGoesWrong : ChangeSpec := { name := "beamGoes", fn := fun _ => fun
  | [d1, d2, d3] => { results := [.lit (.bool false)], args := [d1, d2, d3] }
  | _ => none }
def BeamGoesWrongFalsely : Prop := beamGoesRow.holds Try.pinned (OpenSpec.ofChange beamGoesWrong)

/-- 'kreisellaw05.BeamEnds': WHATEVER THE INPUT: true; the input reads as it did. -/
def beamEndsSpec : ChangeSpec := { name := "beamEnds", fn := fun _ => fun
  | [d1, d2] => { results := [.lit (.bool true)], args := [d1, d2] }
  | _ => none }
def beamEndsRow : OpenClaim := { program := "ytaehngpnlkokkaa", sum := "0811ab0e653fb53966d9a257497c365b31f4e11864b06e8756f2ac4174258897", func := "kreisel/kreisellaw05.BeamEnds", spec := "beamEnds", unfollowed := true, recurses := true, plainKeys := false, apart := false }
def BeamEndsSaid : Prop := beamEndsRow.holds Try.pinned (OpenSpec.ofChange beamEndsSpec)

/-- ITS FALSE NEIGHBOUR: 'it returns false'. Refute it at one input. -/
def beamEndsWrong : ChangeSpec := { name := "beamEnds", fn := fun _ => fun
  | [d1, d2] => { results := [.lit (.bool false)], args := [d1, d2] }
  | _ => none }
def BeamEndsWrongFalsely : Prop := beamEndsRow.holds Try.pinned (OpenSpec.ofChange beamEndsWrong)

/-- 'kreisellaw05.BeamLeast': WHATEVER THE INPUT: true; the input reads as it did. -/
def beamLeastSpec : ChangeSpec := { name := "beamLeast", fn := fun _ => fun
  | [d] => { results := [.lit (.bool true)], args := [d] }
  | _ => none }
def beamLeastRow : OpenClaim := { program := "ytaehngpnlkokkaa", sum := "0811ab0e653fb53966d9a257497c365b31f4e11864b06e8756f2ac4174258897", func := "kreisel/kreisellaw05.BeamLeast", spec := "beamLeast", unfollowed := true, recurses := true, plainKeys := false, apart := false }
def BeamLeastSaid : Prop := beamLeastRow.holds Try.pinned (OpenSpec.ofChange beamLeastSpec)

/-- ITS FALSE NEIGHBOUR: 'it returns false'. Refute it at one input. -/
def beamLeastWrong : ChangeSpec := { name := "beamLeast", fn := fun _ => fun
  | [d] => { results := [.lit (.bool false)], args := [d] }
  | _ => none }
def BeamLeastWrongFalsely : Prop := beamLeastRow.holds Try.pinned (OpenSpec.ofChange beamLeastWrong)

/-- 'kreisellaw05.BeamExamples': WHATEVER THE INPUT: true; the input reads as it did. -/
def beamExamplesSpec : ChangeSpec := { name := "beamExamples", fn := fun _ => fun
  | [] => { results := [.lit (.bool true)], args := [] }
  | _ => none }
def beamExamplesRow : OpenClaim := { program := "ytaehngpnlkokkaa", sum := "0811ab0e653fb53966d9a257497c365b31f4e11864b06e8756f2ac4174258897", func := "kreisel/kreisellaw05.BeamExamples", spec := "beamExamples", unfollowed := true, recurses := true, plainKeys := false, apart := false }
def BeamExamplesSaid : Prop := beamExamplesRow.holds Try.pinned (OpenSpec.ofChange beamExamplesSpec)

/-- ITS FALSE NEIGHBOUR: 'it returns false'. Refute it at one input. -/
def beamExamplesWrong : ChangeSpec := { name := "beamExamples", fn := fun _ => fun
  | [] => { results := [.lit (.bool false)], args := [] }
  | _ => none }
def BeamExamplesWrongFalsely : Prop := beamExamplesRow.holds Try.pinned (OpenSpec.ofChange beamExamplesWrong)

/- THE SECOND FORM. 'bulk': how many values and letters a reading holds, each counted each time it is reached (what is shared counts as often as it is met; a slice's spare places count too). A statement '..UptoSaid' is the law's where the arguments, and the package variables that the reading takes, are together of bulk at most 1048576: NARROWER than '..Said'. Prove '..Said' where nothing that the law and all that it calls make is longer than what came in: it says more and counts as full. Else prove '..UptoSaid'. A law counts once. -/
mutual
def uptoBulk {H : Type} : DataW H → Nat
  | .lit (.string bytes) => bytes.length + 1
  | .lit _ => 1
  | .nil => 1
  | .ptr d => uptoBulk d + 1
  | .slice elems spare => uptoBulkAll elems + uptoBulkAll spare + 1
  | .agg parts => uptoBulkAll parts + 1
  | .iface _ d => uptoBulk d + 1
  | .map entries => uptoBulkEntries entries + 1
  | .held _ => 1
def uptoBulkAll {H : Type} : List (DataW H) → Nat
  | [] => 0
  | d :: r => uptoBulk d + uptoBulkAll r
def uptoBulkEntries {H : Type} : List (Lit × DataW H) → Nat
  | [] => 0
  | x :: r => uptoBulkEntry x + uptoBulkEntries r
def uptoBulkEntry {H : Type} : Lit × DataW H → Nat
  | (.string bytes, d) => bytes.length + uptoBulk d + 1
  | (_, d) => uptoBulk d + 1
 end
def uptoSmall : (H : Type) → List (DataW H) → Bool := fun _ ds => decide (uptoBulkAll ds ≤ 1048576)
def OpenSpec.upto (s : _root_.Go.ChangeSpec) : _root_.Go.OpenSpec := { _root_.Go.OpenSpec.ofChange s with cond := some uptoSmall }

/-- 'kreisellaw05.BeamTimes', WHERE WHAT IT READS IS OF BULK AT MOST 1048576: true; the input reads as it did. -/
def beamTimesUptoRow : OpenClaim := { program := "ytaehngpnlkokkaa", sum := "0811ab0e653fb53966d9a257497c365b31f4e11864b06e8756f2ac4174258897", func := "kreisel/kreisellaw05.BeamTimes", spec := "beamTimes", unfollowed := true, recurses := true, plainKeys := false, apart := false, narrowed := true }
def BeamTimesUptoSaid : Prop := beamTimesUptoRow.holds Try.pinned (OpenSpec.upto beamTimesSpec)

/-- 'kreisellaw05.BeamTold', WHERE WHAT IT READS IS OF BULK AT MOST 1048576: true; the input reads as it did. -/
def beamToldUptoRow : OpenClaim := { program := "ytaehngpnlkokkaa", sum := "0811ab0e653fb53966d9a257497c365b31f4e11864b06e8756f2ac4174258897", func := "kreisel/kreisellaw05.BeamTold", spec := "beamTold", unfollowed := true, recurses := true, plainKeys := false, apart := false, narrowed := true }
def BeamToldUptoSaid : Prop := beamToldUptoRow.holds Try.pinned (OpenSpec.upto beamToldSpec)

/-- 'kreisellaw05.BeamAhead', WHERE WHAT IT READS IS OF BULK AT MOST 1048576: true; the input reads as it did. -/
def beamAheadUptoRow : OpenClaim := { program := "ytaehngpnlkokkaa", sum := "0811ab0e653fb53966d9a257497c365b31f4e11864b06e8756f2ac4174258897", func := "kreisel/kreisellaw05.BeamAhead", spec := "beamAhead", unfollowed := true, recurses := true, plainKeys := false, apart := false, narrowed := true }
def BeamAheadUptoSaid : Prop := beamAheadUptoRow.holds Try.pinned (OpenSpec.upto beamAheadSpec)

/-- 'kreisellaw05.BeamMore', WHERE WHAT IT READS IS OF BULK AT MOST 1048576: true; the input reads as it did. -/
def beamMoreUptoRow : OpenClaim := { program := "ytaehngpnlkokkaa", sum := "0811ab0e653fb53966d9a257497c365b31f4e11864b06e8756f2ac4174258897", func := "kreisel/kreisellaw05.BeamMore", spec := "beamMore", unfollowed := true, recurses := true, plainKeys := false, apart := false, narrowed := true }
def BeamMoreUptoSaid : Prop := beamMoreUptoRow.holds Try.pinned (OpenSpec.upto beamMoreSpec)

/-- 'kreisellaw05.BeamGoes', WHERE WHAT IT READS IS OF BULK AT MOST 1048576: true; the input reads as it did. -/
def beamGoesUptoRow : OpenClaim := { program := "ytaehngpnlkokkaa", sum := "0811ab0e653fb53966d9a257497c365b31f4e11864b06e8756f2ac4174258897", func := "kreisel/kreisellaw05.BeamGoes", spec := "beamGoes", unfollowed := true, recurses := true, plainKeys := false, apart := false, narrowed := true }
def BeamGoesUptoSaid : Prop := beamGoesUptoRow.holds Try.pinned (OpenSpec.upto beamGoesSpec)

/-- 'kreisellaw05.BeamEnds', WHERE WHAT IT READS IS OF BULK AT MOST 1048576: true; the input reads as it did. -/
def beamEndsUptoRow : OpenClaim := { program := "ytaehngpnlkokkaa", sum := "0811ab0e653fb53966d9a257497c365b31f4e11864b06e8756f2ac4174258897", func := "kreisel/kreisellaw05.BeamEnds", spec := "beamEnds", unfollowed := true, recurses := true, plainKeys := false, apart := false, narrowed := true }
def BeamEndsUptoSaid : Prop := beamEndsUptoRow.holds Try.pinned (OpenSpec.upto beamEndsSpec)

/-- 'kreisellaw05.BeamLeast', WHERE WHAT IT READS IS OF BULK AT MOST 1048576: true; the input reads as it did. -/
def beamLeastUptoRow : OpenClaim := { program := "ytaehngpnlkokkaa", sum := "0811ab0e653fb53966d9a257497c365b31f4e11864b06e8756f2ac4174258897", func := "kreisel/kreisellaw05.BeamLeast", spec := "beamLeast", unfollowed := true, recurses := true, plainKeys := false, apart := false, narrowed := true }
def BeamLeastUptoSaid : Prop := beamLeastUptoRow.holds Try.pinned (OpenSpec.upto beamLeastSpec)

/-- 'kreisellaw05.BeamExamples', WHERE WHAT IT READS IS OF BULK AT MOST 1048576: true; the input reads as it did. -/
def beamExamplesUptoRow : OpenClaim := { program := "ytaehngpnlkokkaa", sum := "0811ab0e653fb53966d9a257497c365b31f4e11864b06e8756f2ac4174258897", func := "kreisel/kreisellaw05.BeamExamples", spec := "beamExamples", unfollowed := true, recurses := true, plainKeys := false, apart := false, narrowed := true }
def BeamExamplesUptoSaid : Prop := beamExamplesUptoRow.holds Try.pinned (OpenSpec.upto beamExamplesSpec)

end Rows
end Go.Proofs.Ytaehngpnlkokkaa
