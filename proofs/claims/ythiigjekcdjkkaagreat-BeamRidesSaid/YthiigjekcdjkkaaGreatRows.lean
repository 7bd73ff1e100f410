/-
  No cell of these rows narrows 'for every input' (looked for: loops, veiled, ifaces, maps, wideKeys, modest, calm, conditions, laid).
  DERIVED. THE GIVEN ROWS OF THIS SEAT. 4 by the template 'for every input the law returns true; each argument reads behind the call as it read before'; 0 by the template 'total and deterministic' (their statements: YthiigjekcdjkkaaGreatTotals.lean).
  GIVEN WITH THE SEED: the statements are not yours to turn. If you find one false, say at which input.
  Laid BY PROGRAM, IN A SANDBOX (cutbox-rows.mjs): the forced cells as the released guide's own fill.sh prints them over the translation ec25f244ff4e40ed… (all of the seat's roots in one cut). By AI agents, Wed Nov 11 2026. No macro, syntax, notation, axiom, sorry.
-/
import Derived.Test.YthiigjekcdjkkaaGreatChecked
import GoSem.Claim
import GoSem.ClaimJoined
import GoSem.ClaimMapViews
import Derived.JoinedTies
import Derived.KernelRfl
namespace Go.Proofs.YthiigjekcdjkkaaGreat
/- THE CELL 'sum', in the pinned program and in every row, IS THE sha256 OF THE DUMP (.gsa) THAT YthiigjekcdjkkaaGreatProg.lean LOADS. Nothing in Lean hashes anything: it is a label: what it is worth is what the hold of that sum in a sandbox is worth. -/
noncomputable def Tryz.pinned : Pinned := { name := "ythiigjekcdjkkaagreat", sum := "ec25f244ff4e40edff7dcee27cc0977f57c9ea83134a0864dc7a67cd3ed45e00", checked := Tryz.checked }
namespace Rows
def none {H : Type} : Left H := { results := [], args := [] }

/-- 'kreisellaw05.BeamRides': WHATEVER THE INPUT: true; the input reads as it did. -/
def beamRidesSpec : ChangeSpec := { name := "beamRides", fn := fun _ => fun
  | [d1, d2, d3] => { results := [.lit (.bool true)], args := [d1, d2, d3] }
  | _ => none }
def beamRidesRow : OpenClaim := { program := "ythiigjekcdjkkaagreat", sum := "ec25f244ff4e40edff7dcee27cc0977f57c9ea83134a0864dc7a67cd3ed45e00", func := "kreisel/kreisellaw05.BeamRides", spec := "beamRides", unfollowed := true, recurses := true, plainKeys := false, apart := false }
def BeamRidesSaid : Prop := beamRidesRow.holds Tryz.pinned (OpenSpec.ofChange beamRidesSpec)

/-- ITS FALSE NEIGHBOUR: 'it returns false'. Refute it at one input. -/
def beamRidesWrong : ChangeSpec := { name := "beamRides", fn := fun _ => fun
  | [d1, d2, d3] => { results := [.lit (.bool false)], args := [d1, d2, d3] }
  | _ => none }
def BeamRidesWrongFalsely : Prop := beamRidesRow.holds Tryz.pinned (OpenSpec.ofChange beamRidesWrong)

/-- 'kreisellaw05.BeamSnow': WHATEVER THE INPUT: true; the input reads as it did. -/
def beamSnowSpec : ChangeSpec := { name := "beamSnow", fn := fun _ => fun
  | [d1, d2, d3] => { results := [.lit (.bool true)], args := [d1, d2, d3] }
  | _ => none }
def beamSnowRow : OpenClaim := { program := "ythiigjekcdjkkaagreat", sum := "ec25f244ff4e40edff7dcee27cc0977f57c9ea83134a0864dc7a67cd3ed45e00", func := "kreisel/kreisellaw05.BeamSnow", spec := "beamSnow", unfollowed := true, recurses := true, plainKeys := false, apart := false }
def BeamSnowSaid : Prop := beamSnowRow.holds Tryz.pinned (OpenSpec.ofChange beamSnowSpec)

/-- ITS FALSE NEIGHBOUR: 'it returns false'. Refute it at one input. -/
def beamSnowWrong : ChangeSpec := { name := "beamSnow", fn := fun _ => fun
  | [d1, d2, d3] => { results := [.lit (.bool false)], args := [d1, d2, d3] }
  | _ => none }
def BeamSnowWrongFalsely : Prop := beamSnowRow.holds Tryz.pinned (OpenSpec.ofChange beamSnowWrong)

/-- 'kreisellaw05.BeamLater': WHATEVER THE INPUT: true; the input reads as it did. -/
def beamLaterSpec : ChangeSpec := { name := "beamLater", fn := fun _ => fun
  | [d1, d2, d3] => { results := [.lit (.bool true)], args := [d1, d2, d3] }
  | _ => none }
def beamLaterRow : OpenClaim := { program := "ythiigjekcdjkkaagreat", sum := "ec25f244ff4e40edff7dcee27cc0977f57c9ea83134a0864dc7a67cd3ed45e00", func := "kreisel/kreisellaw05.BeamLater", spec := "beamLater", unfollowed := true, recurses := true, plainKeys := false, apart := false }
def BeamLaterSaid : Prop := beamLaterRow.holds Tryz.pinned (OpenSpec.ofChange beamLaterSpec)

/-- ITS FALSE NEIGHBOUR: 'it returns false'. Refute it at one input. -/
def beamLaterWrong : ChangeSpec := { name := "beamLater", fn := fun _ => fun
  | [d1, d2, d3] => { results := [.lit (.bool false)], args := [d1, d2, d3] }
  | _ => none }
def BeamLaterWrongFalsely : Prop := beamLaterRow.holds Tryz.pinned (OpenSpec.ofChange beamLaterWrong)

/-- 'kreisellaw05.BeamClear': WHATEVER THE INPUT: true; the input reads as it did. -/
def beamClearSpec : ChangeSpec := { name := "beamClear", fn := fun _ => fun
  | [d1, d2] => { results := [.lit (.bool true)], args := [d1, d2] }
  | _ => none }
def beamClearRow : OpenClaim := { program := "ythiigjekcdjkkaagreat", sum := "ec25f244ff4e40edff7dcee27cc0977f57c9ea83134a0864dc7a67cd3ed45e00", func := "kreisel/kreisellaw05.BeamClear", spec := "beamClear", unfollowed := true, recurses := true, plainKeys := false, apart := false }
def BeamClearSaid : Prop := beamClearRow.holds Tryz.pinned (OpenSpec.ofChange beamClearSpec)

/-- ITS FALSE NEIGHBOUR: 'it returns false'. Refute it at one input. -/
def beamClearWrong : ChangeSpec := { name := "beamClear", fn := fun _ => fun
  | [d1, d2] => { results := [.lit (.bool false)], args := [d1, d2] }
  | _ => none }
def BeamClearWrongFalsely : Prop := beamClearRow.holds Tryz.pinned (OpenSpec.ofChange beamClearWrong)

/- THE SECOND FORM. 'bulk': how many values and letters a reading holds, each counted each time it is reached (what is shared counts as often as it is met; a slice's spare places count too). A statement '..UptoSaid' is the law's where the arguments, and the package variables that the reading takes, are together of bulk at most 1048576: NARROWER than '..Said'. Prove '..Said' where nothing that the law and all that it calls make is longer than what came in: it says more and counts as full. Else prove '..UptoSaid'. A law counts once. -/
mutual
def uptoBulk {H : Type} : DataW H → Nat
  | .lit (.string bytes) => bytes.length + 1
  | .lit _ => 1
  | .nil => 1
  | .ptr d => uptoBulk d + 1
  | .slice elems spare => uptoBulkAll elems + uptoBulkAll spare + 1
  | .agg parts => uptoBulkAll parts + 1
  | .iface _ d => uptoBulk d + 1
  | .map entries => uptoBulkEntries entries + 1
  | .held _ => 1
def uptoBulkAll {H : Type} : List (DataW H) → Nat
  | [] => 0
  | d :: r => uptoBulk d + uptoBulkAll r
def uptoBulkEntries {H : Type} : List (Lit × DataW H) → Nat
  | [] => 0
  | x :: r => uptoBulkEntry x + uptoBulkEntries r
def uptoBulkEntry {H : Type} : Lit × DataW H → Nat
  | (.string bytes, d) => bytes.length + uptoBulk d + 1
  | (_, d) => uptoBulk d + 1
 end
def uptoSmall : (H : Type) → List (DataW H) → Bool := fun _ ds => decide (uptoBulkAll ds ≤ 1048576)
def OpenSpec.upto (s : _root_.Go.ChangeSpec) : _root_.Go.OpenSpec := { _root_.Go.OpenSpec.ofChange s with cond := some uptoSmall }

/-- 'kreisellaw05.BeamRides', WHERE WHAT IT READS IS OF BULK AT MOST 1048576: true; the input reads as it did. -/
def beamRidesUptoRow : OpenClaim := { program := "ythiigjekcdjkkaagreat", sum := "ec25f244ff4e40edff7dcee27cc0977f57c9ea83134a0864dc7a67cd3ed45e00", func := "kreisel/kreisellaw05.BeamRides", spec := "beamRides", unfollowed := true, recurses := true, plainKeys := false, apart := false, narrowed := true }
def BeamRidesUptoSaid : Prop := beamRidesUptoRow.holds Tryz.pinned (OpenSpec.upto beamRidesSpec)

/-- 'kreisellaw05.BeamSnow', WHERE WHAT IT READS IS OF BULK AT MOST 1048576: true; the input reads as it did. -/
def beamSnowUptoRow : OpenClaim := { program := "ythiigjekcdjkkaagreat", sum := "ec25f244ff4e40edff7dcee27cc0977f57c9ea83134a0864dc7a67cd3ed45e00", func := "kreisel/kreisellaw05.BeamSnow", spec := "beamSnow", unfollowed := true, recurses := true, plainKeys := false, apart := false, narrowed := true }
def BeamSnowUptoSaid : Prop := beamSnowUptoRow.holds Tryz.pinned (OpenSpec.upto beamSnowSpec)

/-- 'kreisellaw05.BeamLater', WHERE WHAT IT READS IS OF BULK AT MOST 1048576: true; the input reads as it did. -/
def beamLaterUptoRow : OpenClaim := { program := "ythiigjekcdjkkaagreat", sum := "ec25f244ff4e40edff7dcee27cc0977f57c9ea83134a0864dc7a67cd3ed45e00", func := "kreisel/kreisellaw05.BeamLater", spec := "beamLater", unfollowed := true, recurses := true, plainKeys := false, apart := false, narrowed := true }
def BeamLaterUptoSaid : Prop := beamLaterUptoRow.holds Tryz.pinned (OpenSpec.upto beamLaterSpec)

/-- 'kreisellaw05.BeamClear', WHERE WHAT IT READS IS OF BULK AT MOST 1048576: true; the input reads as it did. -/
def beamClearUptoRow : OpenClaim := { program := "ythiigjekcdjkkaagreat", sum := "ec25f244ff4e40edff7dcee27cc0977f57c9ea83134a0864dc7a67cd3ed45e00", func := "kreisel/kreisellaw05.BeamClear", spec := "beamClear", unfollowed := true, recurses := true, plainKeys := false, apart := false, narrowed := true }
def BeamClearUptoSaid : Prop := beamClearUptoRow.holds Tryz.pinned (OpenSpec.upto beamClearSpec)

end Rows
end Go.Proofs.YthiigjekcdjkkaaGreat
