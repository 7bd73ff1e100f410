/-
  NARROWER THAN 'FOR EVERY INPUT', by the rows' own cells (each row's printed sentence says how): RaceExamples: laid · RaceTable: laid · RaceRepaired: laid · RaceNarrowed: laid.
  DERIVED. THE GIVEN ROWS OF THIS SEAT. 4 by the template 'for every input the law returns true; each argument reads behind the call as it read before'; 0 by the template 'total and deterministic' (their statements: YtadjgjnicdcjbaaGreatDoorTotals.lean).
  GIVEN WITH THE SEED: the statements are not yours to turn. If you find one false, say at which input.
  Laid BY PROGRAM, IN A SANDBOX (cutbox-rows.mjs): the forced cells as the released guide's own fill.sh prints them over the translation e9887b825c4195bf… (all of the seat's roots in one cut). By AI agents, Wed Nov 11 2026. No macro, syntax, notation, axiom, sorry.
-/
import Derived.Test.YtadjgjnicdcjbaaGreatDoorChecked
import GoSem.Claim
import GoSem.ClaimJoined
import GoSem.ClaimMapViews
import Derived.JoinedTies
import Derived.KernelRfl
namespace Go.Proofs.YtadjgjnicdcjbaaGreatDoor
/- THE CELL 'sum', in the pinned program and in every row, IS THE sha256 OF THE DUMP (.gsa) THAT YtadjgjnicdcjbaaGreatDoorProg.lean LOADS. Nothing in Lean hashes anything: it is a label: what it is worth is what the hold of that sum in a sandbox is worth. -/
noncomputable def Tryz.pinned : Pinned := { name := "ytadjgjnicdcjbaagreatdoor", sum := "e9887b825c4195bf0ed96f6349ccad1e20b71fcc30dad133b93fb4af24ee4110", checked := Tryz.checked }
namespace Rows
def none {H : Type} : Left H := { results := [], args := [] }

/- WHAT THE LISTED PACKAGE-LEVEL VARIABLES READ AS WHEN THE CALL BEGINS. Each datum BY PROGRAM (the guide's laid-datum.mjs) off the statement by which the dump's own 'gosem.cut.vars' lays the variable. In a bare row this is a premise. The card (YtadjgjnicdcjbaaGreatDoorCards.lean) ties it to the program's text. -/
def laid_kreisel_race_table {H : Type} : DataW H := .iface "func table" (.agg [.agg [.iface "func" (.lit (.string [107, 114, 101, 105, 115, 101, 108, 47, 114, 97, 99, 101, 46, 116, 97, 98, 108, 101, 36, 49])), .iface "func" (.lit (.string [107, 114, 101, 105, 115, 101, 108, 47, 114, 97, 99, 101, 46, 116, 97, 98, 108, 101, 36, 50]))], .agg [.iface "func" (.lit (.string [107, 114, 101, 105, 115, 101, 108, 47, 114, 97, 99, 101, 46, 116, 97, 98, 108, 101, 36, 51])), .iface "func" (.lit (.string [107, 114, 101, 105, 115, 101, 108, 47, 114, 97, 99, 101, 46, 116, 97, 98, 108, 101, 36, 52]))], .agg [.iface "func" (.lit (.string [107, 114, 101, 105, 115, 101, 108, 47, 114, 97, 99, 101, 46, 116, 97, 98, 108, 101, 36, 53])), .iface "func" (.lit (.string [107, 114, 101, 105, 115, 101, 108, 47, 114, 97, 99, 101, 46, 116, 97, 98, 108, 101, 36, 54]))]])

/-- 'kreisellaw06.RaceExamples': WHATEVER THE INPUT: true; the input reads as it did. -/
def raceExamplesSpec : ChangeSpec := { name := "raceExamples", fn := fun _ => fun
  | [] => { results := [.lit (.bool true)], args := [] }
  | _ => none }
def raceExamplesRow : OpenClaim := { program := "ytadjgjnicdcjbaagreatdoor", sum := "e9887b825c4195bf0ed96f6349ccad1e20b71fcc30dad133b93fb4af24ee4110", func := "kreisel/kreisellaw06.RaceExamples", spec := "raceExamples", inPlace := ["maps.clone"], unfollowed := true, recurses := true, named := ["kreisel/race.table"], plainKeys := false, apart := false, laid := [("kreisel/race.table", laid_kreisel_race_table)] }
def RaceExamplesSaid : Prop := raceExamplesRow.holds Tryz.pinned (OpenSpec.ofChange raceExamplesSpec)

/-- ITS FALSE NEIGHBOUR: 'it returns false'. Refute it at one input. -/
def raceExamplesWrong : ChangeSpec := { name := "raceExamples", fn := fun _ => fun
  | [] => { results := [.lit (.bool false)], args := [] }
  | _ => none }
def RaceExamplesWrongFalsely : Prop := raceExamplesRow.holds Tryz.pinned (OpenSpec.ofChange raceExamplesWrong)

/-- 'kreisellaw06.RaceTable': WHATEVER THE INPUT: true; the input reads as it did. -/
def raceTableSpec : ChangeSpec := { name := "raceTable", fn := fun _ => fun
  | [d] => { results := [.lit (.bool true)], args := [d] }
  | _ => none }
def raceTableRow : OpenClaim := { program := "ytadjgjnicdcjbaagreatdoor", sum := "e9887b825c4195bf0ed96f6349ccad1e20b71fcc30dad133b93fb4af24ee4110", func := "kreisel/kreisellaw06.RaceTable", spec := "raceTable", inPlace := ["maps.clone"], unfollowed := true, recurses := true, named := ["kreisel/race.table"], plainKeys := false, apart := false, laid := [("kreisel/race.table", laid_kreisel_race_table)] }
def RaceTableSaid : Prop := raceTableRow.holds Tryz.pinned (OpenSpec.ofChange raceTableSpec)

/-- ITS FALSE NEIGHBOUR: 'it returns false'. Refute it at one input. -/
def raceTableWrong : ChangeSpec := { name := "raceTable", fn := fun _ => fun
  | [d] => { results := [.lit (.bool false)], args := [d] }
  | _ => none }
def RaceTableWrongFalsely : Prop := raceTableRow.holds Tryz.pinned (OpenSpec.ofChange raceTableWrong)

/-- 'kreisellaw06.RaceRepaired': WHATEVER THE INPUT: true; the input reads as it did. -/
def raceRepairedSpec : ChangeSpec := { name := "raceRepaired", fn := fun _ => fun
  | [d1, d2, d3, d4] => { results := [.lit (.bool true)], args := [d1, d2, d3, d4] }
  | _ => none }
def raceRepairedRow : OpenClaim := { program := "ytadjgjnicdcjbaagreatdoor", sum := "e9887b825c4195bf0ed96f6349ccad1e20b71fcc30dad133b93fb4af24ee4110", func := "kreisel/kreisellaw06.RaceRepaired", spec := "raceRepaired", inPlace := ["maps.clone"], unfollowed := true, recurses := true, named := ["kreisel/race.table"], plainKeys := false, apart := false, laid := [("kreisel/race.table", laid_kreisel_race_table)] }
def RaceRepairedSaid : Prop := raceRepairedRow.holds Tryz.pinned (OpenSpec.ofChange raceRepairedSpec)

/-- ITS FALSE NEIGHBOUR: 'it returns false'. Refute it at one input. -/
def raceRepairedWrong : ChangeSpec := { name := "raceRepaired", fn := fun _ => fun
  | [d1, d2, d3, d4] => { results := [.lit (.bool false)], args := [d1, d2, d3, d4] }
  | _ => none }
def RaceRepairedWrongFalsely : Prop := raceRepairedRow.holds Tryz.pinned (OpenSpec.ofChange raceRepairedWrong)

/-- 'kreisellaw06.RaceNarrowed': WHATEVER THE INPUT: true; the input reads as it did. -/
def raceNarrowedSpec : ChangeSpec := { name := "raceNarrowed", fn := fun _ => fun
  | [d1, d2, d3, d4] => { results := [.lit (.bool true)], args := [d1, d2, d3, d4] }
  | _ => none }
def raceNarrowedRow : OpenClaim := { program := "ytadjgjnicdcjbaagreatdoor", sum := "e9887b825c4195bf0ed96f6349ccad1e20b71fcc30dad133b93fb4af24ee4110", func := "kreisel/kreisellaw06.RaceNarrowed", spec := "raceNarrowed", inPlace := ["maps.clone"], unfollowed := true, recurses := true, named := ["kreisel/race.table"], plainKeys := false, apart := false, laid := [("kreisel/race.table", laid_kreisel_race_table)] }
def RaceNarrowedSaid : Prop := raceNarrowedRow.holds Tryz.pinned (OpenSpec.ofChange raceNarrowedSpec)

/-- ITS FALSE NEIGHBOUR: 'it returns false'. Refute it at one input. -/
def raceNarrowedWrong : ChangeSpec := { name := "raceNarrowed", fn := fun _ => fun
  | [d1, d2, d3, d4] => { results := [.lit (.bool false)], args := [d1, d2, d3, d4] }
  | _ => none }
def RaceNarrowedWrongFalsely : Prop := raceNarrowedRow.holds Tryz.pinned (OpenSpec.ofChange raceNarrowedWrong)

/- THE SECOND FORM. 'bulk': how many values and letters a reading holds, each counted each time it is reached (what is shared counts as often as it is met; a slice's spare places count too). A statement '..UptoSaid' is the law's where the arguments, and the package variables that the reading takes, are together of bulk at most 1048576: NARROWER than '..Said'. Prove '..Said' where nothing that the law and all that it calls make is longer than what came in: it says more and counts as full. Else prove '..UptoSaid'. A law counts once. -/
mutual
def uptoBulk {H : Type} : DataW H → Nat
  | .lit (.string bytes) => bytes.length + 1
  | .lit _ => 1
  | .nil => 1
  | .ptr d => uptoBulk d + 1
  | .slice elems spare => uptoBulkAll elems + uptoBulkAll spare + 1
  | .agg parts => uptoBulkAll parts + 1
  | .iface _ d => uptoBulk d + 1
  | .map entries => uptoBulkEntries entries + 1
  | .held _ => 1
def uptoBulkAll {H : Type} : List (DataW H) → Nat
  | [] => 0
  | d :: r => uptoBulk d + uptoBulkAll r
def uptoBulkEntries {H : Type} : List (Lit × DataW H) → Nat
  | [] => 0
  | x :: r => uptoBulkEntry x + uptoBulkEntries r
def uptoBulkEntry {H : Type} : Lit × DataW H → Nat
  | (.string bytes, d) => bytes.length + uptoBulk d + 1
  | (_, d) => uptoBulk d + 1
 end
def uptoSmall : (H : Type) → List (DataW H) → Bool := fun _ ds => decide (uptoBulkAll ds ≤ 1048576)
def OpenSpec.upto (s : _root_.Go.ChangeSpec) : _root_.Go.OpenSpec := { _root_.Go.OpenSpec.ofChange s with cond := some uptoSmall }

/-- 'kreisellaw06.RaceExamples', WHERE WHAT IT READS IS OF BULK AT MOST 1048576: true; the input reads as it did. -/
def raceExamplesUptoRow : OpenClaim := { program := "ytadjgjnicdcjbaagreatdoor", sum := "e9887b825c4195bf0ed96f6349ccad1e20b71fcc30dad133b93fb4af24ee4110", func := "kreisel/kreisellaw06.RaceExamples", spec := "raceExamples", inPlace := ["maps.clone"], unfollowed := true, recurses := true, named := ["kreisel/race.table"], plainKeys := false, apart := false, laid := [("kreisel/race.table", laid_kreisel_race_table)], narrowed := true }
def RaceExamplesUptoSaid : Prop := raceExamplesUptoRow.holds Tryz.pinned (OpenSpec.upto raceExamplesSpec)

/-- 'kreisellaw06.RaceTable', WHERE WHAT IT READS IS OF BULK AT MOST 1048576: true; the input reads as it did. -/
def raceTableUptoRow : OpenClaim := { program := "ytadjgjnicdcjbaagreatdoor", sum := "e9887b825c4195bf0ed96f6349ccad1e20b71fcc30dad133b93fb4af24ee4110", func := "kreisel/kreisellaw06.RaceTable", spec := "raceTable", inPlace := ["maps.clone"], unfollowed := true, recurses := true, named := ["kreisel/race.table"], plainKeys := false, apart := false, laid := [("kreisel/race.table", laid_kreisel_race_table)], narrowed := true }
def RaceTableUptoSaid : Prop := raceTableUptoRow.holds Tryz.pinned (OpenSpec.upto raceTableSpec)

/-- 'kreisellaw06.RaceRepaired', WHERE WHAT IT READS IS OF BULK AT MOST 1048576: true; the input reads as it did. -/
def raceRepairedUptoRow : OpenClaim := { program := "ytadjgjnicdcjbaagreatdoor", sum := "e9887b825c4195bf0ed96f6349ccad1e20b71fcc30dad133b93fb4af24ee4110", func := "kreisel/kreisellaw06.RaceRepaired", spec := "raceRepaired", inPlace := ["maps.clone"], unfollowed := true, recurses := true, named := ["kreisel/race.table"], plainKeys := false, apart := false, laid := [("kreisel/race.table", laid_kreisel_race_table)], narrowed := true }
def RaceRepairedUptoSaid : Prop := raceRepairedUptoRow.holds Tryz.pinned (OpenSpec.upto raceRepairedSpec)

/-- 'kreisellaw06.RaceNarrowed', WHERE WHAT IT READS IS OF BULK AT MOST 1048576: true; the input reads as it did. -/
def raceNarrowedUptoRow : OpenClaim := { program := "ytadjgjnicdcjbaagreatdoor", sum := "e9887b825c4195bf0ed96f6349ccad1e20b71fcc30dad133b93fb4af24ee4110", func := "kreisel/kreisellaw06.RaceNarrowed", spec := "raceNarrowed", inPlace := ["maps.clone"], unfollowed := true, recurses := true, named := ["kreisel/race.table"], plainKeys := false, apart := false, laid := [("kreisel/race.table", laid_kreisel_race_table)], narrowed := true }
def RaceNarrowedUptoSaid : Prop := raceNarrowedUptoRow.holds Tryz.pinned (OpenSpec.upto raceNarrowedSpec)

end Rows
end Go.Proofs.YtadjgjnicdcjbaaGreatDoor
