/-
  NARROWER THAN 'FOR EVERY INPUT', by the rows' own cells (each row's printed sentence says how): RaceRanks: laid · RaceTimes: laid · RaceRepairs: laid.
  DERIVED. THE GIVEN ROWS OF THIS SEAT. 3 by the template 'for every input the law returns true; each argument reads behind the call as it read before'; 0 by the template 'total and deterministic' (their statements: YtcoejkiaokbmpaaGreatDoorTotals.lean).
  GIVEN WITH THE SEED: the statements are not yours to turn. If you find one false, say at which input.
  Laid BY PROGRAM, IN A SANDBOX (cutbox-rows.mjs): the forced cells as the released guide's own fill.sh prints them over the translation 3b1735a155907f32… (all of the seat's roots in one cut). By AI agents, Wed Nov 11 2026. No macro, syntax, notation, axiom, sorry.
-/
import Derived.Test.YtcoejkiaokbmpaaGreatDoorChecked
import GoSem.Claim
import GoSem.ClaimJoined
import GoSem.ClaimMapViews
import Derived.JoinedTies
import Derived.KernelRfl
namespace Go.Proofs.YtcoejkiaokbmpaaGreatDoor
/- THE CELL 'sum', in the pinned program and in every row, IS THE sha256 OF THE DUMP (.gsa) THAT YtcoejkiaokbmpaaGreatDoorProg.lean LOADS. Nothing in Lean hashes anything: it is a label: what it is worth is what the hold of that sum in a sandbox is worth. -/
noncomputable def Tryz.pinned : Pinned := { name := "ytcoejkiaokbmpaagreatdoor", sum := "3b1735a155907f3292b54b947cafbf8094133b48b9845ea6994b4c3d0b6179a5", checked := Tryz.checked }
namespace Rows
def none {H : Type} : Left H := { results := [], args := [] }

/- WHAT THE LISTED PACKAGE-LEVEL VARIABLES READ AS WHEN THE CALL BEGINS. Each datum BY PROGRAM (the guide's laid-datum.mjs) off the statement by which the dump's own 'gosem.cut.vars' lays the variable. In a bare row this is a premise. The card (YtcoejkiaokbmpaaGreatDoorCards.lean) ties it to the program's text. -/
def laid_kreisel_race_table {H : Type} : DataW H := .iface "func table" (.agg [.agg [.iface "func" (.lit (.string [107, 114, 101, 105, 115, 101, 108, 47, 114, 97, 99, 101, 46, 116, 97, 98, 108, 101, 36, 49])), .iface "func" (.lit (.string [107, 114, 101, 105, 115, 101, 108, 47, 114, 97, 99, 101, 46, 116, 97, 98, 108, 101, 36, 50]))], .agg [.iface "func" (.lit (.string [107, 114, 101, 105, 115, 101, 108, 47, 114, 97, 99, 101, 46, 116, 97, 98, 108, 101, 36, 51])), .iface "func" (.lit (.string [107, 114, 101, 105, 115, 101, 108, 47, 114, 97, 99, 101, 46, 116, 97, 98, 108, 101, 36, 52]))], .agg [.iface "func" (.lit (.string [107, 114, 101, 105, 115, 101, 108, 47, 114, 97, 99, 101, 46, 116, 97, 98, 108, 101, 36, 53])), .iface "func" (.lit (.string [107, 114, 101, 105, 115, 101, 108, 47, 114, 97, 99, 101, 46, 116, 97, 98, 108, 101, 36, 54]))]])

/-- 'kreisellaw06.RaceRanks': WHATEVER THE INPUT: true; the input reads as it did. -/
def raceRanksSpec : ChangeSpec := { name := "raceRanks", fn := fun _ => fun
  | [d1, d2, d3] => { results := [.lit (.bool true)], args := [d1, d2, d3] }
  | _ => none }
def raceRanksRow : OpenClaim := { program := "ytcoejkiaokbmpaagreatdoor", sum := "3b1735a155907f3292b54b947cafbf8094133b48b9845ea6994b4c3d0b6179a5", func := "kreisel/kreisellaw06.RaceRanks", spec := "raceRanks", inPlace := ["maps.clone"], unfollowed := true, recurses := true, named := ["kreisel/race.table"], plainKeys := false, apart := false, laid := [("kreisel/race.table", laid_kreisel_race_table)] }
def RaceRanksSaid : Prop := raceRanksRow.holds Tryz.pinned (OpenSpec.ofChange raceRanksSpec)

/-- ITS FALSE NEIGHBOUR: 'it returns false'. Refute it at one input. -/
def raceRanksWrong : ChangeSpec := { name := "raceRanks", fn := fun _ => fun
  | [d1, d2, d3] => { results := [.lit (.bool false)], args := [d1, d2, d3] }
  | _ => none }
def RaceRanksWrongFalsely : Prop := raceRanksRow.holds Tryz.pinned (OpenSpec.ofChange raceRanksWrong)

/-- 'kreisellaw06.RaceTimes': WHATEVER THE INPUT: true; the input reads as it did. -/
def raceTimesSpec : ChangeSpec := { name := "raceTimes", fn := fun _ => fun
  | [d1, d2, d3] => { results := [.lit (.bool true)], args := [d1, d2, d3] }
  | _ => none }
def raceTimesRow : OpenClaim := { program := "ytcoejkiaokbmpaagreatdoor", sum := "3b1735a155907f3292b54b947cafbf8094133b48b9845ea6994b4c3d0b6179a5", func := "kreisel/kreisellaw06.RaceTimes", spec := "raceTimes", unfollowed := true, recurses := true, named := ["kreisel/race.table"], plainKeys := false, apart := false, laid := [("kreisel/race.table", laid_kreisel_race_table)] }
def RaceTimesSaid : Prop := raceTimesRow.holds Tryz.pinned (OpenSpec.ofChange raceTimesSpec)

/-- ITS FALSE NEIGHBOUR: 'it returns false'. Refute it at one input. -/
def raceTimesWrong : ChangeSpec := { name := "raceTimes", fn := fun _ => fun
  | [d1, d2, d3] => { results := [.lit (.bool false)], args := [d1, d2, d3] }
  | _ => none }
def RaceTimesWrongFalsely : Prop := raceTimesRow.holds Tryz.pinned (OpenSpec.ofChange raceTimesWrong)

/-- 'kreisellaw06.RaceRepairs': WHATEVER THE INPUT: true; the input reads as it did. -/
def raceRepairsSpec : ChangeSpec := { name := "raceRepairs", fn := fun _ => fun
  | [d1, d2, d3, d4] => { results := [.lit (.bool true)], args := [d1, d2, d3, d4] }
  | _ => none }
def raceRepairsRow : OpenClaim := { program := "ytcoejkiaokbmpaagreatdoor", sum := "3b1735a155907f3292b54b947cafbf8094133b48b9845ea6994b4c3d0b6179a5", func := "kreisel/kreisellaw06.RaceRepairs", spec := "raceRepairs", inPlace := ["maps.clone"], unfollowed := true, recurses := true, named := ["kreisel/race.table"], plainKeys := false, apart := false, laid := [("kreisel/race.table", laid_kreisel_race_table)] }
def RaceRepairsSaid : Prop := raceRepairsRow.holds Tryz.pinned (OpenSpec.ofChange raceRepairsSpec)

/-- ITS FALSE NEIGHBOUR: 'it returns false'. Refute it at one input. -/
def raceRepairsWrong : ChangeSpec := { name := "raceRepairs", fn := fun _ => fun
  | [d1, d2, d3, d4] => { results := [.lit (.bool false)], args := [d1, d2, d3, d4] }
  | _ => none }
def RaceRepairsWrongFalsely : Prop := raceRepairsRow.holds Tryz.pinned (OpenSpec.ofChange raceRepairsWrong)

/- THE SECOND FORM. 'bulk': how many values and letters a reading holds, each counted each time it is reached (what is shared counts as often as it is met; a slice's spare places count too). A statement '..UptoSaid' is the law's where the arguments, and the package variables that the reading takes, are together of bulk at most 1048576: NARROWER than '..Said'. Prove '..Said' where nothing that the law and all that it calls make is longer than what came in: it says more and counts as full. Else prove '..UptoSaid'. A law counts once. -/
mutual
def uptoBulk {H : Type} : DataW H → Nat
  | .lit (.string bytes) => bytes.length + 1
  | .lit _ => 1
  | .nil => 1
  | .ptr d => uptoBulk d + 1
  | .slice elems spare => uptoBulkAll elems + uptoBulkAll spare + 1
  | .agg parts => uptoBulkAll parts + 1
  | .iface _ d => uptoBulk d + 1
  | .map entries => uptoBulkEntries entries + 1
  | .held _ => 1
def uptoBulkAll {H : Type} : List (DataW H) → Nat
  | [] => 0
  | d :: r => uptoBulk d + uptoBulkAll r
def uptoBulkEntries {H : Type} : List (Lit × DataW H) → Nat
  | [] => 0
  | x :: r => uptoBulkEntry x + uptoBulkEntries r
def uptoBulkEntry {H : Type} : Lit × DataW H → Nat
  | (.string bytes, d) => bytes.length + uptoBulk d + 1
  | (_, d) => uptoBulk d + 1
 end
def uptoSmall : (H : Type) → List (DataW H) → Bool := fun _ ds => decide (uptoBulkAll ds ≤ 1048576)
def OpenSpec.upto (s : _root_.Go.ChangeSpec) : _root_.Go.OpenSpec := { _root_.Go.OpenSpec.ofChange s with cond := some uptoSmall }

/-- 'kreisellaw06.RaceRanks', WHERE WHAT IT READS IS OF BULK AT MOST 1048576: true; the input reads as it did. -/
def raceRanksUptoRow : OpenClaim := { program := "ytcoejkiaokbmpaagreatdoor", sum := "3b1735a155907f3292b54b947cafbf8094133b48b9845ea6994b4c3d0b6179a5", func := "kreisel/kreisellaw06.RaceRanks", spec := "raceRanks", inPlace := ["maps.clone"], unfollowed := true, recurses := true, named := ["kreisel/race.table"], plainKeys := false, apart := false, laid := [("kreisel/race.table", laid_kreisel_race_table)], narrowed := true }
def RaceRanksUptoSaid : Prop := raceRanksUptoRow.holds Tryz.pinned (OpenSpec.upto raceRanksSpec)

/-- 'kreisellaw06.RaceTimes', WHERE WHAT IT READS IS OF BULK AT MOST 1048576: true; the input reads as it did. -/
def raceTimesUptoRow : OpenClaim := { program := "ytcoejkiaokbmpaagreatdoor", sum := "3b1735a155907f3292b54b947cafbf8094133b48b9845ea6994b4c3d0b6179a5", func := "kreisel/kreisellaw06.RaceTimes", spec := "raceTimes", unfollowed := true, recurses := true, named := ["kreisel/race.table"], plainKeys := false, apart := false, laid := [("kreisel/race.table", laid_kreisel_race_table)], narrowed := true }
def RaceTimesUptoSaid : Prop := raceTimesUptoRow.holds Tryz.pinned (OpenSpec.upto raceTimesSpec)

/-- 'kreisellaw06.RaceRepairs', WHERE WHAT IT READS IS OF BULK AT MOST 1048576: true; the input reads as it did. -/
def raceRepairsUptoRow : OpenClaim := { program := "ytcoejkiaokbmpaagreatdoor", sum := "3b1735a155907f3292b54b947cafbf8094133b48b9845ea6994b4c3d0b6179a5", func := "kreisel/kreisellaw06.RaceRepairs", spec := "raceRepairs", inPlace := ["maps.clone"], unfollowed := true, recurses := true, named := ["kreisel/race.table"], plainKeys := false, apart := false, laid := [("kreisel/race.table", laid_kreisel_race_table)], narrowed := true }
def RaceRepairsUptoSaid : Prop := raceRepairsUptoRow.holds Tryz.pinned (OpenSpec.upto raceRepairsSpec)

end Rows
end Go.Proofs.YtcoejkiaokbmpaaGreatDoor
