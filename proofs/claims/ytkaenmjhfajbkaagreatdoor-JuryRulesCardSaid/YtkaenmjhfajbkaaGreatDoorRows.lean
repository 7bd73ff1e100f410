/-
  NARROWER THAN 'FOR EVERY INPUT', by the rows' own cells (each row's printed sentence says how): JuryRules: laid · JuryReplaced: laid · JuryExamples: laid.
  DERIVED. THE GIVEN ROWS OF THIS SEAT. 3 by the template 'for every input the law returns true; each argument reads behind the call as it read before'; 0 by the template 'total and deterministic' (their statements: YtkaenmjhfajbkaaGreatDoorTotals.lean).
  GIVEN WITH THE SEED: the statements are not yours to turn. If you find one false, say at which input.
  Laid BY PROGRAM, IN A SANDBOX (cutbox-rows.mjs): the forced cells as the released guide's own fill.sh prints them over the translation ba98ef9071571f4d… (all of the seat's roots in one cut). By AI agents, Wed Nov 11 2026. No macro, syntax, notation, axiom, sorry.
-/
import Derived.Test.YtkaenmjhfajbkaaGreatDoorChecked
import GoSem.Claim
import GoSem.ClaimJoined
import GoSem.ClaimMapViews
import Derived.JoinedTies
import Derived.KernelRfl
namespace Go.Proofs.YtkaenmjhfajbkaaGreatDoor
/- THE CELL 'sum', in the pinned program and in every row, IS THE sha256 OF THE DUMP (.gsa) THAT YtkaenmjhfajbkaaGreatDoorProg.lean LOADS. Nothing in Lean hashes anything: it is a label: what it is worth is what the hold of that sum in a sandbox is worth. -/
noncomputable def Tryz.pinned : Pinned := { name := "ytkaenmjhfajbkaagreatdoor", sum := "ba98ef9071571f4d69c0a3d077847fbb83a375416b648b5d464240e539b4ac44", checked := Tryz.checked }
namespace Rows
def none {H : Type} : Left H := { results := [], args := [] }

/- WHAT THE LISTED PACKAGE-LEVEL VARIABLES READ AS WHEN THE CALL BEGINS. Each datum BY PROGRAM (the guide's laid-datum.mjs) off the statement by which the dump's own 'gosem.cut.vars' lays the variable. In a bare row this is a premise. The card (YtkaenmjhfajbkaaGreatDoorCards.lean) ties it to the program's text. -/
def laid_kreisel_race_table {H : Type} : DataW H := .iface "func table" (.agg [.agg [.iface "func" (.lit (.string [107, 114, 101, 105, 115, 101, 108, 47, 114, 97, 99, 101, 46, 116, 97, 98, 108, 101, 36, 49])), .iface "func" (.lit (.string [107, 114, 101, 105, 115, 101, 108, 47, 114, 97, 99, 101, 46, 116, 97, 98, 108, 101, 36, 50]))], .agg [.iface "func" (.lit (.string [107, 114, 101, 105, 115, 101, 108, 47, 114, 97, 99, 101, 46, 116, 97, 98, 108, 101, 36, 51])), .iface "func" (.lit (.string [107, 114, 101, 105, 115, 101, 108, 47, 114, 97, 99, 101, 46, 116, 97, 98, 108, 101, 36, 52]))], .agg [.iface "func" (.lit (.string [107, 114, 101, 105, 115, 101, 108, 47, 114, 97, 99, 101, 46, 116, 97, 98, 108, 101, 36, 53])), .iface "func" (.lit (.string [107, 114, 101, 105, 115, 101, 108, 47, 114, 97, 99, 101, 46, 116, 97, 98, 108, 101, 36, 54]))]])

/-- 'kreisellaw07.JuryRules': WHATEVER THE INPUT: true; the input reads as it did. -/
def juryRulesSpec : ChangeSpec := { name := "juryRules", fn := fun _ => fun
  | [d1, d2, d3, d4] => { results := [.lit (.bool true)], args := [d1, d2, d3, d4] }
  | _ => none }
def juryRulesRow : OpenClaim := { program := "ytkaenmjhfajbkaagreatdoor", sum := "ba98ef9071571f4d69c0a3d077847fbb83a375416b648b5d464240e539b4ac44", func := "kreisel/kreisellaw07.JuryRules", spec := "juryRules", unfollowed := true, recurses := true, named := ["kreisel/race.table"], plainKeys := false, apart := false, laid := [("kreisel/race.table", laid_kreisel_race_table)] }
def JuryRulesSaid : Prop := juryRulesRow.holds Tryz.pinned (OpenSpec.ofChange juryRulesSpec)

/-- ITS FALSE NEIGHBOUR: 'it returns false'. Refute it at one input. -/
def juryRulesWrong : ChangeSpec := { name := "juryRules", fn := fun _ => fun
  | [d1, d2, d3, d4] => { results := [.lit (.bool false)], args := [d1, d2, d3, d4] }
  | _ => none }
def JuryRulesWrongFalsely : Prop := juryRulesRow.holds Tryz.pinned (OpenSpec.ofChange juryRulesWrong)

/-- 'kreisellaw07.JuryReplaced': WHATEVER THE INPUT: true; the input reads as it did. -/
def juryReplacedSpec : ChangeSpec := { name := "juryReplaced", fn := fun _ => fun
  | [d1, d2, d3, d4] => { results := [.lit (.bool true)], args := [d1, d2, d3, d4] }
  | _ => none }
def juryReplacedRow : OpenClaim := { program := "ytkaenmjhfajbkaagreatdoor", sum := "ba98ef9071571f4d69c0a3d077847fbb83a375416b648b5d464240e539b4ac44", func := "kreisel/kreisellaw07.JuryReplaced", spec := "juryReplaced", unfollowed := true, recurses := true, named := ["kreisel/race.table"], plainKeys := false, apart := false, laid := [("kreisel/race.table", laid_kreisel_race_table)] }
def JuryReplacedSaid : Prop := juryReplacedRow.holds Tryz.pinned (OpenSpec.ofChange juryReplacedSpec)

/-- ITS FALSE NEIGHBOUR: 'it returns false'. Refute it at one input. -/
def juryReplacedWrong : ChangeSpec := { name := "juryReplaced", fn := fun _ => fun
  | [d1, d2, d3, d4] => { results := [.lit (.bool false)], args := [d1, d2, d3, d4] }
  | _ => none }
def JuryReplacedWrongFalsely : Prop := juryReplacedRow.holds Tryz.pinned (OpenSpec.ofChange juryReplacedWrong)

/-- 'kreisellaw07.JuryExamples': WHATEVER THE INPUT: true; the input reads as it did. -/
def juryExamplesSpec : ChangeSpec := { name := "juryExamples", fn := fun _ => fun
  | [] => { results := [.lit (.bool true)], args := [] }
  | _ => none }
def juryExamplesRow : OpenClaim := { program := "ytkaenmjhfajbkaagreatdoor", sum := "ba98ef9071571f4d69c0a3d077847fbb83a375416b648b5d464240e539b4ac44", func := "kreisel/kreisellaw07.JuryExamples", spec := "juryExamples", unfollowed := true, recurses := true, named := ["kreisel/race.table"], plainKeys := false, apart := false, laid := [("kreisel/race.table", laid_kreisel_race_table)] }
def JuryExamplesSaid : Prop := juryExamplesRow.holds Tryz.pinned (OpenSpec.ofChange juryExamplesSpec)

/-- ITS FALSE NEIGHBOUR: 'it returns false'. Refute it at one input. -/
def juryExamplesWrong : ChangeSpec := { name := "juryExamples", fn := fun _ => fun
  | [] => { results := [.lit (.bool false)], args := [] }
  | _ => none }
def JuryExamplesWrongFalsely : Prop := juryExamplesRow.holds Tryz.pinned (OpenSpec.ofChange juryExamplesWrong)

/- THE SECOND FORM. 'bulk': how many values and letters a reading holds, each counted each time it is reached (what is shared counts as often as it is met; a slice's spare places count too). A statement '..UptoSaid' is the law's where the arguments, and the package variables that the reading takes, are together of bulk at most 1048576: NARROWER than '..Said'. Prove '..Said' where nothing that the law and all that it calls make is longer than what came in: it says more and counts as full. Else prove '..UptoSaid'. A law counts once. -/
mutual
def uptoBulk {H : Type} : DataW H → Nat
  | .lit (.string bytes) => bytes.length + 1
  | .lit _ => 1
  | .nil => 1
  | .ptr d => uptoBulk d + 1
  | .slice elems spare => uptoBulkAll elems + uptoBulkAll spare + 1
  | .agg parts => uptoBulkAll parts + 1
  | .iface _ d => uptoBulk d + 1
  | .map entries => uptoBulkEntries entries + 1
  | .held _ => 1
def uptoBulkAll {H : Type} : List (DataW H) → Nat
  | [] => 0
  | d :: r => uptoBulk d + uptoBulkAll r
def uptoBulkEntries {H : Type} : List (Lit × DataW H) → Nat
  | [] => 0
  | x :: r => uptoBulkEntry x + uptoBulkEntries r
def uptoBulkEntry {H : Type} : Lit × DataW H → Nat
  | (.string bytes, d) => bytes.length + uptoBulk d + 1
  | (_, d) => uptoBulk d + 1
 end
def uptoSmall : (H : Type) → List (DataW H) → Bool := fun _ ds => decide (uptoBulkAll ds ≤ 1048576)
def OpenSpec.upto (s : _root_.Go.ChangeSpec) : _root_.Go.OpenSpec := { _root_.Go.OpenSpec.ofChange s with cond := some uptoSmall }

/-- 'kreisellaw07.JuryRules', WHERE WHAT IT READS IS OF BULK AT MOST 1048576: true; the input reads as it did. -/
def juryRulesUptoRow : OpenClaim := { program := "ytkaenmjhfajbkaagreatdoor", sum := "ba98ef9071571f4d69c0a3d077847fbb83a375416b648b5d464240e539b4ac44", func := "kreisel/kreisellaw07.JuryRules", spec := "juryRules", unfollowed := true, recurses := true, named := ["kreisel/race.table"], plainKeys := false, apart := false, laid := [("kreisel/race.table", laid_kreisel_race_table)], narrowed := true }
def JuryRulesUptoSaid : Prop := juryRulesUptoRow.holds Tryz.pinned (OpenSpec.upto juryRulesSpec)

/-- 'kreisellaw07.JuryReplaced', WHERE WHAT IT READS IS OF BULK AT MOST 1048576: true; the input reads as it did. -/
def juryReplacedUptoRow : OpenClaim := { program := "ytkaenmjhfajbkaagreatdoor", sum := "ba98ef9071571f4d69c0a3d077847fbb83a375416b648b5d464240e539b4ac44", func := "kreisel/kreisellaw07.JuryReplaced", spec := "juryReplaced", unfollowed := true, recurses := true, named := ["kreisel/race.table"], plainKeys := false, apart := false, laid := [("kreisel/race.table", laid_kreisel_race_table)], narrowed := true }
def JuryReplacedUptoSaid : Prop := juryReplacedUptoRow.holds Tryz.pinned (OpenSpec.upto juryReplacedSpec)

/-- 'kreisellaw07.JuryExamples', WHERE WHAT IT READS IS OF BULK AT MOST 1048576: true; the input reads as it did. -/
def juryExamplesUptoRow : OpenClaim := { program := "ytkaenmjhfajbkaagreatdoor", sum := "ba98ef9071571f4d69c0a3d077847fbb83a375416b648b5d464240e539b4ac44", func := "kreisel/kreisellaw07.JuryExamples", spec := "juryExamples", unfollowed := true, recurses := true, named := ["kreisel/race.table"], plainKeys := false, apart := false, laid := [("kreisel/race.table", laid_kreisel_race_table)], narrowed := true }
def JuryExamplesUptoSaid : Prop := juryExamplesUptoRow.holds Tryz.pinned (OpenSpec.upto juryExamplesSpec)

end Rows
end Go.Proofs.YtkaenmjhfajbkaaGreatDoor
