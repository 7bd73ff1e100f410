/-
  NARROWER THAN 'FOR EVERY INPUT', by the rows' own cells (each row's printed sentence says how): JuryAll: laid · JuryFees: laid · JuryMore: laid · JuryLater: laid · JuryHit: laid.
  DERIVED. THE GIVEN ROWS OF THIS SEAT. 5 by the template 'for every input the law returns true; each argument reads behind the call as it read before'; 0 by the template 'total and deterministic' (their statements: YtijpnoadncadoaaGreatDoorTotals.lean).
  GIVEN WITH THE SEED: the statements are not yours to turn. If you find one false, say at which input.
  Laid BY PROGRAM, IN A SANDBOX (cutbox-rows.mjs): the forced cells as the released guide's own fill.sh prints them over the translation f24f429fd8fa5aca… (all of the seat's roots in one cut). By AI agents, Wed Nov 11 2026. No macro, syntax, notation, axiom, sorry.
-/
import Derived.Test.YtijpnoadncadoaaGreatDoorChecked
import GoSem.Claim
import GoSem.ClaimJoined
import GoSem.ClaimMapViews
import Derived.JoinedTies
import Derived.KernelRfl
namespace Go.Proofs.YtijpnoadncadoaaGreatDoor
/- THE CELL 'sum', in the pinned program and in every row, IS THE sha256 OF THE DUMP (.gsa) THAT YtijpnoadncadoaaGreatDoorProg.lean LOADS. Nothing in Lean hashes anything: it is a label: what it is worth is what the hold of that sum in a sandbox is worth. -/
noncomputable def Tryz.pinned : Pinned := { name := "ytijpnoadncadoaagreatdoor", sum := "f24f429fd8fa5acab228fedf4b4ad2ca56a5385c02a7298413028f05c05f7ce3", checked := Tryz.checked }
namespace Rows
def none {H : Type} : Left H := { results := [], args := [] }

/- WHAT THE LISTED PACKAGE-LEVEL VARIABLES READ AS WHEN THE CALL BEGINS. Each datum BY PROGRAM (the guide's laid-datum.mjs) off the statement by which the dump's own 'gosem.cut.vars' lays the variable. In a bare row this is a premise. The card (YtijpnoadncadoaaGreatDoorCards.lean) ties it to the program's text. -/
def laid_kreisel_race_table {H : Type} : DataW H := .iface "func table" (.agg [.agg [.iface "func" (.lit (.string [107, 114, 101, 105, 115, 101, 108, 47, 114, 97, 99, 101, 46, 116, 97, 98, 108, 101, 36, 49])), .iface "func" (.lit (.string [107, 114, 101, 105, 115, 101, 108, 47, 114, 97, 99, 101, 46, 116, 97, 98, 108, 101, 36, 50]))], .agg [.iface "func" (.lit (.string [107, 114, 101, 105, 115, 101, 108, 47, 114, 97, 99, 101, 46, 116, 97, 98, 108, 101, 36, 51])), .iface "func" (.lit (.string [107, 114, 101, 105, 115, 101, 108, 47, 114, 97, 99, 101, 46, 116, 97, 98, 108, 101, 36, 52]))], .agg [.iface "func" (.lit (.string [107, 114, 101, 105, 115, 101, 108, 47, 114, 97, 99, 101, 46, 116, 97, 98, 108, 101, 36, 53])), .iface "func" (.lit (.string [107, 114, 101, 105, 115, 101, 108, 47, 114, 97, 99, 101, 46, 116, 97, 98, 108, 101, 36, 54]))]])

/-- 'kreisellaw07.JuryAll': WHATEVER THE INPUT: true; the input reads as it did. -/
def juryAllSpec : ChangeSpec := { name := "juryAll", fn := fun _ => fun
  | [d] => { results := [.lit (.bool true)], args := [d] }
  | _ => none }
def juryAllRow : OpenClaim := { program := "ytijpnoadncadoaagreatdoor", sum := "f24f429fd8fa5acab228fedf4b4ad2ca56a5385c02a7298413028f05c05f7ce3", func := "kreisel/kreisellaw07.JuryAll", spec := "juryAll", unfollowed := true, recurses := true, named := ["kreisel/race.table"], plainKeys := false, apart := false, laid := [("kreisel/race.table", laid_kreisel_race_table)] }
def JuryAllSaid : Prop := juryAllRow.holds Tryz.pinned (OpenSpec.ofChange juryAllSpec)

/-- ITS FALSE NEIGHBOUR: 'it returns false'. Refute it at one input. -/
def juryAllWrong : ChangeSpec := { name := "juryAll", fn := fun _ => fun
  | [d] => { results := [.lit (.bool false)], args := [d] }
  | _ => none }
def JuryAllWrongFalsely : Prop := juryAllRow.holds Tryz.pinned (OpenSpec.ofChange juryAllWrong)

/-- 'kreisellaw07.JuryFees': WHATEVER THE INPUT: true; the input reads as it did. -/
def juryFeesSpec : ChangeSpec := { name := "juryFees", fn := fun _ => fun
  | [d] => { results := [.lit (.bool true)], args := [d] }
  | _ => none }
def juryFeesRow : OpenClaim := { program := "ytijpnoadncadoaagreatdoor", sum := "f24f429fd8fa5acab228fedf4b4ad2ca56a5385c02a7298413028f05c05f7ce3", func := "kreisel/kreisellaw07.JuryFees", spec := "juryFees", unfollowed := true, recurses := true, named := ["kreisel/race.table"], plainKeys := false, apart := false, laid := [("kreisel/race.table", laid_kreisel_race_table)] }
def JuryFeesSaid : Prop := juryFeesRow.holds Tryz.pinned (OpenSpec.ofChange juryFeesSpec)

/-- ITS FALSE NEIGHBOUR: 'it returns false'. Refute it at one input. -/
def juryFeesWrong : ChangeSpec := { name := "juryFees", fn := fun _ => fun
  | [d] => { results := [.lit (.bool false)], args := [d] }
  | _ => none }
def JuryFeesWrongFalsely : Prop := juryFeesRow.holds Tryz.pinned (OpenSpec.ofChange juryFeesWrong)

/-- 'kreisellaw07.JuryMore': WHATEVER THE INPUT: true; the input reads as it did. -/
def juryMoreSpec : ChangeSpec := { name := "juryMore", fn := fun _ => fun
  | [d1, d2, d3, d4] => { results := [.lit (.bool true)], args := [d1, d2, d3, d4] }
  | _ => none }
def juryMoreRow : OpenClaim := { program := "ytijpnoadncadoaagreatdoor", sum := "f24f429fd8fa5acab228fedf4b4ad2ca56a5385c02a7298413028f05c05f7ce3", func := "kreisel/kreisellaw07.JuryMore", spec := "juryMore", unfollowed := true, recurses := true, named := ["kreisel/race.table"], plainKeys := false, apart := false, laid := [("kreisel/race.table", laid_kreisel_race_table)] }
def JuryMoreSaid : Prop := juryMoreRow.holds Tryz.pinned (OpenSpec.ofChange juryMoreSpec)

/-- ITS FALSE NEIGHBOUR: 'it returns false'. Refute it at one input. -/
def juryMoreWrong : ChangeSpec := { name := "juryMore", fn := fun _ => fun
  | [d1, d2, d3, d4] => { results := [.lit (.bool false)], args := [d1, d2, d3, d4] }
  | _ => none }
def JuryMoreWrongFalsely : Prop := juryMoreRow.holds Tryz.pinned (OpenSpec.ofChange juryMoreWrong)

/-- 'kreisellaw07.JuryLater': WHATEVER THE INPUT: true; the input reads as it did. -/
def juryLaterSpec : ChangeSpec := { name := "juryLater", fn := fun _ => fun
  | [d1, d2] => { results := [.lit (.bool true)], args := [d1, d2] }
  | _ => none }
def juryLaterRow : OpenClaim := { program := "ytijpnoadncadoaagreatdoor", sum := "f24f429fd8fa5acab228fedf4b4ad2ca56a5385c02a7298413028f05c05f7ce3", func := "kreisel/kreisellaw07.JuryLater", spec := "juryLater", unfollowed := true, recurses := true, named := ["kreisel/race.table"], plainKeys := false, apart := false, laid := [("kreisel/race.table", laid_kreisel_race_table)] }
def JuryLaterSaid : Prop := juryLaterRow.holds Tryz.pinned (OpenSpec.ofChange juryLaterSpec)

/-- ITS FALSE NEIGHBOUR: 'it returns false'. Refute it at one input. -/
def juryLaterWrong : ChangeSpec := { name := "juryLater", fn := fun _ => fun
  | [d1, d2] => { results := [.lit (.bool false)], args := [d1, d2] }
  | _ => none }
def JuryLaterWrongFalsely : Prop := juryLaterRow.holds Tryz.pinned (OpenSpec.ofChange juryLaterWrong)

/-- 'kreisellaw07.JuryHit': WHATEVER THE INPUT: true; the input reads as it did. -/
def juryHitSpec : ChangeSpec := { name := "juryHit", fn := fun _ => fun
  | [d1, d2, d3, d4] => { results := [.lit (.bool true)], args := [d1, d2, d3, d4] }
  | _ => none }
def juryHitRow : OpenClaim := { program := "ytijpnoadncadoaagreatdoor", sum := "f24f429fd8fa5acab228fedf4b4ad2ca56a5385c02a7298413028f05c05f7ce3", func := "kreisel/kreisellaw07.JuryHit", spec := "juryHit", unfollowed := true, recurses := true, named := ["kreisel/race.table"], plainKeys := false, apart := false, laid := [("kreisel/race.table", laid_kreisel_race_table)] }
def JuryHitSaid : Prop := juryHitRow.holds Tryz.pinned (OpenSpec.ofChange juryHitSpec)

/-- ITS FALSE NEIGHBOUR: 'it returns false'. Refute it at one input. -/
def juryHitWrong : ChangeSpec := { name := "juryHit", fn := fun _ => fun
  | [d1, d2, d3, d4] => { results := [.lit (.bool false)], args := [d1, d2, d3, d4] }
  | _ => none }
def JuryHitWrongFalsely : Prop := juryHitRow.holds Tryz.pinned (OpenSpec.ofChange juryHitWrong)

/- THE SECOND FORM. 'bulk': how many values and letters a reading holds, each counted each time it is reached (what is shared counts as often as it is met; a slice's spare places count too). A statement '..UptoSaid' is the law's where the arguments, and the package variables that the reading takes, are together of bulk at most 1048576: NARROWER than '..Said'. Prove '..Said' where nothing that the law and all that it calls make is longer than what came in: it says more and counts as full. Else prove '..UptoSaid'. A law counts once. -/
mutual
def uptoBulk {H : Type} : DataW H → Nat
  | .lit (.string bytes) => bytes.length + 1
  | .lit _ => 1
  | .nil => 1
  | .ptr d => uptoBulk d + 1
  | .slice elems spare => uptoBulkAll elems + uptoBulkAll spare + 1
  | .agg parts => uptoBulkAll parts + 1
  | .iface _ d => uptoBulk d + 1
  | .map entries => uptoBulkEntries entries + 1
  | .held _ => 1
def uptoBulkAll {H : Type} : List (DataW H) → Nat
  | [] => 0
  | d :: r => uptoBulk d + uptoBulkAll r
def uptoBulkEntries {H : Type} : List (Lit × DataW H) → Nat
  | [] => 0
  | x :: r => uptoBulkEntry x + uptoBulkEntries r
def uptoBulkEntry {H : Type} : Lit × DataW H → Nat
  | (.string bytes, d) => bytes.length + uptoBulk d + 1
  | (_, d) => uptoBulk d + 1
 end
def uptoSmall : (H : Type) → List (DataW H) → Bool := fun _ ds => decide (uptoBulkAll ds ≤ 1048576)
def OpenSpec.upto (s : _root_.Go.ChangeSpec) : _root_.Go.OpenSpec := { _root_.Go.OpenSpec.ofChange s with cond := some uptoSmall }

/-- 'kreisellaw07.JuryAll', WHERE WHAT IT READS IS OF BULK AT MOST 1048576: true; the input reads as it did. -/
def juryAllUptoRow : OpenClaim := { program := "ytijpnoadncadoaagreatdoor", sum := "f24f429fd8fa5acab228fedf4b4ad2ca56a5385c02a7298413028f05c05f7ce3", func := "kreisel/kreisellaw07.JuryAll", spec := "juryAll", unfollowed := true, recurses := true, named := ["kreisel/race.table"], plainKeys := false, apart := false, laid := [("kreisel/race.table", laid_kreisel_race_table)], narrowed := true }
def JuryAllUptoSaid : Prop := juryAllUptoRow.holds Tryz.pinned (OpenSpec.upto juryAllSpec)

/-- 'kreisellaw07.JuryFees', WHERE WHAT IT READS IS OF BULK AT MOST 1048576: true; the input reads as it did. -/
def juryFeesUptoRow : OpenClaim := { program := "ytijpnoadncadoaagreatdoor", sum := "f24f429fd8fa5acab228fedf4b4ad2ca56a5385c02a7298413028f05c05f7ce3", func := "kreisel/kreisellaw07.JuryFees", spec := "juryFees", unfollowed := true, recurses := true, named := ["kreisel/race.table"], plainKeys := false, apart := false, laid := [("kreisel/race.table", laid_kreisel_race_table)], narrowed := true }
def JuryFeesUptoSaid : Prop := juryFeesUptoRow.holds Tryz.pinned (OpenSpec.upto juryFeesSpec)

/-- 'kreisellaw07.JuryMore', WHERE WHAT IT READS IS OF BULK AT MOST 1048576: true; the input reads as it did. -/
def juryMoreUptoRow : OpenClaim := { program := "ytijpnoadncadoaagreatdoor", sum := "f24f429fd8fa5acab228fedf4b4ad2ca56a5385c02a7298413028f05c05f7ce3", func := "kreisel/kreisellaw07.JuryMore", spec := "juryMore", unfollowed := true, recurses := true, named := ["kreisel/race.table"], plainKeys := false, apart := false, laid := [("kreisel/race.table", laid_kreisel_race_table)], narrowed := true }
def JuryMoreUptoSaid : Prop := juryMoreUptoRow.holds Tryz.pinned (OpenSpec.upto juryMoreSpec)

/-- 'kreisellaw07.JuryLater', WHERE WHAT IT READS IS OF BULK AT MOST 1048576: true; the input reads as it did. -/
def juryLaterUptoRow : OpenClaim := { program := "ytijpnoadncadoaagreatdoor", sum := "f24f429fd8fa5acab228fedf4b4ad2ca56a5385c02a7298413028f05c05f7ce3", func := "kreisel/kreisellaw07.JuryLater", spec := "juryLater", unfollowed := true, recurses := true, named := ["kreisel/race.table"], plainKeys := false, apart := false, laid := [("kreisel/race.table", laid_kreisel_race_table)], narrowed := true }
def JuryLaterUptoSaid : Prop := juryLaterUptoRow.holds Tryz.pinned (OpenSpec.upto juryLaterSpec)

/-- 'kreisellaw07.JuryHit', WHERE WHAT IT READS IS OF BULK AT MOST 1048576: true; the input reads as it did. -/
def juryHitUptoRow : OpenClaim := { program := "ytijpnoadncadoaagreatdoor", sum := "f24f429fd8fa5acab228fedf4b4ad2ca56a5385c02a7298413028f05c05f7ce3", func := "kreisel/kreisellaw07.JuryHit", spec := "juryHit", unfollowed := true, recurses := true, named := ["kreisel/race.table"], plainKeys := false, apart := false, laid := [("kreisel/race.table", laid_kreisel_race_table)], narrowed := true }
def JuryHitUptoSaid : Prop := juryHitUptoRow.holds Tryz.pinned (OpenSpec.upto juryHitSpec)

end Rows
end Go.Proofs.YtijpnoadncadoaaGreatDoor
