/-
  NARROWER THAN 'FOR EVERY INPUT', by the rows' own cells (each row's printed sentence says how): RaceOrder: laid · RaceLater: laid · RaceSync: laid · RaceRide: laid.
  DERIVED. THE GIVEN ROWS OF THIS SEAT. 4 by the template 'for every input the law returns true; each argument reads behind the call as it read before'; 0 by the template 'total and deterministic' (their statements: YtlajhejcfcoddaaGreatDoorTotals.lean).
  GIVEN WITH THE SEED: the statements are not yours to turn. If you find one false, say at which input.
  Laid BY PROGRAM, IN A SANDBOX (cutbox-rows.mjs): the forced cells as the released guide's own fill.sh prints them over the translation e7c163da9abeec9b… (all of the seat's roots in one cut). By AI agents, Wed Nov 11 2026. No macro, syntax, notation, axiom, sorry.
-/
import Derived.Test.YtlajhejcfcoddaaGreatDoorChecked
import GoSem.Claim
import GoSem.ClaimJoined
import GoSem.ClaimMapViews
import Derived.JoinedTies
import Derived.KernelRfl
namespace Go.Proofs.YtlajhejcfcoddaaGreatDoor
/- THE CELL 'sum', in the pinned program and in every row, IS THE sha256 OF THE DUMP (.gsa) THAT YtlajhejcfcoddaaGreatDoorProg.lean LOADS. Nothing in Lean hashes anything: it is a label: what it is worth is what the hold of that sum in a sandbox is worth. -/
noncomputable def Tryz.pinned : Pinned := { name := "ytlajhejcfcoddaagreatdoor", sum := "e7c163da9abeec9bf8ab2145c3f0aa9b45e4da7b5fdf4a5b1af260a7563422fc", checked := Tryz.checked }
namespace Rows
def none {H : Type} : Left H := { results := [], args := [] }

/- WHAT THE LISTED PACKAGE-LEVEL VARIABLES READ AS WHEN THE CALL BEGINS. Each datum BY PROGRAM (the guide's laid-datum.mjs) off the statement by which the dump's own 'gosem.cut.vars' lays the variable. In a bare row this is a premise. The card (YtlajhejcfcoddaaGreatDoorCards.lean) ties it to the program's text. -/
def laid_kreisel_race_table {H : Type} : DataW H := .iface "func table" (.agg [.agg [.iface "func" (.lit (.string [107, 114, 101, 105, 115, 101, 108, 47, 114, 97, 99, 101, 46, 116, 97, 98, 108, 101, 36, 49])), .iface "func" (.lit (.string [107, 114, 101, 105, 115, 101, 108, 47, 114, 97, 99, 101, 46, 116, 97, 98, 108, 101, 36, 50]))], .agg [.iface "func" (.lit (.string [107, 114, 101, 105, 115, 101, 108, 47, 114, 97, 99, 101, 46, 116, 97, 98, 108, 101, 36, 51])), .iface "func" (.lit (.string [107, 114, 101, 105, 115, 101, 108, 47, 114, 97, 99, 101, 46, 116, 97, 98, 108, 101, 36, 52]))], .agg [.iface "func" (.lit (.string [107, 114, 101, 105, 115, 101, 108, 47, 114, 97, 99, 101, 46, 116, 97, 98, 108, 101, 36, 53])), .iface "func" (.lit (.string [107, 114, 101, 105, 115, 101, 108, 47, 114, 97, 99, 101, 46, 116, 97, 98, 108, 101, 36, 54]))]])

/-- 'kreisellaw06.RaceOrder': WHATEVER THE INPUT: true; the input reads as it did. -/
def raceOrderSpec : ChangeSpec := { name := "raceOrder", fn := fun _ => fun
  | [d1, d2] => { results := [.lit (.bool true)], args := [d1, d2] }
  | _ => none }
def raceOrderRow : OpenClaim := { program := "ytlajhejcfcoddaagreatdoor", sum := "e7c163da9abeec9bf8ab2145c3f0aa9b45e4da7b5fdf4a5b1af260a7563422fc", func := "kreisel/kreisellaw06.RaceOrder", spec := "raceOrder", inPlace := ["maps.clone"], unfollowed := true, recurses := true, named := ["kreisel/race.table"], plainKeys := false, apart := false, laid := [("kreisel/race.table", laid_kreisel_race_table)] }
def RaceOrderSaid : Prop := raceOrderRow.holds Tryz.pinned (OpenSpec.ofChange raceOrderSpec)

/-- ITS FALSE NEIGHBOUR: 'it returns false'. Refute it at one input. -/
def raceOrderWrong : ChangeSpec := { name := "raceOrder", fn := fun _ => fun
  | [d1, d2] => { results := [.lit (.bool false)], args := [d1, d2] }
  | _ => none }
def RaceOrderWrongFalsely : Prop := raceOrderRow.holds Tryz.pinned (OpenSpec.ofChange raceOrderWrong)

/-- 'kreisellaw06.RaceLater': WHATEVER THE INPUT: true; the input reads as it did. -/
def raceLaterSpec : ChangeSpec := { name := "raceLater", fn := fun _ => fun
  | [d1, d2] => { results := [.lit (.bool true)], args := [d1, d2] }
  | _ => none }
def raceLaterRow : OpenClaim := { program := "ytlajhejcfcoddaagreatdoor", sum := "e7c163da9abeec9bf8ab2145c3f0aa9b45e4da7b5fdf4a5b1af260a7563422fc", func := "kreisel/kreisellaw06.RaceLater", spec := "raceLater", inPlace := ["maps.clone"], unfollowed := true, recurses := true, named := ["kreisel/race.table"], plainKeys := false, apart := false, laid := [("kreisel/race.table", laid_kreisel_race_table)] }
def RaceLaterSaid : Prop := raceLaterRow.holds Tryz.pinned (OpenSpec.ofChange raceLaterSpec)

/-- ITS FALSE NEIGHBOUR: 'it returns false'. Refute it at one input. -/
def raceLaterWrong : ChangeSpec := { name := "raceLater", fn := fun _ => fun
  | [d1, d2] => { results := [.lit (.bool false)], args := [d1, d2] }
  | _ => none }
def RaceLaterWrongFalsely : Prop := raceLaterRow.holds Tryz.pinned (OpenSpec.ofChange raceLaterWrong)

/-- 'kreisellaw06.RaceSync': WHATEVER THE INPUT: true; the input reads as it did. -/
def raceSyncSpec : ChangeSpec := { name := "raceSync", fn := fun _ => fun
  | [d1, d2, d3] => { results := [.lit (.bool true)], args := [d1, d2, d3] }
  | _ => none }
def raceSyncRow : OpenClaim := { program := "ytlajhejcfcoddaagreatdoor", sum := "e7c163da9abeec9bf8ab2145c3f0aa9b45e4da7b5fdf4a5b1af260a7563422fc", func := "kreisel/kreisellaw06.RaceSync", spec := "raceSync", inPlace := ["maps.clone"], unfollowed := true, recurses := true, named := ["kreisel/race.table"], plainKeys := false, apart := false, laid := [("kreisel/race.table", laid_kreisel_race_table)] }
def RaceSyncSaid : Prop := raceSyncRow.holds Tryz.pinned (OpenSpec.ofChange raceSyncSpec)

/-- ITS FALSE NEIGHBOUR: 'it returns false'. Refute it at one input. -/
def raceSyncWrong : ChangeSpec := { name := "raceSync", fn := fun _ => fun
  | [d1, d2, d3] => { results := [.lit (.bool false)], args := [d1, d2, d3] }
  | _ => none }
def RaceSyncWrongFalsely : Prop := raceSyncRow.holds Tryz.pinned (OpenSpec.ofChange raceSyncWrong)

/-- 'kreisellaw06.RaceRide': WHATEVER THE INPUT: true; the input reads as it did. -/
def raceRideSpec : ChangeSpec := { name := "raceRide", fn := fun _ => fun
  | [d1, d2, d3] => { results := [.lit (.bool true)], args := [d1, d2, d3] }
  | _ => none }
def raceRideRow : OpenClaim := { program := "ytlajhejcfcoddaagreatdoor", sum := "e7c163da9abeec9bf8ab2145c3f0aa9b45e4da7b5fdf4a5b1af260a7563422fc", func := "kreisel/kreisellaw06.RaceRide", spec := "raceRide", inPlace := ["maps.clone"], unfollowed := true, recurses := true, named := ["kreisel/race.table"], plainKeys := false, apart := false, laid := [("kreisel/race.table", laid_kreisel_race_table)] }
def RaceRideSaid : Prop := raceRideRow.holds Tryz.pinned (OpenSpec.ofChange raceRideSpec)

/-- ITS FALSE NEIGHBOUR: 'it returns false'. Refute it at one input. -/
def raceRideWrong : ChangeSpec := { name := "raceRide", fn := fun _ => fun
  | [d1, d2, d3] => { results := [.lit (.bool false)], args := [d1, d2, d3] }
  | _ => none }
def RaceRideWrongFalsely : Prop := raceRideRow.holds Tryz.pinned (OpenSpec.ofChange raceRideWrong)

/- THE SECOND FORM. 'bulk': how many values and letters a reading holds, each counted each time it is reached (what is shared counts as often as it is met; a slice's spare places count too). A statement '..UptoSaid' is the law's where the arguments, and the package variables that the reading takes, are together of bulk at most 1048576: NARROWER than '..Said'. Prove '..Said' where nothing that the law and all that it calls make is longer than what came in: it says more and counts as full. Else prove '..UptoSaid'. A law counts once. -/
mutual
def uptoBulk {H : Type} : DataW H → Nat
  | .lit (.string bytes) => bytes.length + 1
  | .lit _ => 1
  | .nil => 1
  | .ptr d => uptoBulk d + 1
  | .slice elems spare => uptoBulkAll elems + uptoBulkAll spare + 1
  | .agg parts => uptoBulkAll parts + 1
  | .iface _ d => uptoBulk d + 1
  | .map entries => uptoBulkEntries entries + 1
  | .held _ => 1
def uptoBulkAll {H : Type} : List (DataW H) → Nat
  | [] => 0
  | d :: r => uptoBulk d + uptoBulkAll r
def uptoBulkEntries {H : Type} : List (Lit × DataW H) → Nat
  | [] => 0
  | x :: r => uptoBulkEntry x + uptoBulkEntries r
def uptoBulkEntry {H : Type} : Lit × DataW H → Nat
  | (.string bytes, d) => bytes.length + uptoBulk d + 1
  | (_, d) => uptoBulk d + 1
 end
def uptoSmall : (H : Type) → List (DataW H) → Bool := fun _ ds => decide (uptoBulkAll ds ≤ 1048576)
def OpenSpec.upto (s : _root_.Go.ChangeSpec) : _root_.Go.OpenSpec := { _root_.Go.OpenSpec.ofChange s with cond := some uptoSmall }

/-- 'kreisellaw06.RaceOrder', WHERE WHAT IT READS IS OF BULK AT MOST 1048576: true; the input reads as it did. -/
def raceOrderUptoRow : OpenClaim := { program := "ytlajhejcfcoddaagreatdoor", sum := "e7c163da9abeec9bf8ab2145c3f0aa9b45e4da7b5fdf4a5b1af260a7563422fc", func := "kreisel/kreisellaw06.RaceOrder", spec := "raceOrder", inPlace := ["maps.clone"], unfollowed := true, recurses := true, named := ["kreisel/race.table"], plainKeys := false, apart := false, laid := [("kreisel/race.table", laid_kreisel_race_table)], narrowed := true }
def RaceOrderUptoSaid : Prop := raceOrderUptoRow.holds Tryz.pinned (OpenSpec.upto raceOrderSpec)

/-- 'kreisellaw06.RaceLater', WHERE WHAT IT READS IS OF BULK AT MOST 1048576: true; the input reads as it did. -/
def raceLaterUptoRow : OpenClaim := { program := "ytlajhejcfcoddaagreatdoor", sum := "e7c163da9abeec9bf8ab2145c3f0aa9b45e4da7b5fdf4a5b1af260a7563422fc", func := "kreisel/kreisellaw06.RaceLater", spec := "raceLater", inPlace := ["maps.clone"], unfollowed := true, recurses := true, named := ["kreisel/race.table"], plainKeys := false, apart := false, laid := [("kreisel/race.table", laid_kreisel_race_table)], narrowed := true }
def RaceLaterUptoSaid : Prop := raceLaterUptoRow.holds Tryz.pinned (OpenSpec.upto raceLaterSpec)

/-- 'kreisellaw06.RaceSync', WHERE WHAT IT READS IS OF BULK AT MOST 1048576: true; the input reads as it did. -/
def raceSyncUptoRow : OpenClaim := { program := "ytlajhejcfcoddaagreatdoor", sum := "e7c163da9abeec9bf8ab2145c3f0aa9b45e4da7b5fdf4a5b1af260a7563422fc", func := "kreisel/kreisellaw06.RaceSync", spec := "raceSync", inPlace := ["maps.clone"], unfollowed := true, recurses := true, named := ["kreisel/race.table"], plainKeys := false, apart := false, laid := [("kreisel/race.table", laid_kreisel_race_table)], narrowed := true }
def RaceSyncUptoSaid : Prop := raceSyncUptoRow.holds Tryz.pinned (OpenSpec.upto raceSyncSpec)

/-- 'kreisellaw06.RaceRide', WHERE WHAT IT READS IS OF BULK AT MOST 1048576: true; the input reads as it did. -/
def raceRideUptoRow : OpenClaim := { program := "ytlajhejcfcoddaagreatdoor", sum := "e7c163da9abeec9bf8ab2145c3f0aa9b45e4da7b5fdf4a5b1af260a7563422fc", func := "kreisel/kreisellaw06.RaceRide", spec := "raceRide", inPlace := ["maps.clone"], unfollowed := true, recurses := true, named := ["kreisel/race.table"], plainKeys := false, apart := false, laid := [("kreisel/race.table", laid_kreisel_race_table)], narrowed := true }
def RaceRideUptoSaid : Prop := raceRideUptoRow.holds Tryz.pinned (OpenSpec.upto raceRideSpec)

end Rows
end Go.Proofs.YtlajhejcfcoddaaGreatDoor
