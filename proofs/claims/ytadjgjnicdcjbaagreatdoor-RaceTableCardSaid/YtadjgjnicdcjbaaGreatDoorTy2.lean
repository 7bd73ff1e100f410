/-
 The statement raceTable_said, part 2 of 8: ClRaceTable.
 Conditions: none.
-/
import Derived.Test.YtadjgjnicdcjbaaGreatDoorTy1
import Derived.Test.YtadjgjnicdcjbaaGreatDoorRows
import Derived.Test.YtadjgjnicdcjbaaGreatDoorProg
import Derived.JoinedOf
import Derived.KernelRfl
namespace Go.Proofs.YtadjgjnicdcjbaaGreatDoor
set_option maxRecDepth 100000
set_option maxHeartbeats 4000000
set_option linter.unusedVariables false
section
theorem tH:(Rows.raceTableRow.inPlace==Tryz.prog.inPlace 4)=true:=by kernel_rfl
theorem tF:(Rows.raceTableRow.unfollowed==Tryz.prog.unfollowed 4)=true:=by kernel_rfl
theorem sZ:(Rows.raceTableRow.recurses==Tryz.prog.recurses 4)=true:=by kernel_rfl
theorem sR:(Rows.raceTableRow.named==Tryz.prog.varsNamed 4)=true:=by kernel_rfl
theorem uE:joinedFacts Tryz.prog 4 Tryz.f4 Rows.raceTableSpec Rows.raceTableRow=true:=by
 unfold joinedFacts
 rw [tH,tF,sZ,sR,Ag,show (Rows.raceTableRow.lifted==Tryz.prog.liftsFinal)=true from AX,show (Tryz.prog.make==some Rows.raceTableRow.make)=true from BC]
 kernel_rfl
end
end Go.Proofs.YtadjgjnicdcjbaaGreatDoor
