/-
 The statement raceExamples_said, part 2 of 7: ClRaceExamples.
 Conditions: none.
-/
import Derived.Test.YtadjgjnicdcjbaaGreatDoorTx1
import Derived.Test.YtadjgjnicdcjbaaGreatDoorRows
import Derived.Test.YtadjgjnicdcjbaaGreatDoorProg
import Derived.JoinedOf
import Derived.KernelRfl
namespace Go.Proofs.YtadjgjnicdcjbaaGreatDoor
set_option maxRecDepth 100000
set_option maxHeartbeats 4000000
set_option linter.unusedVariables false
section
theorem ny:(Rows.raceExamplesRow.inPlace==Tryz.prog.inPlace 3)=true:=by kernel_rfl
theorem nq:(Rows.raceExamplesRow.unfollowed==Tryz.prog.unfollowed 3)=true:=by kernel_rfl
theorem m8:(Rows.raceExamplesRow.recurses==Tryz.prog.recurses 3)=true:=by kernel_rfl
theorem nK:(Rows.raceExamplesRow.named==Tryz.prog.varsNamed 3)=true:=by kernel_rfl
theorem oi:joinedFacts Tryz.prog 3 Tryz.f3 Rows.raceExamplesSpec Rows.raceExamplesRow=true:=by
 unfold joinedFacts
 rw [ny,nq,m8,nK,vC,show (Rows.raceExamplesRow.lifted==Tryz.prog.liftsFinal)=true from vc,show (Tryz.prog.make==some Rows.raceExamplesRow.make)=true from vW]
 kernel_rfl
end
end Go.Proofs.YtadjgjnicdcjbaaGreatDoor
