/-
 The statement juryExamples_said, part 2 of 7: ClJuryExamples.
 Conditions: none.
-/
import Derived.Test.YtkaenmjhfajbkaaGreatDoorTw1
import Derived.Test.YtkaenmjhfajbkaaGreatDoorRows
import Derived.Test.YtkaenmjhfajbkaaGreatDoorProg
import Derived.JoinedOf
import Derived.KernelRfl
namespace Go.Proofs.YtkaenmjhfajbkaaGreatDoor
set_option maxRecDepth 100000
set_option maxHeartbeats 4000000
set_option linter.unusedVariables false
section
theorem nD:(Rows.juryExamplesRow.inPlace==Tryz.prog.inPlace 5)=true:=by kernel_rfl
theorem nF:(Rows.juryExamplesRow.unfollowed==Tryz.prog.unfollowed 5)=true:=by kernel_rfl
theorem nU:(Rows.juryExamplesRow.recurses==Tryz.prog.recurses 5)=true:=by kernel_rfl
theorem og:(Rows.juryExamplesRow.named==Tryz.prog.varsNamed 5)=true:=by kernel_rfl
theorem oM:joinedFacts Tryz.prog 5 Tryz.f5 Rows.juryExamplesSpec Rows.juryExamplesRow=true:=by
 unfold joinedFacts
 rw [nD,nF,nU,og,uZ,show (Rows.juryExamplesRow.lifted==Tryz.prog.liftsFinal)=true from uL,show (Tryz.prog.make==some Rows.juryExamplesRow.make)=true from wF]
 kernel_rfl
end
end Go.Proofs.YtkaenmjhfajbkaaGreatDoor
