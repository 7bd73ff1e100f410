/-
 The statement juryReplaced_said, part 2 of 9: ClJuryReplaced.
 Conditions: none.
-/
import Derived.Test.YtkaenmjhfajbkaaGreatDoorTx1
import Derived.Test.YtkaenmjhfajbkaaGreatDoorRows
import Derived.Test.YtkaenmjhfajbkaaGreatDoorProg
import Derived.JoinedOf
import Derived.KernelRfl
namespace Go.Proofs.YtkaenmjhfajbkaaGreatDoor
set_option maxRecDepth 100000
set_option maxHeartbeats 4000000
set_option linter.unusedVariables false
section
theorem rj:(Rows.juryReplacedRow.inPlace==Tryz.prog.inPlace 4)=true:=by kernel_rfl
theorem ru:(Rows.juryReplacedRow.unfollowed==Tryz.prog.unfollowed 4)=true:=by kernel_rfl
theorem qZ:(Rows.juryReplacedRow.recurses==Tryz.prog.recurses 4)=true:=by kernel_rfl
theorem rJ:(Rows.juryReplacedRow.named==Tryz.prog.varsNamed 4)=true:=by kernel_rfl
theorem sR:joinedFacts Tryz.prog 4 Tryz.f4 Rows.juryReplacedSpec Rows.juryReplacedRow=true:=by
 unfold joinedFacts
 rw [rj,ru,qZ,rJ,AH,show (Rows.juryReplacedRow.lifted==Tryz.prog.liftsFinal)=true from AI,show (Tryz.prog.make==some Rows.juryReplacedRow.make)=true from C8]
 kernel_rfl
end
end Go.Proofs.YtkaenmjhfajbkaaGreatDoor
