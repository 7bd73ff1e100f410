/-
 The statement juryReplaced_said, part 2 of 9: ClJuryReplaced.
 Conditions: none.
-/
import Derived.Test.YtkaenmjhfajbkaaGreatDoorTx1
import Derived.Test.YtkaenmjhfajbkaaGreatDoorRows
import Derived.Test.YtkaenmjhfajbkaaGreatDoorProg
import Derived.JoinedOf
import Derived.KernelRfl
namespace Go.Proofs.YtkaenmjhfajbkaaGreatDoor
set_option maxRecDepth 100000
set_option maxHeartbeats 4000000
set_option linter.unusedVariables false
section
theorem rI:(Rows.juryReplacedRow.inPlace==Tryz.prog.inPlace 4)=true:=by kernel_rfl
theorem qP:(Rows.juryReplacedRow.unfollowed==Tryz.prog.unfollowed 4)=true:=by kernel_rfl
theorem rp:(Rows.juryReplacedRow.recurses==Tryz.prog.recurses 4)=true:=by kernel_rfl
theorem qZ:(Rows.juryReplacedRow.named==Tryz.prog.varsNamed 4)=true:=by kernel_rfl
theorem sS:joinedFacts Tryz.prog 4 Tryz.f4 Rows.juryReplacedSpec Rows.juryReplacedRow=true:=by
 unfold joinedFacts
 rw [rI,qP,rp,qZ,A_,show (Rows.juryReplacedRow.lifted==Tryz.prog.liftsFinal)=true from AR,show (Tryz.prog.make==some Rows.juryReplacedRow.make)=true from B5]
 kernel_rfl
end
end Go.Proofs.YtkaenmjhfajbkaaGreatDoor
