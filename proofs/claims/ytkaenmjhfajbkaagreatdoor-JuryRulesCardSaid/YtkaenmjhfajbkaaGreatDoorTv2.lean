/-
 The statement juryRules_said, part 2 of 9: ClJuryRules.
 Conditions: none.
-/
import Derived.Test.YtkaenmjhfajbkaaGreatDoorTv1
import Derived.Test.YtkaenmjhfajbkaaGreatDoorRows
import Derived.Test.YtkaenmjhfajbkaaGreatDoorProg
import Derived.JoinedOf
import Derived.KernelRfl
namespace Go.Proofs.YtkaenmjhfajbkaaGreatDoor
set_option maxRecDepth 100000
set_option maxHeartbeats 4000000
set_option linter.unusedVariables false
section
theorem t_:(Rows.juryRulesRow.inPlace==Tryz.prog.inPlace 3)=true:=by kernel_rfl
theorem uE:(Rows.juryRulesRow.unfollowed==Tryz.prog.unfollowed 3)=true:=by kernel_rfl
theorem uH:(Rows.juryRulesRow.recurses==Tryz.prog.recurses 3)=true:=by kernel_rfl
theorem uq:(Rows.juryRulesRow.named==Tryz.prog.varsNamed 3)=true:=by kernel_rfl
theorem vW:joinedFacts Tryz.prog 3 Tryz.f3 Rows.juryRulesSpec Rows.juryRulesRow=true:=by
 unfold joinedFacts
 rw [t_,uE,uH,uq,Ac,show (Rows.juryRulesRow.lifted==Tryz.prog.liftsFinal)=true from AH,show (Tryz.prog.make==some Rows.juryRulesRow.make)=true from Bq]
 kernel_rfl
end
end Go.Proofs.YtkaenmjhfajbkaaGreatDoor
