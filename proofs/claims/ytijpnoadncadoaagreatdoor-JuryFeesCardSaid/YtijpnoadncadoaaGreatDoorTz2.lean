/-
 The statement juryFees_said, part 2 of 8: ClJuryFees.
 Conditions: none.
-/
import Derived.Test.YtijpnoadncadoaaGreatDoorTz1
import Derived.Test.YtijpnoadncadoaaGreatDoorRows
import Derived.Test.YtijpnoadncadoaaGreatDoorProg
import Derived.JoinedOf
import Derived.KernelRfl
namespace Go.Proofs.YtijpnoadncadoaaGreatDoor
set_option maxRecDepth 100000
set_option maxHeartbeats 4000000
set_option linter.unusedVariables false
section
theorem uK:(Rows.juryFeesRow.inPlace==Tryz.prog.inPlace 4)=true:=by kernel_rfl
theorem uB:(Rows.juryFeesRow.unfollowed==Tryz.prog.unfollowed 4)=true:=by kernel_rfl
theorem vj:(Rows.juryFeesRow.recurses==Tryz.prog.recurses 4)=true:=by kernel_rfl
theorem vk:(Rows.juryFeesRow.named==Tryz.prog.varsNamed 4)=true:=by kernel_rfl
theorem v9:joinedFacts Tryz.prog 4 Tryz.f4 Rows.juryFeesSpec Rows.juryFeesRow=true:=by
 unfold joinedFacts
 rw [uK,uB,vj,vk,zE,show (Rows.juryFeesRow.lifted==Tryz.prog.liftsFinal)=true from zT,show (Tryz.prog.make==some Rows.juryFeesRow.make)=true from Bf]
 kernel_rfl
end
end Go.Proofs.YtijpnoadncadoaaGreatDoor
