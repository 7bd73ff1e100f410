/-
 The statement juryLater_said, part 2 of 9: ClJuryLater.
 Conditions: none.
-/
import Derived.Test.YtijpnoadncadoaaGreatDoorTw1
import Derived.Test.YtijpnoadncadoaaGreatDoorRows
import Derived.Test.YtijpnoadncadoaaGreatDoorProg
import Derived.JoinedOf
import Derived.KernelRfl
namespace Go.Proofs.YtijpnoadncadoaaGreatDoor
set_option maxRecDepth 100000
set_option maxHeartbeats 4000000
set_option linter.unusedVariables false
section
theorem vw:(Rows.juryLaterRow.inPlace==Tryz.prog.inPlace 6)=true:=by kernel_rfl
theorem u6:(Rows.juryLaterRow.unfollowed==Tryz.prog.unfollowed 6)=true:=by kernel_rfl
theorem vt:(Rows.juryLaterRow.recurses==Tryz.prog.recurses 6)=true:=by kernel_rfl
theorem uL:(Rows.juryLaterRow.named==Tryz.prog.varsNamed 6)=true:=by kernel_rfl
theorem wq:joinedFacts Tryz.prog 6 Tryz.f6 Rows.juryLaterSpec Rows.juryLaterRow=true:=by
 unfold joinedFacts
 rw [vw,u6,vt,uL,BN,show (Rows.juryLaterRow.lifted==Tryz.prog.liftsFinal)=true from Bj,show (Tryz.prog.make==some Rows.juryLaterRow.make)=true from Cm]
 kernel_rfl
end
end Go.Proofs.YtijpnoadncadoaaGreatDoor
