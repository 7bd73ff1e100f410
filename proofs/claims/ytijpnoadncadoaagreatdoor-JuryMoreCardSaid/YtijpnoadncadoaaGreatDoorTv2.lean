/-
 The statement juryMore_said, part 2 of 8: ClJuryMore.
 Conditions: none.
-/
import Derived.Test.YtijpnoadncadoaaGreatDoorTv1
import Derived.Test.YtijpnoadncadoaaGreatDoorRows
import Derived.Test.YtijpnoadncadoaaGreatDoorProg
import Derived.JoinedOf
import Derived.KernelRfl
namespace Go.Proofs.YtijpnoadncadoaaGreatDoor
set_option maxRecDepth 100000
set_option maxHeartbeats 4000000
set_option linter.unusedVariables false
section
theorem uZ:(Rows.juryMoreRow.inPlace==Tryz.prog.inPlace 5)=true:=by kernel_rfl
theorem uU:(Rows.juryMoreRow.unfollowed==Tryz.prog.unfollowed 5)=true:=by kernel_rfl
theorem uI:(Rows.juryMoreRow.recurses==Tryz.prog.recurses 5)=true:=by kernel_rfl
theorem uV:(Rows.juryMoreRow.named==Tryz.prog.varsNamed 5)=true:=by kernel_rfl
theorem wc:joinedFacts Tryz.prog 5 Tryz.f5 Rows.juryMoreSpec Rows.juryMoreRow=true:=by
 unfold joinedFacts
 rw [uZ,uU,uI,uV,zV,show (Rows.juryMoreRow.lifted==Tryz.prog.liftsFinal)=true from zC,show (Tryz.prog.make==some Rows.juryMoreRow.make)=true from BD]
 kernel_rfl
end
end Go.Proofs.YtijpnoadncadoaaGreatDoor
