/-
 The statement juryAll_said, part 2 of 8: ClJuryAll.
 Conditions: none.
-/
import Derived.Test.YtijpnoadncadoaaGreatDoorTy1
import Derived.Test.YtijpnoadncadoaaGreatDoorRows
import Derived.Test.YtijpnoadncadoaaGreatDoorProg
import Derived.JoinedOf
import Derived.KernelRfl
namespace Go.Proofs.YtijpnoadncadoaaGreatDoor
set_option maxRecDepth 100000
set_option maxHeartbeats 4000000
set_option linter.unusedVariables false
section
theorem vt:(Rows.juryAllRow.inPlace==Tryz.prog.inPlace 3)=true:=by kernel_rfl
theorem vG:(Rows.juryAllRow.unfollowed==Tryz.prog.unfollowed 3)=true:=by kernel_rfl
theorem vC:(Rows.juryAllRow.recurses==Tryz.prog.recurses 3)=true:=by kernel_rfl
theorem vv:(Rows.juryAllRow.named==Tryz.prog.varsNamed 3)=true:=by kernel_rfl
theorem xx:joinedFacts Tryz.prog 3 Tryz.f3 Rows.juryAllSpec Rows.juryAllRow=true:=by
 unfold joinedFacts
 rw [vt,vG,vC,vv,zH,show (Rows.juryAllRow.lifted==Tryz.prog.liftsFinal)=true from yZ,show (Tryz.prog.make==some Rows.juryAllRow.make)=true from AD]
 kernel_rfl
end
end Go.Proofs.YtijpnoadncadoaaGreatDoor
