/-
 The statement raceLater_said, part 2 of 8: ClRaceLater.
 Conditions: none.
-/
import Derived.Test.YtlajhejcfcoddaaGreatDoorTv1
import Derived.Test.YtlajhejcfcoddaaGreatDoorRows
import Derived.Test.YtlajhejcfcoddaaGreatDoorProg
import Derived.JoinedOf
import Derived.KernelRfl
namespace Go.Proofs.YtlajhejcfcoddaaGreatDoor
set_option maxRecDepth 100000
set_option maxHeartbeats 4000000
set_option linter.unusedVariables false
section
theorem uH:(Rows.raceLaterRow.inPlace==Tryz.prog.inPlace 4)=true:=by kernel_rfl
theorem tR:(Rows.raceLaterRow.unfollowed==Tryz.prog.unfollowed 4)=true:=by kernel_rfl
theorem uv:(Rows.raceLaterRow.recurses==Tryz.prog.recurses 4)=true:=by kernel_rfl
theorem um:(Rows.raceLaterRow.named==Tryz.prog.varsNamed 4)=true:=by kernel_rfl
theorem vq:joinedFacts Tryz.prog 4 Tryz.f4 Rows.raceLaterSpec Rows.raceLaterRow=true:=by
 unfold joinedFacts
 rw [uH,tR,uv,um,Ba,show (Rows.raceLaterRow.lifted==Tryz.prog.liftsFinal)=true from AJ,show (Tryz.prog.make==some Rows.raceLaterRow.make)=true from C9]
 kernel_rfl
end
end Go.Proofs.YtlajhejcfcoddaaGreatDoor
