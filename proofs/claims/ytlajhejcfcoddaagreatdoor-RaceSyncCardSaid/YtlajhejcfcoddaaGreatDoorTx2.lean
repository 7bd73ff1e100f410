/-
 The statement raceSync_said, part 2 of 8: ClRaceSync.
 Conditions: none.
-/
import Derived.Test.YtlajhejcfcoddaaGreatDoorTx1
import Derived.Test.YtlajhejcfcoddaaGreatDoorRows
import Derived.Test.YtlajhejcfcoddaaGreatDoorProg
import Derived.JoinedOf
import Derived.KernelRfl
namespace Go.Proofs.YtlajhejcfcoddaaGreatDoor
set_option maxRecDepth 100000
set_option maxHeartbeats 4000000
set_option linter.unusedVariables false
section
theorem vq:(Rows.raceSyncRow.inPlace==Tryz.prog.inPlace 5)=true:=by kernel_rfl
theorem uz:(Rows.raceSyncRow.unfollowed==Tryz.prog.unfollowed 5)=true:=by kernel_rfl
theorem uE:(Rows.raceSyncRow.recurses==Tryz.prog.recurses 5)=true:=by kernel_rfl
theorem uN:(Rows.raceSyncRow.named==Tryz.prog.varsNamed 5)=true:=by kernel_rfl
theorem v_:joinedFacts Tryz.prog 5 Tryz.f5 Rows.raceSyncSpec Rows.raceSyncRow=true:=by
 unfold joinedFacts
 rw [vq,uz,uE,uN,AK,show (Rows.raceSyncRow.lifted==Tryz.prog.liftsFinal)=true from Ab,show (Tryz.prog.make==some Rows.raceSyncRow.make)=true from Dd]
 kernel_rfl
end
end Go.Proofs.YtlajhejcfcoddaaGreatDoor
