/-
 The statement raceRide_said, part 2 of 7: ClRaceRide.
 Conditions: none.
-/
import Derived.Test.YtlajhejcfcoddaaGreatDoorTz1
import Derived.Test.YtlajhejcfcoddaaGreatDoorRows
import Derived.Test.YtlajhejcfcoddaaGreatDoorProg
import Derived.JoinedOf
import Derived.KernelRfl
namespace Go.Proofs.YtlajhejcfcoddaaGreatDoor
set_option maxRecDepth 100000
set_option maxHeartbeats 4000000
set_option linter.unusedVariables false
section
theorem rA:(Rows.raceRideRow.inPlace==Tryz.prog.inPlace 6)=true:=by kernel_rfl
theorem rq:(Rows.raceRideRow.unfollowed==Tryz.prog.unfollowed 6)=true:=by kernel_rfl
theorem rh:(Rows.raceRideRow.recurses==Tryz.prog.recurses 6)=true:=by kernel_rfl
theorem rC:(Rows.raceRideRow.named==Tryz.prog.varsNamed 6)=true:=by kernel_rfl
theorem sx:joinedFacts Tryz.prog 6 Tryz.f6 Rows.raceRideSpec Rows.raceRideRow=true:=by
 unfold joinedFacts
 rw [rA,rq,rh,rC,xy,show (Rows.raceRideRow.lifted==Tryz.prog.liftsFinal)=true from wO,show (Tryz.prog.make==some Rows.raceRideRow.make)=true from xX]
 kernel_rfl
end
end Go.Proofs.YtlajhejcfcoddaaGreatDoor
