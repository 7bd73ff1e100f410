/-
 The statement raceRepaired_said, part 2 of 9: ClRaceRepaired.
 Conditions: none.
-/
import Derived.Test.YtadjgjnicdcjbaaGreatDoorTz1
import Derived.Test.YtadjgjnicdcjbaaGreatDoorRows
import Derived.Test.YtadjgjnicdcjbaaGreatDoorProg
import Derived.JoinedOf
import Derived.KernelRfl
namespace Go.Proofs.YtadjgjnicdcjbaaGreatDoor
set_option maxRecDepth 100000
set_option maxHeartbeats 4000000
set_option linter.unusedVariables false
section
theorem qJ:(Rows.raceRepairedRow.inPlace==Tryz.prog.inPlace 5)=true:=by kernel_rfl
theorem rr:(Rows.raceRepairedRow.unfollowed==Tryz.prog.unfollowed 5)=true:=by kernel_rfl
theorem qM:(Rows.raceRepairedRow.recurses==Tryz.prog.recurses 5)=true:=by kernel_rfl
theorem q7:(Rows.raceRepairedRow.named==Tryz.prog.varsNamed 5)=true:=by kernel_rfl
theorem sr:joinedFacts Tryz.prog 5 Tryz.f5 Rows.raceRepairedSpec Rows.raceRepairedRow=true:=by
 unfold joinedFacts
 rw [qJ,rr,qM,q7,As,show (Rows.raceRepairedRow.lifted==Tryz.prog.liftsFinal)=true from AY,show (Tryz.prog.make==some Rows.raceRepairedRow.make)=true from CM]
 kernel_rfl
end
end Go.Proofs.YtadjgjnicdcjbaaGreatDoor
