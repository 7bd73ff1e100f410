/-
 The statement raceNarrowed_said, part 2 of 8: ClRaceNarrowed.
 Conditions: none.
-/
import Derived.Test.YtadjgjnicdcjbaaGreatDoorTz1
import Derived.Test.YtadjgjnicdcjbaaGreatDoorRows
import Derived.Test.YtadjgjnicdcjbaaGreatDoorProg
import Derived.JoinedOf
import Derived.KernelRfl
namespace Go.Proofs.YtadjgjnicdcjbaaGreatDoor
set_option maxRecDepth 100000
set_option maxHeartbeats 4000000
set_option linter.unusedVariables false
section
theorem qy:(Rows.raceNarrowedRow.inPlace==Tryz.prog.inPlace 6)=true:=by kernel_rfl
theorem qo:(Rows.raceNarrowedRow.unfollowed==Tryz.prog.unfollowed 6)=true:=by kernel_rfl
theorem qm:(Rows.raceNarrowedRow.recurses==Tryz.prog.recurses 6)=true:=by kernel_rfl
theorem qa:(Rows.raceNarrowedRow.named==Tryz.prog.varsNamed 6)=true:=by kernel_rfl
theorem rE:joinedFacts Tryz.prog 6 Tryz.f6 Rows.raceNarrowedSpec Rows.raceNarrowedRow=true:=by
 unfold joinedFacts
 rw [qy,qo,qm,qa,zU,show (Rows.raceNarrowedRow.lifted==Tryz.prog.liftsFinal)=true from AK,show (Tryz.prog.make==some Rows.raceNarrowedRow.make)=true from BL]
 kernel_rfl
end
end Go.Proofs.YtadjgjnicdcjbaaGreatDoor
