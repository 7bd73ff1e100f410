/-
 The statement raceTrue_said, part 2 of 8: ClRaceTrue.
 Conditions: none.
-/
import Derived.Test.YtdllkkdchkhimaaGreatDoorTz1
import Derived.Test.YtdllkkdchkhimaaGreatDoorRows
import Derived.Test.YtdllkkdchkhimaaGreatDoorProg
import Derived.JoinedOf
import Derived.KernelRfl
namespace Go.Proofs.YtdllkkdchkhimaaGreatDoor
set_option maxRecDepth 100000
set_option maxHeartbeats 4000000
set_option linter.unusedVariables false
section
theorem tL:(Rows.raceTrueRow.inPlace==Tryz.prog.inPlace 3)=true:=by kernel_rfl
theorem uj:(Rows.raceTrueRow.unfollowed==Tryz.prog.unfollowed 3)=true:=by kernel_rfl
theorem uc:(Rows.raceTrueRow.recurses==Tryz.prog.recurses 3)=true:=by kernel_rfl
theorem tG:(Rows.raceTrueRow.named==Tryz.prog.varsNamed 3)=true:=by kernel_rfl
theorem vo:joinedFacts Tryz.prog 3 Tryz.f3 Rows.raceTrueSpec Rows.raceTrueRow=true:=by
 unfold joinedFacts
 rw [tL,uj,uc,tG,zW,show (Rows.raceTrueRow.lifted==Tryz.prog.liftsFinal)=true from Ad,show (Tryz.prog.make==some Rows.raceTrueRow.make)=true from Cs]
 kernel_rfl
end
end Go.Proofs.YtdllkkdchkhimaaGreatDoor
