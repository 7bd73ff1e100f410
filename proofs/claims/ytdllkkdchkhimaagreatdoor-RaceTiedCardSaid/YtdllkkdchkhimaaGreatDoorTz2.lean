/-
 The statement raceTied_said, part 2 of 8: ClRaceTied.
 Conditions: none.
-/
import Derived.Test.YtdllkkdchkhimaaGreatDoorTz1
import Derived.Test.YtdllkkdchkhimaaGreatDoorRows
import Derived.Test.YtdllkkdchkhimaaGreatDoorProg
import Derived.JoinedOf
import Derived.KernelRfl
namespace Go.Proofs.YtdllkkdchkhimaaGreatDoor
set_option maxRecDepth 100000
set_option maxHeartbeats 4000000
set_option linter.unusedVariables false
section
theorem tJ:(Rows.raceTiedRow.inPlace==Tryz.prog.inPlace 5)=true:=by kernel_rfl
theorem ui:(Rows.raceTiedRow.unfollowed==Tryz.prog.unfollowed 5)=true:=by kernel_rfl
theorem tP:(Rows.raceTiedRow.recurses==Tryz.prog.recurses 5)=true:=by kernel_rfl
theorem uu:(Rows.raceTiedRow.named==Tryz.prog.varsNamed 5)=true:=by kernel_rfl
theorem vl:joinedFacts Tryz.prog 5 Tryz.f5 Rows.raceTiedSpec Rows.raceTiedRow=true:=by
 unfold joinedFacts
 rw [tJ,ui,tP,uu,z3,show (Rows.raceTiedRow.lifted==Tryz.prog.liftsFinal)=true from zz,show (Tryz.prog.make==some Rows.raceTiedRow.make)=true from Bn]
 kernel_rfl
end
end Go.Proofs.YtdllkkdchkhimaaGreatDoor
