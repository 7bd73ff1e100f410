/-
 The statement juryTrue_said, part 2 of 8: ClJuryTrue.
 Conditions: none.
-/
import Derived.Test.YtfhghdbminmhnaaGreatDoorTy1
import Derived.Test.YtfhghdbminmhnaaGreatDoorRows
import Derived.Test.YtfhghdbminmhnaaGreatDoorProg
import Derived.JoinedOf
import Derived.KernelRfl
namespace Go.Proofs.YtfhghdbminmhnaaGreatDoor
set_option maxRecDepth 100000
set_option maxHeartbeats 4000000
set_option linter.unusedVariables false
section
theorem vv:(Rows.juryTrueRow.inPlace==Tryz.prog.inPlace 3)=true:=by kernel_rfl
theorem vo:(Rows.juryTrueRow.unfollowed==Tryz.prog.unfollowed 3)=true:=by kernel_rfl
theorem vr:(Rows.juryTrueRow.recurses==Tryz.prog.recurses 3)=true:=by kernel_rfl
theorem vO:(Rows.juryTrueRow.named==Tryz.prog.varsNamed 3)=true:=by kernel_rfl
theorem wP:joinedFacts Tryz.prog 3 Tryz.f3 Rows.juryTrueSpec Rows.juryTrueRow=true:=by
 unfold joinedFacts
 rw [vv,vo,vr,vO,Ax,show (Rows.juryTrueRow.lifted==Tryz.prog.liftsFinal)=true from AP,show (Tryz.prog.make==some Rows.juryTrueRow.make)=true from CZ]
 kernel_rfl
end
end Go.Proofs.YtfhghdbminmhnaaGreatDoor
