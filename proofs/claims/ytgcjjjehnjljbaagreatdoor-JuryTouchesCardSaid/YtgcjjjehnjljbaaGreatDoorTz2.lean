/-
 The statement juryTouches_said, part 2 of 8: ClJuryTouches.
 Conditions: none.
-/
import Derived.Test.YtgcjjjehnjljbaaGreatDoorTz1
import Derived.Test.YtgcjjjehnjljbaaGreatDoorRows
import Derived.Test.YtgcjjjehnjljbaaGreatDoorProg
import Derived.JoinedOf
import Derived.KernelRfl
namespace Go.Proofs.YtgcjjjehnjljbaaGreatDoor
set_option maxRecDepth 100000
set_option maxHeartbeats 4000000
set_option linter.unusedVariables false
section
theorem rO:(Rows.juryTouchesRow.inPlace==Tryz.prog.inPlace 3)=true:=by kernel_rfl
theorem rN:(Rows.juryTouchesRow.unfollowed==Tryz.prog.unfollowed 3)=true:=by kernel_rfl
theorem rT:(Rows.juryTouchesRow.recurses==Tryz.prog.recurses 3)=true:=by kernel_rfl
theorem rU:(Rows.juryTouchesRow.named==Tryz.prog.varsNamed 3)=true:=by kernel_rfl
theorem sb:joinedFacts Tryz.prog 3 Tryz.f3 Rows.juryTouchesSpec Rows.juryTouchesRow=true:=by
 unfold joinedFacts
 rw [rO,rN,rT,rU,zy,show (Rows.juryTouchesRow.lifted==Tryz.prog.liftsFinal)=true from zB,show (Tryz.prog.make==some Rows.juryTouchesRow.make)=true from Av]
 kernel_rfl
end
end Go.Proofs.YtgcjjjehnjljbaaGreatDoor
