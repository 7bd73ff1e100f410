/-
 The statement topRepaired_said, part 2 of 9: ClTopRepaired.
 Conditions: none.
-/
import Derived.Test.YtgnlmfdknlbkkaaGreatDoorTz1
import Derived.Test.YtgnlmfdknlbkkaaGreatDoorRows
import Derived.Test.YtgnlmfdknlbkkaaGreatDoorProg
import Derived.JoinedOf
import Derived.KernelRfl
namespace Go.Proofs.YtgnlmfdknlbkkaaGreatDoor
set_option maxRecDepth 100000
set_option maxHeartbeats 4000000
set_option linter.unusedVariables false
section
theorem uL:(Rows.topRepairedRow.inPlace==Tryz.prog.inPlace 3)=true:=by kernel_rfl
theorem uM:(Rows.topRepairedRow.unfollowed==Tryz.prog.unfollowed 3)=true:=by kernel_rfl
theorem uO:(Rows.topRepairedRow.recurses==Tryz.prog.recurses 3)=true:=by kernel_rfl
theorem uK:(Rows.topRepairedRow.named==Tryz.prog.varsNamed 3)=true:=by kernel_rfl
theorem vu:joinedFacts Tryz.prog 3 Tryz.f3 Rows.topRepairedSpec Rows.topRepairedRow=true:=by
 unfold joinedFacts;rw [uL,uM,uO,uK,C5,show (Rows.topRepairedRow.lifted==Tryz.prog.liftsFinal)=true from DY,show (Tryz.prog.make==some Rows.topRepairedRow.make)=true from ED]
 kernel_rfl
end
end Go.Proofs.YtgnlmfdknlbkkaaGreatDoor
