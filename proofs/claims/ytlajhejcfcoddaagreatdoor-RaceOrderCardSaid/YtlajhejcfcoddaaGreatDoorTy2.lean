/-
 The statement raceOrder_said, part 2 of 8: ClRaceOrder.
 Conditions: none.
-/
import Derived.Test.YtlajhejcfcoddaaGreatDoorTy1
import Derived.Test.YtlajhejcfcoddaaGreatDoorRows
import Derived.Test.YtlajhejcfcoddaaGreatDoorProg
import Derived.JoinedOf
import Derived.KernelRfl
namespace Go.Proofs.YtlajhejcfcoddaaGreatDoor
set_option maxRecDepth 100000
set_option maxHeartbeats 4000000
set_option linter.unusedVariables false
section
theorem tR:(Rows.raceOrderRow.inPlace==Tryz.prog.inPlace 3)=true:=by kernel_rfl
theorem tI:(Rows.raceOrderRow.unfollowed==Tryz.prog.unfollowed 3)=true:=by kernel_rfl
theorem t_:(Rows.raceOrderRow.recurses==Tryz.prog.recurses 3)=true:=by kernel_rfl
theorem tU:(Rows.raceOrderRow.named==Tryz.prog.varsNamed 3)=true:=by kernel_rfl
theorem uO:joinedFacts Tryz.prog 3 Tryz.f3 Rows.raceOrderSpec Rows.raceOrderRow=true:=by
 unfold joinedFacts
 rw [tR,tI,t_,tU,AJ,show (Rows.raceOrderRow.lifted==Tryz.prog.liftsFinal)=true from AE,show (Tryz.prog.make==some Rows.raceOrderRow.make)=true from Cg]
 kernel_rfl
end
end Go.Proofs.YtlajhejcfcoddaaGreatDoor
