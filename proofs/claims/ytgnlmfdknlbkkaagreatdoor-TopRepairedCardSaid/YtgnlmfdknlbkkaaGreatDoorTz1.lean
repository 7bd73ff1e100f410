/-
 The statement topRepaired_said, part 1 of 9: Closed.
 Conditions: none.
-/
import Derived.Test.YtgnlmfdknlbkkaaGreatDoorRows
import Derived.Test.YtgnlmfdknlbkkaaGreatDoorProg
import Derived.JoinedOf
import Derived.KernelRfl
namespace Go.Proofs.YtgnlmfdknlbkkaaGreatDoor
theorem U {α : Sort _} {a : α} : a = a := rfl
theorem sd {P : Prop} (h : P := by first | assumption | omega | (simp;done) | (simp;omega) | (dsimp only;omega)) : P := h
theorem I {P : Prop} (h : P := by first | omega | (dsimp only;omega)) : P := h
theorem sm {P : Prop} (h : P := by simp) : P := h
theorem dc {P : Prop} (h : P := by decide) : P := h
theorem kr {P : Prop} (h : P := by kernel_rfl) : P := h
theorem os {P : Prop} (h : P := by first | omega | (simp;omega) | (dsimp only;omega)) : P := h
theorem sq {P : Prop} (h : P := by first | (simp;done) | (simp;omega)) : P := h
theorem asm {P : Prop} (h : P := by assumption) : P := h
theorem dso {P : Prop} (h : P := by dsimp only;omega) : P := h
set_option maxRecDepth 100000
set_option maxHeartbeats 4000000
set_option linter.unusedVariables false
section
theorem C5:(Tryz.prog.mayEnter)=true:=by kernel_rfl
theorem DY:((Rows.topRepairedRow.lifted==Tryz.prog.liftsFinal))=true:=by kernel_rfl
theorem ED:((Tryz.prog.make==some Rows.topRepairedRow.make))=true:=by kernel_rfl
end
end Go.Proofs.YtgnlmfdknlbkkaaGreatDoor
