/-
 The statement juryHit_said, part 2 of 8: ClJuryHit.
 Conditions: none.
-/
import Derived.Test.YtijpnoadncadoaaGreatDoorTx1
import Derived.Test.YtijpnoadncadoaaGreatDoorRows
import Derived.Test.YtijpnoadncadoaaGreatDoorProg
import Derived.JoinedOf
import Derived.KernelRfl
namespace Go.Proofs.YtijpnoadncadoaaGreatDoor
set_option maxRecDepth 100000
set_option maxHeartbeats 4000000
set_option linter.unusedVariables false
section
theorem wy:(Rows.juryHitRow.inPlace==Tryz.prog.inPlace 7)=true:=by kernel_rfl
theorem wj:(Rows.juryHitRow.unfollowed==Tryz.prog.unfollowed 7)=true:=by kernel_rfl
theorem wm:(Rows.juryHitRow.recurses==Tryz.prog.recurses 7)=true:=by kernel_rfl
theorem wu:(Rows.juryHitRow.named==Tryz.prog.varsNamed 7)=true:=by kernel_rfl
theorem xp:joinedFacts Tryz.prog 7 Tryz.f7 Rows.juryHitSpec Rows.juryHitRow=true:=by
 unfold joinedFacts
 rw [wy,wj,wm,wu,zP,show (Rows.juryHitRow.lifted==Tryz.prog.liftsFinal)=true from z6,show (Tryz.prog.make==some Rows.juryHitRow.make)=true from BG]
 kernel_rfl
end
end Go.Proofs.YtijpnoadncadoaaGreatDoor
