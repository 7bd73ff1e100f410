/-
  Rules that came late.
  No condition: the theorems hold over whatever program.
-/
import Derived.Test.YtaehngpnlkokkaaPure
import Derived.Test.YtaehngpnlkokkaaMap
namespace Go.Proofs.Ytaehngpnlkokkaa
open Go.RowKit
set_option linter.unusedVariables false
section
variable {E : Env} {ops : Array Oper} {Q : Post} {rest : List Oper} {D : List Deferred} {L : List (Nat × Value)} {C : List Assn}
variable {dst : Option Tmp} {d : Nat} {ty : TypeId} {ps : String} {af : Array Edge} {g : Option (Nat × Bool)}
/-- delete(m, x), nothing kept of it -/
theorem r_mapdel0 {t kt et : TypeId} {xm xk : Operand} {ts : Array TypeId} {b : Nat} {x : Int} {m m' : List (Int × Value)} {C' : List Assn} (i : Nat) (hg : gOn ops L g = true) (hm : ev L xm = some (.map (some b))) (hk : ev L xk = some (.int .i64 x)) (hts : ts[0]? = some t)
    (ht : E.P.underlying t = some (.map kt et)) (hkt : E.P.underlying kt = some (.int .i64)) (hC : C[i]? = some (mp b m)) (hm' : delK m x = m') (hC' : C.set i (mp b m') = C') (k : RJ E ops Q rest D L C') :
    RJ E ops Q (⟨none, .call { callee := .builtin .delete, args := #[xm, xk], argTypes := ts }, ty, ps, af, g⟩ :: rest) D L C := by
  subst hm' hC'
  intro a w hfr hs
  unfold wpL
  rw [if_pos (gOn_wanted hfr hg)]
  obtain ⟨es, c, he, hi⟩ := hs.holds _ (List.mem_of_getElem? hC)
  have hget : (getObj b).run E.P w = .ok (.map es c) w := MapKept.run_getObj_map he
  rcases run_find (P := E.P) (w := w) (x := x) hkt hi with ⟨h1, h2⟩ | ⟨j, v0, h1, h2, h3⟩
  · refine wp_value (v := .tuple #[]) (w' := { w with heap := w.heap.setIfInBounds b (.map es c) }) (by simp) ?_ ?_
    · simp [execOp, resolve, invoke, builtin, hfr.ev hm, hfr.ev hk, Builtin.delete_, hts, run_underlying ht, hget, run_check hkt, h1, MapKept.run_setObj_map _ he]
    · refine k _ _ ⟨hfr.defers, hfr.size, hfr.at_⟩ (hs.upd (b := b) i hC rfl rfl (keeps_set _) (fun _ h => h) ⟨_, _, heap_set he, ?_⟩)
      rw [delK_self h2]; exact hi
  · refine wp_value (v := .tuple #[]) (w' := { w with heap := w.heap.setIfInBounds b (.map (es.eraseIdxIfInBounds j) c) }) (by simp) ?_ ?_
    · simp [execOp, resolve, invoke, builtin, hfr.ev hm, hfr.ev hk, Builtin.delete_, hts, run_underlying ht, hget, run_check hkt, h1, MapKept.run_setObj_map _ he]
    · exact k _ _ ⟨hfr.defers, hfr.size, hfr.at_⟩ (hs.upd (b := b) i hC rfl rfl (keeps_set _) (fun _ h => h) ⟨_, _, heap_set he, hi.del h2⟩)
end
end Go.Proofs.Ytaehngpnlkokkaa
