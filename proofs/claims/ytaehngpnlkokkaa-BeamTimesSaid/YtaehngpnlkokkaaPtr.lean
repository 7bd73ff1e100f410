/-
  Pointers to an element of a row that grows; checks for nil.
-/
import Derived.Test.YtaehngpnlkokkaaFm
namespace Go.Proofs.Ytaehngpnlkokkaa
set_option linter.unusedVariables false
theorem w_own_some {E : Env} {code : Code} {Q : Post} {D : List Deferred} {L : List (Nat × Value)} {C : List Assn} {a : Option Addr} {c t sz : Nat} {es : List (List Value)} (i : Nat) (hi : C[i]? = some (own a c t sz es)) (hn : 0 < es.length * sz)
    (h : ∀ ad, a = some ad → WJ E code Q D L C) : WJ E code Q D L C := fun act w hf hs => by
  obtain ⟨ad, hA, _⟩ := (hs.has (has_own i hi)).2.2 hn
  exact h ad hA act w hf hs
section
variable {E : Env} {ops : Array Oper} {D : List Deferred} {L : List (Nat × Value)} {C : List Assn} {dst : Option Tmp} {ty : TypeId} {ps : String} {af : Array Edge} {g : Option (Nat × Bool)}
theorem sd_fa_pd {x : Operand} {A : Option Addr} {ad : Addr} {k0 s f k k' : Nat} (hg : gOn ops L g = true) (hx : ev L x = some (.pointer (padd A k0))) (hA : A = some ad)
    (hf : fOff E.P s f = some k) (ho : k0 + k = k') : SD E ops ⟨dst, .fieldAddr s x f, ty, ps, af, g⟩ D L C (.pointer (padd A k')) :=
  sd_pure hg (by simp) fun a w hfr hs => by
    subst hA
    simp [execOp, hfr.ev hx, padd, run_fieldAt hf, add_add, ho]
theorem sd_nil_pd {x : Operand} {A : Option Addr} {ad : Addr} {k0 : Nat} (hg : gOn ops L g = true) (hx : ev L x = some (.pointer (padd A k0))) (hA : A = some ad) :
    SD E ops ⟨dst, .nilCheck x, ty, ps, af, g⟩ D L C (.pointer (padd A k0)) :=
  sd_pure hg (by simp) fun a w hfr hs => by
    subst hA
    simp [execOp, hfr.ev hx, padd]
theorem sd_nil_p {x : Operand} {ad : Addr} (hg : gOn ops L g = true) (hx : ev L x = some (.pointer (some ad))) :
    SD E ops ⟨dst, .nilCheck x, ty, ps, af, g⟩ D L C (.pointer (some ad)) :=
  sd_pure hg (by simp) fun a w hfr hs => by simp [execOp, hfr.ev hx]
end
end Go.Proofs.Ytaehngpnlkokkaa
