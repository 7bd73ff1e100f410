/-
  Plain laws: the chapter's examples, reckoned.
-/
import Derived.Test.YtpbgdeojcefnmaaSafe
namespace Go.Proofs.Ytpbgdeojcefnmaa
set_option linter.unusedVariables false
set_option maxRecDepth 20000
def runL (w : Int) : List StretchV := [⟨3, ⟨4000, 4100⟩, ⟨400, 420⟩, ⟨0, 0⟩, 0, 0⟩, ⟨5, ⟨2000, 2200⟩, ⟨150, 160⟩, ⟨1500, 1600⟩, 1, w⟩, ⟨8, ⟨3000, 3000⟩, ⟨300, 330⟩, ⟨0, 0⟩, 0, 0⟩]
def bobS : SledV := ⟨1, ⟨200, 300⟩, ⟨1, 4⟩, ⟨100, 200⟩, ⟨300000, 400000⟩, ⟨-20, 30⟩⟩
theorem runL_len (w : Int) : (runL w).length ≤ 1000000 := by simp [runL]
theorem runL_side (w : Int) : ∀ x ∈ runL w, 0 ≤ x.Side ∧ x.Side ≤ 255 := by
  intro x hx
  simp only [runL, List.mem_cons, List.not_mem_nil, or_false] at hx
  rcases hx with rfl | rfl | rfl <;> simp
theorem bob_ok : SledOk bobS := by decide
theorem run_ok100 : trackOk (runL 100) = true := by decide
theorem run_ok90 : trackOk (runL 90) = true := by decide
theorem both100 : bothE bobS (runL 100) = 0 := bothE_ok run_ok100 bob_ok
theorem both90 : bothE bobS (runL 90) = 0 := bothE_ok run_ok90 bob_ok
theorem ex_spans : spansU bobS (runL 100) = [(SpanV.mk 200 300), (SpanV.mk 431 677), (SpanV.mk 487 814), (SpanV.mk 658 1108)] := by
  rw [spansU_ok run_ok100 bob_ok]; decide
theorem slow_at {h r : Int} (hh : 0 ≤ h) (h0 : 0 ≤ r) (h1 : 10 * r * r ≤ 1962 * h) (h2 : 1962 * h < 10 * (r + 1) * (r + 1)) : slowF h = r := slowF_eq hh ⟨h0, h1, h2⟩
theorem fast_at {h r : Int} (hh : 0 ≤ h) (h0 : 0 ≤ r) (h1 : 10 * r * r < 1962 * h) (h2 : 1962 * h < 10 * (r + 1) * (r + 1)) : fastF h = r + 1 := by
  have e := slow_at hh h0 (Int.le_of_lt h1) h2
  unfold fastF; rw [e, if_pos h1]
theorem ex_speed : speedV bobS (runL 100) 3 = (SpanV.mk 359 467) ∧ speedE bobS (runL 100) 3 = 0 := by
  have h := speed_in (i := 3) both100 (by decide)
  have e1 : headAt false bobS (runL 100) (3 : Int).toNat = 658 := by decide
  have e2 : headAt true bobS (runL 100) (3 : Int).toNat = 1108 := by decide
  rw [e1, e2, slow_at (r := 359) (by decide) (by decide) (by decide) (by decide), fast_at (r := 466) (by decide) (by decide) (by decide) (by decide)] at h
  exact h
theorem ex_height : heightV bobS (runL 100) 1 = (SpanV.mk 16 95) ∧ heightE bobS (runL 100) 1 = 0 := by
  have h := height_in (i := 1) both100 (by decide)
  have e1 : hgt false bobS (runL 100) (1 : Int).toNat = 16 := by decide
  have e2 : hgt true bobS (runL 100) (1 : Int).toNat = 95 := by decide
  rw [e1, e2] at h
  exact h
theorem ex_safe100 : safeV bobS (runL 100) = 2 := by rw [safeV_ok both100]; decide
theorem ex_safe90 : safeV bobS (runL 90) = 1 := by rw [safeV_ok both90]; decide
theorem stretch_all {ts : List StretchV} (h : trackOk ts = true) : ∀ x ∈ ts, StretchOk x := trackOk_all h
theorem ex_names : namesC bobS (runL 90) = 1 ∧ namesV bobS (runL 90) = 386 ∧ namesE bobS (runL 90) = 0 := by
  have hk : (thr true bobS (runL 90))[0]? = some 1 := by decide
  have h := names_some both90 hk (x := ⟨5, ⟨2000, 2200⟩, ⟨150, 160⟩, ⟨1500, 1600⟩, 1, 90⟩) (by rfl)
  have hx : StretchOk ⟨5, ⟨2000, 2200⟩, ⟨150, 160⟩, ⟨1500, 1600⟩, 1, 90⟩ := by decide
  have e1 : nameH bobS ⟨5, ⟨2000, 2200⟩, ⟨150, 160⟩, ⟨1500, 1600⟩, 1, 90⟩ = 763 :=
    firstN_eq (by decide) (by decide) (by decide) (fun y h0 h1 => nameP_upto hx (m := 762) (by decide) y h0 (by omega))
  rw [e1, slow_at (r := 386) (by decide) (by decide) (by decide) (by decide)] at h
  exact h
theorem ex_start : startV bobS (runL 100) = 373 ∧ startE bobS (runL 100) = 0 := by
  have hm := startP_mono bob_ok (trackOk_all run_ok100)
  have e : startN bobS (runL 100) = 374 := firstN_eq (by decide) (by decide) (by decide) (fun y h0 h1 => by
    cases hp : startP bobS (runL 100) y with
    | false => rfl
    | true =>
      have h2 := hm y 373 h0 (by omega) hp
      have h3 : startP bobS (runL 100) 373 = false := by decide
      rw [h3] at h2; cases h2)
  have h := start_some both100 (by rw [e]; decide)
  rw [e] at h
  exact h
theorem ex_safe10 : safeV bobS (runL 10) = 0 := by rw [safeV_ok (bothE_ok (by decide) bob_ok)]; decide
theorem both10 : bothE bobS (runL 10) = 0 := bothE_ok (by decide) bob_ok
theorem ex_walls : wallsU bobS (runL 100) = [0, 95, 0] := by rw [wallsU_ok run_ok100 bob_ok]; decide
theorem ex_least : leastV bobS (runL 100) 0 = 10959 ∧ leastE bobS (runL 100) 0 = 0 := by
  have e1 : inAt true bobS (runL 100) (0 : Int).toNat = 677 := by decide
  have e2 : fastF (inAt true bobS (runL 100) (0 : Int).toNat) = 365 := by rw [e1]; exact fast_at (r := 364) (by decide) (by decide) (by decide) (by decide)
  have h := least_in (i := 0) both100 (by decide) (by rw [e2]; decide) (x := ⟨3, ⟨4000, 4100⟩, ⟨400, 420⟩, ⟨0, 0⟩, 0, 0⟩) (by rfl)
  rw [e2] at h
  exact h
def oddS : SledV := { bobS with Class := 4 }
def stillS : SledV := { bobS with Start := ⟨0, 0⟩, Rub := ⟨100, 100⟩ }
theorem odd_no : ¬ SledOk oddS := by decide
theorem still_ok : SledOk stillS := by decide
theorem ex_odd : bothE oddS (runL 100) = 30 := bothE_sled run_ok100 odd_no
theorem ex_speed4 : speedE bobS (runL 100) 4 = 2 := (speed_out both100 (by decide)).2
theorem ex_height0 : heightE bobS (runL 100) 0 = 2 := (height_out both100 (by decide)).2
theorem ex_names6 : namesE bobS (runL 100) = 6 := (names_none both100 (by decide)).2.2
theorem ex_least6 : leastE stillS (runL 100) 1 = 6 := by
  have e1 : inAt true stillS (runL 100) (1 : Int).toNat = 0 := by decide
  exact (least_none (bothE_ok run_ok100 still_ok) (by decide) (by rw [e1]; exact (show fastF 0 = 0 by
    have e := slow_at (h := 0) (r := 0) (by decide) (by decide) (by decide) (by decide)
    unfold fastF; rw [e]; rfl))).2
theorem ex_empty : bothE oddS [] = 10 := bothE_bad (by decide)
theorem ex_shut : shutE (runL 90) [bobS, stillS] = 0 ∧ shutU (runL 90) [bobS, stillS] = [0] := by
  have h : shutE (runL 90) [bobS, stillS] = 0 := by decide
  exact ⟨h, by rw [shutU_ok h]; decide⟩
theorem ex_many (z : SledV) : shutE (runL 90) (List.replicate 7 z) = 4 := shutE_many run_ok90 (by simp)
theorem ex_start6 : startE bobS (runL 0) = 6 := (start_none (bothE_ok (by decide) bob_ok) (startN_zero.2 (by decide))).2
end Go.Proofs.Ytpbgdeojcefnmaa
