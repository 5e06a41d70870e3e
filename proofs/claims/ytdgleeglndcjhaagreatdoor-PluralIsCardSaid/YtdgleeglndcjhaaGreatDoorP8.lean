/- Package law: awake. -/
import Derived.Test.YtdgleeglndcjhaaGreatDoorP7
namespace Go.Proofs.YtdgleeglndcjhaaGreatDoor
open Go.RowKit
set_option linter.unusedVariables false
set_option linter.unusedSimpArgs false

theorem parseD_1 : parseD [49] = (0, false, 1, 0) := by decide +kernel
theorem parseD_10 : parseD [49, 46, 48] = (0, false, 10, 1) := by decide +kernel
theorem holds_ex1 : holdsP exOne [49] = true := by
  unfold holdsP
  rw [parse_exOne, parseD_1, holds_exOne (i := 1) (v := 0) _ (by decide +kernel) (by decide +kernel)]
  decide
theorem holds_ex10 : holdsP exOne [49, 46, 48] = false := by
  unfold holdsP
  rw [parse_exOne, parseD_10, holds_exOne (i := 1) (v := 1) _ (by decide +kernel) (by decide +kernel)]
  decide
set_option maxRecDepth 100000 in
set_option maxHeartbeats 16000000 in
theorem law_awake (w : World) (hG : GW w) :
    Calls Tryz.prog 13 #[] w fun e w' => e = .returned (.bool true) ∧ Below w.heap.size w w' := by
  have HG := Lib.hid hG
  clear hG
  go_enter Tryz.func13, Tryz.ntmps13
  go_wp2_with fail
  refine (law_holds w exOne [49] HG.out).mono ?_
  rw [holds_ex1]
  rintro e w2 ⟨rfl, hb2⟩
  have HB2 := Lib.hid hb2
  clear hb2
  dsimp only
  go_wp2_with fail
  refine (law_holds w2 exOne [49, 46, 48] (HG.out.below HB2.out (Nat.le_refl _))).mono ?_
  rw [holds_ex10]
  rintro e w3 ⟨rfl, hb3⟩
  have HB3 := Lib.hid (HB2.out.trans (hb3.mono HB2.out.size))
  clear hb3
  dsimp only
  go_wp2_with fail
  go_ret
  exact ⟨rfl, HB3.out⟩
end Go.Proofs.YtdgleeglndcjhaaGreatDoor
