/- Package cubitlaw20: awake; law PluralEnglish. -/
import Derived.Test.YtdgleeglndcjhaaGreatDoorLp
namespace Go.Proofs.YtdgleeglndcjhaaGreatDoor
open Go.RowKit
set_option linter.unusedVariables false
set_option linter.unusedSimpArgs false

theorem sel_en (k s : Nat) : selectP enM wEn (ofVal k s) = if k = 1 ∧ s = 0 then wOne else wOther := by
  have h : holdsV (ofVal k s) exRule = (decide (k / 10 ^ s = 1) && decide (s = 0)) := holds_exOne _ (by rfl) (by rfl)
  unfold selectP
  rw [en_en]
  by_cases hs : s = 0
  · subst hs
    rw [Nat.pow_zero, Nat.div_one] at h
    by_cases hk : k = 1
    · subst hk; rw [if_pos ⟨rfl, rfl⟩]; simp at h; simp [List.find?, h]
    · rw [if_neg (by omega)]; simp [List.find?, h, hk]
  · rw [if_neg (by omega)]; simp [List.find?, h, hs]
theorem sel_en1 : selectP enM wEn (ofVal (parseD [49]).2.2.1 (parseD [49]).2.2.2) = [111, 110, 101] := by rw [parseD_1]; exact sel_en 1 0
theorem parseD_2 : parseD [50] = (0, false, 2, 0) := by decide +kernel
theorem sel_en2 : selectP enM wEn (ofVal (parseD [50]).2.2.1 (parseD [50]).2.2.2) = [111, 116, 104, 101, 114] := by rw [parseD_2]; exact sel_en 2 0
theorem wEn_le : wEn.length ≤ maxLen := by decide
/-- The english table, loaded. -/
theorem load_en (w : World) (hG : GW w) : Calls Tryz.prog 29 #[.string ⟨enB.toArray⟩] w fun e w' => ∃ gp, e = .returned (.tuple #[.pointer (some ⟨gp, 0, none⟩), .int .i64 0, .int .i64 0]) ∧ PlW w' gp enM ∧ Below w.heap.size w w' := by
  refine (law_load w enB hG good_enB).mono ?_
  rintro e w' ⟨h, hb⟩
  rcases h with ⟨h, -⟩ | ⟨-, gp, he, hP, -⟩
  · exact absurd en_code h
  · exact ⟨gp, he, hP, hb⟩

set_option maxRecDepth 100000 in
set_option maxHeartbeats 4000000 in
theorem law_awake20 (w : World) (hG : GW w) : Calls Tryz.prog 28 #[] w fun e w' => e = .returned (.bool true) ∧ Below w.heap.size w w' := by
  have HG := Lib.hid hG
  clear hG
  go_enter Tryz.func28, Tryz.ntmps28
  go_wp2_with fail
  refine (law_english w).mono ?_
  rintro e w1 ⟨rfl, hb1⟩
  have HB1 := Lib.hid hb1
  clear hb1
  dsimp only
  go_wp2_with fail
  refine (load_en w1 (HG.out.below HB1.out (Nat.le_refl _))).mono ?_
  rintro e w2 ⟨gp, rfl, hP, hb2⟩
  have HB2 := Lib.hid (HB1.out.trans (hb2.mono HB1.out.size))
  have HP := Lib.hid hP
  clear hP hb2
  dsimp only
  go_wp2_with fail
  refine (law_of w2 gp enM wEn [49] (HG.out.below HB2.out (Nat.le_refl _)) HP.out (goodM_all _) wEn_le).mono ?_
  rw [sel_en1]
  rintro e w3 ⟨rfl, hb3⟩
  have HB3 := Lib.hid (HB2.out.trans (hb3.mono HB2.out.size))
  have HP3 := Lib.hid (HP.out.below hb3)
  clear hb3
  dsimp only
  go_wp2_with fail
  refine (law_of w3 gp enM wEn [50] (HG.out.below HB3.out (Nat.le_refl _)) HP3.out (goodM_all _) wEn_le).mono ?_
  rw [sel_en2]
  rintro e w4 ⟨rfl, hb4⟩
  have HB4 := Lib.hid (HB3.out.trans (hb4.mono HB3.out.size))
  clear hb4
  dsimp only
  go_wp2_with fail
  go_ret
  exact ⟨rfl, HB4.out⟩

set_option maxRecDepth 100000 in
set_option maxHeartbeats 4000000 in
theorem law_PluralEnglish (w : World) (n : Nat) (z : Int) (hn : n < 18446744073709551616) (hG : GW w) : Calls Tryz.prog 9 #[.int .u64 n, .int .i64 z] w fun e w' => e = .returned (.bool true) ∧ Below w.heap.size w w' := by
  have HG := Lib.hid hG
  clear hG
  go_enter Tryz.func9, Tryz.ntmps9
  go_wp2_with fail
  refine (law_awake20 w HG.out).mono ?_
  rintro e w1 ⟨rfl, hb1⟩
  have HB1 := Lib.hid hb1
  clear hb1
  dsimp only
  by_cases hz0 : z < 0
  · go_wp2_with fail
    go_ret
    exact ⟨rfl, HB1.out⟩
  by_cases hz1 : 20 < z
  · go_wp2_with fail
    go_ret
    exact ⟨rfl, HB1.out⟩
  obtain ⟨s, rfl⟩ : ∃ s : Nat, z = (s : Int) := ⟨z.toNat, by omega⟩
  have hs : s ≤ 20 := by omega
  go_wp2_with fail
  refine (law_english w1).mono ?_
  rintro e w2 ⟨rfl, hb2⟩
  have HB2 := Lib.hid (HB1.out.trans (hb2.mono HB1.out.size))
  clear hb2
  dsimp only
  go_wp2_with fail
  refine (load_en w2 (HG.out.below HB2.out (Nat.le_refl _))).mono ?_
  rintro e w3 ⟨gp, rfl, hP, hb3⟩
  have HB3 := Lib.hid (HB2.out.trans (hb3.mono HB2.out.size))
  have HP := Lib.hid hP
  clear hP hb3
  dsimp only
  by_cases h1 : n = 1
  · by_cases h0 : s = 0
    · have HNN := Lib.hid h1
      have HSS := Lib.hid h0
      have h1I : ((n : Int) == 1) = true := by rw [beq_iff_eq]; omega
      have h0I : ((s : Int) == 0) = true := by rw [beq_iff_eq]; omega
      clear h1 h0
      have HSEL : Hid (selectP enM wEn (ofVal n s) = [111, 110, 101]) := by have := sel_en n s; rw [if_pos ⟨HNN.out, HSS.out⟩] at this; exact Lib.hid this
      go_wp2_with fail
      refine (natOf w3 n (by omega)).mono ?_
      rintro e w4 ⟨⟨A, k, c, rfl, hx4⟩, hb4⟩
      have HB4 := Lib.hid (HB3.out.trans (hb4.mono HB3.out.size))
      have X4 := Lib.hid hx4
      have HP4 := Lib.hid (HP.out.below hb4)
      clear hx4 hb4
      dsimp only
      go_wp2_with fail
      refine (plural_SelectS w4 gp enM wEn false A k c n s 200 (HG.out.below HB4.out (Nat.le_refl _)) HP4.out (goodM_all _) wEn_le X4.out (by omega) (fun h => by cases h) (by omega) (by omega) (by omega)).mono ?_
      rw [HSEL.out]
      rintro e w5 ⟨rfl, hb5⟩
      have HB5 := Lib.hid (HB4.out.trans (hb5.mono HB4.out.size))
      clear hb5
      dsimp only
      go_wp2_with fail
      go_ret
      exact ⟨rfl, HB5.out⟩
    · have HSS := Lib.hid h0
      have h1I : ((n : Int) == 1) = true := by rw [beq_iff_eq]; omega
      have h0I : ((s : Int) == 0) = false := by rw [beq_eq_false_iff_ne]; omega
      have h0J : ¬ (s : Int) = 0 := by omega
      clear h1 h0
      have HSEL : Hid (selectP enM wEn (ofVal n s) = [111, 116, 104, 101, 114]) := by have := sel_en n s; rw [if_neg (fun h => HSS.out h.2)] at this; exact Lib.hid this
      go_wp2_with fail
      refine (natOf w3 n (by omega)).mono ?_
      rintro e w4 ⟨⟨A, k, c, rfl, hx4⟩, hb4⟩
      have HB4 := Lib.hid (HB3.out.trans (hb4.mono HB3.out.size))
      have X4 := Lib.hid hx4
      have HP4 := Lib.hid (HP.out.below hb4)
      clear hx4 hb4
      dsimp only
      go_wp2_with fail
      refine (plural_SelectS w4 gp enM wEn false A k c n s 200 (HG.out.below HB4.out (Nat.le_refl _)) HP4.out (goodM_all _) wEn_le X4.out (by omega) (fun h => by cases h) (by omega) (by omega) (by omega)).mono ?_
      rw [HSEL.out]
      rintro e w5 ⟨rfl, hb5⟩
      have HB5 := Lib.hid (HB4.out.trans (hb5.mono HB4.out.size))
      clear hb5
      dsimp only
      go_wp2_with fail
      go_ret
      exact ⟨rfl, HB5.out⟩
  · have HNN := Lib.hid h1
    have h1I : ((n : Int) == 1) = false := by rw [beq_eq_false_iff_ne]; omega
    have h1J : ¬ (n : Int) = 1 := by omega
    clear h1
    have HSEL : Hid (selectP enM wEn (ofVal n s) = [111, 116, 104, 101, 114]) := by have := sel_en n s; rw [if_neg (fun h => HNN.out h.1)] at this; exact Lib.hid this
    go_wp2_with fail
    refine (natOf w3 n (by omega)).mono ?_
    rintro e w4 ⟨⟨A, k, c, rfl, hx4⟩, hb4⟩
    have HB4 := Lib.hid (HB3.out.trans (hb4.mono HB3.out.size))
    have X4 := Lib.hid hx4
    have HP4 := Lib.hid (HP.out.below hb4)
    clear hx4 hb4
    dsimp only
    go_wp2_with fail
    refine (plural_SelectS w4 gp enM wEn false A k c n s 200 (HG.out.below HB4.out (Nat.le_refl _)) HP4.out (goodM_all _) wEn_le X4.out (by omega) (fun h => by cases h) (by omega) (by omega) (by omega)).mono ?_
    rw [HSEL.out]
    rintro e w5 ⟨rfl, hb5⟩
    have HB5 := Lib.hid (HB4.out.trans (hb5.mono HB4.out.size))
    clear hb5
    dsimp only
    go_wp2_with fail
    go_ret
    exact ⟨rfl, HB5.out⟩
end Go.Proofs.YtdgleeglndcjhaaGreatDoor
