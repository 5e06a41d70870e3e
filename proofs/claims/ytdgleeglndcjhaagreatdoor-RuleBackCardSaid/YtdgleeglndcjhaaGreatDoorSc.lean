/- Law: RuleBack. -/
import Derived.Test.YtdgleeglndcjhaaGreatDoorP8
import Derived.Test.YtdgleeglndcjhaaGreatDoorSa
import Derived.Test.YtdgleeglndcjhaaGreatDoorSb
namespace Go.Proofs.YtdgleeglndcjhaaGreatDoor
open Go.RowKit
set_option linter.unusedVariables false
set_option linter.unusedSimpArgs false

set_option maxRecDepth 100000 in
set_option maxHeartbeats 32000000 in
theorem law_RuleBack (w : World) (s : ByteArray) (hG : GW w) :
    Calls Tryz.prog 8 #[.string s] w fun e w' => e = .returned (.bool true) ∧ Below w.heap.size w w' := by
  have HG := Lib.hid hG
  obtain ⟨p, rfl⟩ : ∃ p : Bs, s = ⟨p.toArray⟩ := ⟨s.data.toList, by cases s; simp⟩
  clear hG
  go_enter Tryz.func8, Tryz.ntmps8
  go_wp2_with fail
  refine (law_awake w HG.out).mono ?_
  rintro e w2 ⟨rfl, hb2⟩
  have HB2 := Lib.hid hb2
  clear hb2
  dsimp only
  by_cases hp : 256 < p.length
  · have hI : (256 : Int) < (p.length : Int) := by omega
    go_wp2_with fail
    go_ret
    exact ⟨rfl, HB2.out⟩
  have hI : ¬ (256 : Int) < (p.length : Int) := by omega
  have hI2 : (p.length : Int) ≤ 256 := by omega
  go_wp2_with fail
  refine (rule_Parse w2 ⟨p.toArray⟩ (HG.out.below HB2.out (Nat.le_refl _))).mono ?_
  rw [show (⟨p.toArray⟩ : ByteArray).data.toList = p from rfl]
  unfold ParsePost
  rcases parseR_cases p with ⟨r, h1, h2⟩ | ⟨e, h1, h2⟩
  case inr =>
    rw [h1]
    clear h1
    rintro e w3 ⟨A3, n3, c3, rfl, hr, hb3⟩
    have HB3 := Lib.hid (HB2.out.trans (hb3.mono HB2.out.size))
    clear hr hb3
    dsimp only
    rcases h2 with rfl | rfl
    · go_wp2_with fail
      go_ret
      exact ⟨rfl, HB3.out.alloc HB3.out.size _⟩
    · go_wp2_with fail
      go_ret
      exact ⟨rfl, HB3.out.alloc HB3.out.size _⟩
  rw [h1]
  have HGD := Lib.hid (parse_back h1).1
  have HLE : Hid ((writeR r).length ≤ p.length) := (parse_back h1).2
  have HSm := Lib.hid h2
  have HPB : Hid (parseR (writeR r) = (0, r)) := by have := (parse_back h1).1; unfold goodR at this; exact Lib.hid (of_decide_eq_true this)
  clear h1 h2
  rintro e w3 ⟨RA, rn, rc, rfl, hr, hb3⟩
  obtain ⟨g3, hg3⟩ : ∃ g3, w3.heap.size = g3 := ⟨_, rfl⟩
  have hal : Below w3.heap.size w3 (w3.alloc (.cells #[.slice RA rn rc] 30)) := (Below.refl _ _).alloc (Nat.le_refl _) _
  have HBX := Lib.hid (HB2.out.trans ((hb3.trans (hal.mono hb3.size)).mono HB2.out.size))
  have HRX := Lib.hid (RuleIs.below hr.is hal (Nat.le_refl _))
  have hbk : Blk (w3.alloc (.cells #[.slice RA rn rc] 30)) g3 30 [.slice RA rn rc] := by rw [← hg3]; exact Blk.made _ 30 _ _ _ rfl rfl
  have HK := Lib.hid hbk
  clear hal hr hb3 hbk
  dsimp only
  go_upto_region 6 with fail
  try rw [hg3]
  refine wp_letter (fun w4 => Blk w4 g3 30 [.slice RA rn rc] ∧ RuleIs w4 RA rn rc r ∧ Below w.heap.size w w4) ⟨HK.out, HRX.out, HBX.out⟩ ?_
  clear HK HRX HBX hg3 HB2
  rintro w4 ⟨z1, z2, z3⟩
  have B4 := Lib.hid z1
  have R4 := Lib.hid z2
  have HB4 := Lib.hid z3
  have k0 := z1.cell 0
  simp only [List.getElem?_cons_zero] at k0
  clear z1 z2 z3
  go_wp2_with fail
  refine (rule_Show w4 RA rn rc r (HG.out.below HB4.out (Nat.le_refl _)) R4.out HSm.out).mono ?_
  rw [HGD.out]
  rintro e w5 ⟨rfl, hb5⟩
  have B5 := Lib.hid (B4.out.below hb5 B4.out.lt)
  have R5 := Lib.hid (R4.out.below hb5 (Nat.le_refl _))
  have HB5 := Lib.hid (HB4.out.trans (hb5.mono HB4.out.size))
  clear hb5 B4 R4 HB4 k0
  dsimp only
  simp only [if_true]
  go_wp2_with fail
  refine (rule_Parse w5 ⟨(writeR r).toArray⟩ (HG.out.below HB5.out (Nat.le_refl _))).mono ?_
  rw [show (⟨(writeR r).toArray⟩ : ByteArray).data.toList = writeR r from rfl]
  unfold ParsePost
  rw [HPB.out]
  rintro e w6 ⟨XA, xn, xc, rfl, hr, hb6⟩
  obtain ⟨g5, hg5⟩ : ∃ g5, w6.heap.size = g5 := ⟨_, rfl⟩
  have hal : Below w6.heap.size w6 (w6.alloc (.cells #[.slice XA xn xc] 30)) := (Below.refl _ _).alloc (Nat.le_refl _) _
  have hbb := hb6.trans (hal.mono hb6.size)
  have HBX := Lib.hid (HB5.out.trans (hbb.mono HB5.out.size))
  have HRX := Lib.hid (RuleIs.below hr.is hal (Nat.le_refl _))
  have hbk : Blk (w6.alloc (.cells #[.slice XA xn xc] 30)) g5 30 [.slice XA xn xc] := by rw [← hg5]; exact Blk.made _ 30 _ _ _ rfl rfl
  have HK := Lib.hid hbk
  have HK5 := Lib.hid (B5.out.below hbb B5.out.lt)
  have HR5 := Lib.hid (R5.out.below hbb (Nat.le_refl _))
  clear hal hr hb6 hbk hbb B5 R5 HB5
  dsimp only
  go_upto_region 9 with fail
  try rw [hg5]
  refine wp_letter (fun w7 => Blk w7 g3 30 [.slice RA rn rc] ∧ RuleIs w7 RA rn rc r ∧ Blk w7 g5 30 [.slice XA xn xc] ∧ RuleIs w7 XA xn xc r ∧ Below w.heap.size w w7) ⟨HK5.out, HR5.out, HK.out, HRX.out, HBX.out⟩ ?_
  clear HK5 HR5 HK HRX HBX hg5
  rintro w7 ⟨z1, z2, z3, z4, z5⟩
  have B7 := Lib.hid z1
  have R7 := Lib.hid z2
  have C7 := Lib.hid z3
  have X7 := Lib.hid z4
  have HB7 := Lib.hid z5
  have HGW := Lib.hid (HG.out.below z5 (Nat.le_refl _))
  have HW : Hid (∀ w', Below w7.heap.size w7 w' → w'.cell? ⟨g3, 0, none⟩ = some (.slice RA rn rc) ∧ w'.cell? ⟨g5, 0, none⟩ = some (.slice XA xn xc)) := fun w' h => ⟨(B7.out.below h B7.out.lt).cell 0, (C7.out.below h C7.out.lt).cell 0⟩
  have HWR : Hid (((writeR r).length : Int) ≤ (p.length : Int)) := by have := HLE.out; exact Lib.hid (by omega)
  have hwr := HWR.out
  clear z1 z2 z3 z4 z5
  refine wp_region_but (fun w' => Below w7.heap.size w7 w') (by kernel_rfl) (by kernel_rfl) (Below.refl _ _).drew (fun hHeld => ?_)
  simp only [initL, lastL]
  have HB0 := Lib.hid hHeld
  refine takeL (i := 0) (v := ?v21) rfl (by kernel_rfl) (by kernel_rfl) (by kernel_rfl) (fun _ _ _ h => h) (Or.inl ⟨by rfl, ?hy21⟩) (by assumption) ?rest21
  case hy21 => (intro wz hSz; (have hfz := HW.out wz hSz); go_split_ands; (first | (go_simp; done) | (go_simp; with_reducible rfl)))
  try simp only [Act.put, List.setIfInBounds_toArray, List.set_cons_zero, List.set_cons_succ]
  refine takeL (i := 1) (v := ?v22) rfl (by kernel_rfl) (by kernel_rfl) (by kernel_rfl) (fun _ _ _ h => h) (Or.inl ⟨by rfl, ?hy22⟩) (by assumption) ?rest22
  case hy22 => (intro wz hSz; (have hfz := HW.out wz hSz); go_split_ands; (first | (go_simp; done) | (go_simp; with_reducible rfl)))
  try simp only [Act.put, List.setIfInBounds_toArray, List.set_cons_zero, List.set_cons_succ]
  refine takeL (i := 2) (v := ?v23) rfl (by kernel_rfl) (by kernel_rfl) (by kernel_rfl) (fun _ _ _ h => h) (Or.inl ⟨by rfl, ?hy23⟩) (by assumption) ?rest23
  case hy23 => (intro wz hSz; (have hfz := HW.out wz hSz); go_split_ands; (first | (go_simp; done) | (go_simp; with_reducible rfl)))
  try simp only [Act.put, List.setIfInBounds_toArray, List.set_cons_zero, List.set_cons_succ]
  refine takeL (i := 3) (v := ?v24) rfl (by kernel_rfl) (by kernel_rfl) (by kernel_rfl) (fun _ _ _ h => h) (Or.inl ⟨by rfl, ?hy24⟩) (by assumption) ?rest24
  case hy24 => (intro wz hSz; (have hfz := HW.out wz hSz); go_split_ands; (first | (go_simp; done) | (go_simp; with_reducible rfl)))
  try simp only [Act.put, List.setIfInBounds_toArray, List.set_cons_zero, List.set_cons_succ]
  refine takeL (i := 5) (v := ?v25) rfl (by kernel_rfl) (by kernel_rfl) (by kernel_rfl) (fun _ _ _ h => h) (Or.inl ⟨by rfl, ?hy25⟩) (by assumption) ?rest25
  case hy25 => (intro wz hSz; (have hfz := HW.out wz hSz); go_split_ands; (first | (go_simp; done) | (go_simp; with_reducible rfl)))
  try simp only [Act.put, List.setIfInBounds_toArray, List.set_cons_zero, List.set_cons_succ]
  refine wpAnyH_ready (rs := [4]) (by kernel_rfl) (by simp) ?_
  refine consL rfl (fun K hK => ?_) AllReadyH.nil
  go_simp
  refine (rule_Of _ XA xn xc r (X7.out.below HB0.out (Nat.le_refl _)) HSm.out).mono ?_
  rintro e w26c ⟨A26, n26, c26, rfl, hr, hb⟩
  have HB26 := Lib.hid (below_on HB0.out (Nat.le_refl _) hb)
  have R26r := Lib.hid hr
  clear hb hr
  dsimp only
  try clear hHeld
  refine hK.out _ _ (HB26.out) (fun hHeld => ?_)
  clear hK K
  try simp only [Act.put, List.setIfInBounds_toArray, List.set_cons_zero, List.set_cons_succ]
  refine wpAnyH_ready (rs := [6]) (by kernel_rfl) (by simp) ?_
  refine consL rfl (fun K hK => ?_) AllReadyH.nil
  go_simp
  refine (rule_Of _ RA rn rc r (R7.out.below HB26.out (Nat.le_refl _)) HSm.out).mono ?_
  rintro e w27c ⟨A27, n27, c27, rfl, hr, hb⟩
  have HB27 := Lib.hid (below_on HB26.out (Nat.le_refl _) hb)
  have R26rq27 := Lib.hid (R26r.out.below hb (Nat.le_refl _))
  have R27r := Lib.hid hr
  clear hb hr
  dsimp only
  try clear hHeld
  refine hK.out _ _ (HB27.out) (fun hHeld => ?_)
  clear hK K
  try simp only [Act.put, List.setIfInBounds_toArray, List.set_cons_zero, List.set_cons_succ]
  refine wpAnyH_ready (rs := [7]) (by kernel_rfl) (by simp) ?_
  refine consL rfl (fun K hK => ?_) AllReadyH.nil
  go_simp
  refine (same_rule _ _ _ _ _ _ _ r r R26rq27.out R27r.out HSm.out HSm.out).mono ?_
  rintro e w28c ⟨he, hb⟩
  rw [decide_eq_true rfl] at he
  subst he
  have HB28 := Lib.hid (below_on HB27.out (Nat.le_refl _) hb)
  clear hb
  dsimp only
  try clear hHeld
  refine hK.out _ _ (HB28.out) (fun hHeld => ?_)
  clear hK K
  try simp only [Act.put, List.setIfInBounds_toArray, List.set_cons_zero, List.set_cons_succ]
  refine takeL (i := 8) (v := ?v29) rfl (by kernel_rfl) (by kernel_rfl) (by kernel_rfl) (fun _ _ _ h => h) (Or.inl ⟨by rfl, ?hy29⟩) (by assumption) ?rest29
  case hy29 => (intro wz hSz; (have hfz := HW.out wz hSz); go_split_ands; (first | (go_simp; done) | (go_simp; with_reducible rfl)))
  try simp only [Act.put, List.setIfInBounds_toArray, List.set_cons_zero, List.set_cons_succ]
  refine takeL (i := 9) (v := ?v30) rfl (by kernel_rfl) (by kernel_rfl) (by kernel_rfl) (fun _ _ _ h => h) (Or.inl ⟨by rfl, ?hy30⟩) (by assumption) ?rest30
  case hy30 => (intro wz hSz; (have hfz := HW.out wz hSz); go_split_ands; (first | (go_simp; done) | (go_simp; with_reducible rfl)))
  try simp only [Act.put, List.setIfInBounds_toArray, List.set_cons_zero, List.set_cons_succ]
  refine takeL (i := 10) (v := ?v31) rfl (by kernel_rfl) (by kernel_rfl) (by kernel_rfl) (fun _ _ _ h => h) (Or.inl ⟨by rfl, ?hy31⟩) (by assumption) ?rest31
  case hy31 => (intro wz hSz; (have hfz := HW.out wz hSz); go_split_ands; (first | (go_simp; done) | (go_simp; with_reducible rfl)))
  try simp only [Act.put, List.setIfInBounds_toArray, List.set_cons_zero, List.set_cons_succ]
  refine wpAnyH_ready (rs := [11]) (by kernel_rfl) (by simp) ?_
  refine consL rfl (fun K hK => ?_) AllReadyH.nil
  go_simp
  refine (rule_Good _ RA rn rc r (HGW.out.below HB28.out (Nat.le_refl _)) (R7.out.below HB28.out (Nat.le_refl _)) HSm.out).mono ?_
  rintro e w32c ⟨he, hb⟩
  rw [HGD.out] at he
  subst he
  have HB32 := Lib.hid (below_on HB28.out (Nat.le_refl _) hb)
  clear hb
  dsimp only
  try clear hHeld
  refine hK.out _ _ (HB32.out) (fun hHeld => ?_)
  clear hK K
  try simp only [Act.put, List.setIfInBounds_toArray, List.set_cons_zero, List.set_cons_succ]
  refine takeL (i := 12) (v := ?v33) rfl (by kernel_rfl) (by kernel_rfl) (by kernel_rfl) (fun _ _ _ h => h) (Or.inl ⟨by rfl, ?hy33⟩) (by assumption) ?rest33
  case hy33 => (intro wz hSz; (have hfz := HW.out wz hSz); go_split_ands; (first | (go_simp; done) | (go_simp; with_reducible rfl)))
  try simp only [Act.put, List.setIfInBounds_toArray, List.set_cons_zero, List.set_cons_succ]
  refine takeL (i := 13) (v := ?v34) rfl (by kernel_rfl) (by kernel_rfl) (by kernel_rfl) (fun _ _ _ h => h) (Or.inl ⟨by rfl, ?hy34⟩) (by assumption) ?rest34
  case hy34 => (intro wz hSz; (have hfz := HW.out wz hSz); go_split_ands; (first | (go_simp; done) | (go_simp; with_reducible rfl)))
  try simp only [Act.put, List.setIfInBounds_toArray, List.set_cons_zero, List.set_cons_succ]
  refine takeL (i := 14) (v := ?v35) rfl (by kernel_rfl) (by kernel_rfl) (by kernel_rfl) (fun _ _ _ h => h) (Or.inl ⟨by rfl, ?hy35⟩) (by assumption) ?rest35
  case hy35 => (intro wz hSz; (have hfz := HW.out wz hSz); go_split_ands; (first | (go_simp; done) | (go_simp; with_reducible rfl)))
  try simp only [Act.put, List.setIfInBounds_toArray, List.set_cons_zero, List.set_cons_succ]
  refine takeL (i := 17) (v := ?v36) rfl (by kernel_rfl) (by kernel_rfl) (by kernel_rfl) (fun _ _ _ h => h) (Or.inl ⟨by rfl, ?hy36⟩) (by assumption) ?rest36
  case hy36 => (intro wz hSz; (have hfz := HW.out wz hSz); go_split_ands; (first | (go_simp; done) | (go_simp; with_reducible rfl)))
  try simp only [Act.put, List.setIfInBounds_toArray, List.set_cons_zero, List.set_cons_succ]
  refine takeL (i := 18) (v := ?v37) rfl (by kernel_rfl) (by kernel_rfl) (by kernel_rfl) (fun _ _ _ h => h) (Or.inl ⟨by rfl, ?hy37⟩) (by assumption) ?rest37
  case hy37 => (intro wz hSz; (have hfz := HW.out wz hSz); go_split_ands; (first | (go_simp; done) | (go_simp; with_reducible rfl)))
  try simp only [Act.put, List.setIfInBounds_toArray, List.set_cons_zero, List.set_cons_succ]
  refine wpAnyH_ready (rs := [15]) (by kernel_rfl) (by simp) ?_
  refine consL rfl (fun K hK => ?_) AllReadyH.nil
  go_simp
  refine (rule_Show _ RA rn rc r (HGW.out.below HB32.out (Nat.le_refl _)) (R7.out.below HB32.out (Nat.le_refl _)) HSm.out).mono ?_
  rintro e w38c ⟨he, hb⟩
  rw [HGD.out, if_pos rfl] at he
  subst he
  have HB38 := Lib.hid (below_on HB32.out (Nat.le_refl _) hb)
  clear hb
  dsimp only
  try clear hHeld
  refine hK.out _ _ (HB38.out) (fun hHeld => ?_)
  clear hK K
  try simp only [Act.put, List.setIfInBounds_toArray, List.set_cons_zero, List.set_cons_succ]
  refine takeL (i := 16) (v := ?v39) rfl (by kernel_rfl) (by kernel_rfl) (by kernel_rfl) (fun _ _ _ h => h) (Or.inl ⟨by rfl, ?hy39⟩) (by assumption) ?rest39
  case hy39 => (intro wz hSz; (have hfz := HW.out wz hSz); go_split_ands; (first | (go_simp; done) | (go_simp; with_reducible rfl)))
  try simp only [Act.put, List.setIfInBounds_toArray, List.set_cons_zero, List.set_cons_succ]
  refine takeL (i := 19) (v := ?v40) rfl (by kernel_rfl) (by kernel_rfl) (by kernel_rfl) (fun _ _ _ h => h) (Or.inl ⟨by rfl, ?hy40⟩) (by assumption) ?rest40
  case hy40 => (intro wz hSz; (have hfz := HW.out wz hSz); go_split_ands; (first | (go_simp; done) | (go_simp; with_reducible rfl)))
  try simp only [Act.put, List.setIfInBounds_toArray, List.set_cons_zero, List.set_cons_succ]
  refine takeL (i := 20) (v := ?v41) rfl (by kernel_rfl) (by kernel_rfl) (by kernel_rfl) (fun _ _ _ h => h) (Or.inl ⟨by rfl, ?hy41⟩) (by assumption) ?rest41
  case hy41 => (intro wz hSz; (have hfz := HW.out wz hSz); go_split_ands; (first | (go_simp; done) | (go_simp; with_reducible rfl)))
  try simp only [Act.put, List.setIfInBounds_toArray, List.set_cons_zero, List.set_cons_succ]
  refine wpAnyH_done (by kernel_rfl) ?_ _
  clear hHeld
  unfold TailQ
  go_wp2_with fail
  go_ret
  exact ⟨rfl, HB7.out.trans (HB38.out.mono HB7.out.size)⟩
end Go.Proofs.YtdgleeglndcjhaaGreatDoor
