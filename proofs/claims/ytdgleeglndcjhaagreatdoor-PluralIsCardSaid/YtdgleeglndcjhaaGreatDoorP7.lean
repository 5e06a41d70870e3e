/- Package law: holds, awake. -/
import Derived.Test.YtdgleeglndcjhaaGreatDoorP6
namespace Go.Proofs.YtdgleeglndcjhaaGreatDoor
open Go.RowKit
set_option linter.unusedVariables false
set_option linter.unusedSimpArgs false

theorem oper_OfS (w : World) (b : Bool) (A : Option Addr) (n c k s m : Nat) (hG : GW w) (h : SN w A n c k) (hs : s ≤ 60) (hb : b = true → 0 < k) (hk : k < 2 ^ m) (hm : 200 ≤ m) (hm2 : m ≤ 40000) :
    Calls Tryz.prog 15 #[.agg #[.bool b, .slice A n c, .int .i64 (s : Nat)]] w fun e w' => OfR e w' k s m ∧ Below w.heap.size w w' := by
  have hg := goodD_sn hs hb
  have e1 : decK b (wordsOf k) (s : Nat) = k := by unfold decK; rw [if_pos hg, val_wordsOf]
  have e2 : decS b (wordsOf k) (s : Nat) = s := by unfold decS; rw [if_pos hg]; simp
  have := oper_Of w b A n c (wordsOf k) (s : Nat) m hG h (big_pow hk (by omega)) (by rw [e1]; exact hk) hm hm2
  rw [e1, e2] at this
  exact this
set_option exponentiation.threshold 5000 in
theorem parseD_cases (s : Bs) : (∃ b k sc, parseD s = (0, b, k, sc) ∧ sc ≤ 60 ∧ (b = true → 0 < k) ∧ k < 2 ^ (4 * 512)) ∨ ∃ e, parseD s = (e, false, 0, 0) ∧ (e = 2 ∨ e = 11) := by
  unfold parseD
  split
  · exact .inr ⟨11, rfl, .inr rfl⟩
  · rename_i h
    dsimp only
    split
    · rename_i h2
      refine .inl ⟨_, _, _, rfl, h2.2.2.2, fun hb => ?_, ?_⟩
      · simp at hb; omega
      · have h1 := cut_len (Lib.trimPrefix s [45]) [46]
        have h3 : (Lib.trimPrefix s [45]).length ≤ s.length := by unfold Lib.trimPrefix; split <;> simp
        exact Nat.lt_of_lt_of_le (nval_lt _) (Nat.pow_le_pow_right (by omega) (by rw [List.length_append]; omega))
    · exact .inr ⟨2, rfl, .inl rfl⟩
/-- What the law's holds answers. -/
def holdsP (r d : Bs) : Bool := (parseR r).1 == 0 && ((parseD d).1 == 0 && holdsV (ofVal (parseD d).2.2.1 (parseD d).2.2.2) (parseR r).2)

set_option maxRecDepth 100000 in
set_option maxHeartbeats 16000000 in
theorem law_holds (w : World) (r d : Bs) (hG : GW w) :
    Calls Tryz.prog 20 #[.string ⟨r.toArray⟩, .string ⟨d.toArray⟩] w fun e w' => e = .returned (.bool (holdsP r d)) ∧ Below w.heap.size w w' := by
  have HG := Lib.hid hG
  have HH : Hid (holdsP r d = ((parseR r).1 == 0 && ((parseD d).1 == 0 && holdsV (ofVal (parseD d).2.2.1 (parseD d).2.2.2) (parseR r).2))) := rfl
  have HSm : Hid (SmallR (parseR r).2) := by
    rcases parseR_cases r with ⟨x, h1, h2⟩ | ⟨e, h1, -⟩
    · rw [h1]; exact h2
    · rw [h1]; exact smallR_nil
  clear hG
  go_enter Tryz.func20, Tryz.ntmps20
  go_wp2_with fail
  refine (rule_Parse w ⟨r.toArray⟩ HG.out).mono ?_
  rw [show (⟨r.toArray⟩ : ByteArray).data.toList = r from rfl]
  rintro e w2 ⟨RA, rn, rc, rfl, hr, hb2⟩
  have R2 := Lib.hid (RuleIs.below hr.is ((Below.refl w2.heap.size w2).alloc (Nat.le_refl _) (.cells #[.slice RA rn rc] 30)) (Nat.le_refl _))
  have E2 := Lib.hid (Blk.made w2 30 [.slice RA rn rc] w2.heap.size #[.slice RA rn rc] rfl rfl)
  have HB2 := Lib.hid (hb2.alloc hb2.size (.cells #[.slice RA rn rc] 30))
  clear hr hb2
  dsimp only
  go_wp2_with fail
  refine (dec_Parse _ d (HG.out.below HB2.out (Nat.le_refl _))).mono ?_
  rintro e w3 ⟨⟨A, n, c, rfl, hx⟩, hb3⟩
  have R3 := Lib.hid ((R2.out.below hb3 (Nat.le_refl _)).below ((Below.refl w3.heap.size w3).alloc (Nat.le_refl _) (.cells #[.bool (parseD d).2.1, .slice A n c, .int .i64 ((parseD d).2.2.2 : Nat)] 26)) (Nat.le_refl _))
  have X3 := Lib.hid (hx.below ((Below.refl w3.heap.size w3).alloc (Nat.le_refl _) (.cells #[.bool (parseD d).2.1, .slice A n c, .int .i64 ((parseD d).2.2.2 : Nat)] 26)) (Nat.le_refl _))
  have E3 := Lib.hid ((E2.out.below hb3 E2.out.lt).alloc (.cells #[.bool (parseD d).2.1, .slice A n c, .int .i64 ((parseD d).2.2.2 : Nat)] 26))
  have F3 := Lib.hid (Blk.made w3 26 [.bool (parseD d).2.1, .slice A n c, .int .i64 ((parseD d).2.2.2 : Nat)] w3.heap.size #[.bool (parseD d).2.1, .slice A n c, .int .i64 ((parseD d).2.2.2 : Nat)] rfl rfl)
  have HB3 := Lib.hid ((HB2.out.trans (hb3.mono HB2.out.size)).alloc (Nat.le_trans HB2.out.size hb3.size) (.cells #[.bool (parseD d).2.1, .slice A n c, .int .i64 ((parseD d).2.2.2 : Nat)] 26))
  clear hx hb3 R2 E2 HB2
  dsimp only
  go_upto_region 3 with fail
  generalize hg2 : w2.heap.size = g2 at *
  generalize hg3 : w3.heap.size = g3 at *
  clear hg2
  refine wp_letter (fun w4 => Blk w4 g2 30 [.slice RA rn rc] ∧ Blk w4 g3 26 [.bool (parseD d).2.1, .slice A n c, .int .i64 ((parseD d).2.2.2 : Nat)] ∧ RuleIs w4 RA rn rc (parseR r).2 ∧ SN w4 A n c (parseD d).2.2.1 ∧ Below w.heap.size w w4) ⟨E3.out, F3.out, R3.out, X3.out, HB3.out⟩ ?_
  clear E3 F3 R3 X3 HB3 hg3
  rintro w4 ⟨x0, x1, x2, x3, x4⟩
  have E4 := Lib.hid x0
  have F4 := Lib.hid x1
  have R4 := Lib.hid x2
  have X4 := Lib.hid x3
  have HB4 := Lib.hid x4
  have HG4 := Lib.hid (HG.out.below x4 (Nat.le_refl _))
  clear x0 x1 x2 x3 x4
  rcases parseR_cases r with ⟨x, h1, h2⟩ | ⟨e, h1, h2⟩
  · rw [h1] at HH R4 HSm ⊢
    have H1 := Lib.hid h1
    clear h1 h2
    rcases parseD_cases d with ⟨b, k, sc, h3, hs, hb, hk⟩ | ⟨e, h3, h4⟩
    · rw [h3] at HH F4 X4 ⊢
      have H3 := Lib.hid h3
      have HBK := Lib.hid hb
      obtain ⟨m, hm⟩ : ∃ m, m = 4 * 512 := ⟨_, rfl⟩
      rw [← hm] at hk
      have HK := Lib.hid hk
      clear h3 hb hk
      have HF : Hid (∀ w', Below w4.heap.size w4 w' → w'.cell? ⟨g2, 0, none⟩ = some (.slice RA rn rc) ∧ w'.cell? ⟨g3, 0, none⟩ = some (.bool b) ∧ w'.cell? ⟨g3, 1, none⟩ = some (.slice A n c) ∧ w'.cell? ⟨g3, 2, none⟩ = some (.int .i64 (sc : Nat))) := fun w' h => by
        have d := F4.out.below h F4.out.lt
        exact ⟨(E4.out.below h E4.out.lt).cell 0, d.cell 0, d.cell 1, d.cell 2⟩
      dsimp only
      refine wp_region_but (fun w' => Below w4.heap.size w4 w') (by kernel_rfl) (by kernel_rfl) (Below.refl _ _).drew (fun hHeld => ?_)
      simp only [initL, lastL]
      have HB0 := Lib.hid hHeld
      refine takeL (i := 0) (v := ?v1) rfl (by kernel_rfl) (by kernel_rfl) (by kernel_rfl) (fun _ _ _ h => h) (Or.inl ⟨by rfl, ?hy1⟩) (by assumption) ?rest1
      case hy1 => (intro wz hSz; (have hfz := HF.out wz hSz); go_split_ands; (first | (go_simp; done) | (go_simp; with_reducible rfl)))
      try simp only [Act.put, List.setIfInBounds_toArray, List.set_cons_zero, List.set_cons_succ]
      refine takeL (i := 1) (v := ?v2) rfl (by kernel_rfl) (by kernel_rfl) (by kernel_rfl) (fun _ _ _ h => h) (Or.inl ⟨by rfl, ?hy2⟩) (by assumption) ?rest2
      case hy2 => (intro wz hSz; (have hfz := HF.out wz hSz); go_split_ands; (first | (go_simp; done) | (go_simp; with_reducible rfl)))
      try simp only [Act.put, List.setIfInBounds_toArray, List.set_cons_zero, List.set_cons_succ]
      refine takeL (i := 2) (v := ?v3) rfl (by kernel_rfl) (by kernel_rfl) (by kernel_rfl) (fun _ _ _ h => h) (Or.inl ⟨by rfl, ?hy3⟩) (by assumption) ?rest3
      case hy3 => (intro wz hSz; (have hfz := HF.out wz hSz); go_split_ands; (first | (go_simp; done) | (go_simp; with_reducible rfl)))
      try simp only [Act.put, List.setIfInBounds_toArray, List.set_cons_zero, List.set_cons_succ]
      refine takeL (i := 3) (v := ?v4) rfl (by kernel_rfl) (by kernel_rfl) (by kernel_rfl) (fun _ _ _ h => h) (Or.inl ⟨by rfl, ?hy4⟩) (by assumption) ?rest4
      case hy4 => (intro wz hSz; (have hfz := HF.out wz hSz); go_split_ands; (first | (go_simp; done) | (go_simp; with_reducible rfl)))
      try simp only [Act.put, List.setIfInBounds_toArray, List.set_cons_zero, List.set_cons_succ]
      refine takeL (i := 4) (v := ?v5) rfl (by kernel_rfl) (by kernel_rfl) (by kernel_rfl) (fun _ _ _ h => h) (Or.inl ⟨by rfl, ?hy5⟩) (by assumption) ?rest5
      case hy5 => (intro wz hSz; (have hfz := HF.out wz hSz); go_split_ands; (first | (go_simp; done) | (go_simp; with_reducible rfl)))
      try simp only [Act.put, List.setIfInBounds_toArray, List.set_cons_zero, List.set_cons_succ]
      refine takeL (i := 5) (v := ?v6) rfl (by kernel_rfl) (by kernel_rfl) (by kernel_rfl) (fun _ _ _ h => h) (Or.inl ⟨by rfl, ?hy6⟩) (by assumption) ?rest6
      case hy6 => (intro wz hSz; (have hfz := HF.out wz hSz); go_split_ands; (first | (go_simp; done) | (go_simp; with_reducible rfl)))
      try simp only [Act.put, List.setIfInBounds_toArray, List.set_cons_zero, List.set_cons_succ]
      refine takeL (i := 6) (v := ?v7) rfl (by kernel_rfl) (by kernel_rfl) (by kernel_rfl) (fun _ _ _ h => h) (Or.inl ⟨by rfl, ?hy7⟩) (by assumption) ?rest7
      case hy7 => (intro wz hSz; (have hfz := HF.out wz hSz); go_split_ands; (first | (go_simp; done) | (go_simp; with_reducible rfl)))
      try simp only [Act.put, List.setIfInBounds_toArray, List.set_cons_zero, List.set_cons_succ]
      refine takeL (i := 7) (v := ?v8) rfl (by kernel_rfl) (by kernel_rfl) (by kernel_rfl) (fun _ _ _ h => h) (Or.inl ⟨by rfl, ?hy8⟩) (by assumption) ?rest8
      case hy8 => (intro wz hSz; (have hfz := HF.out wz hSz); go_split_ands; (first | (go_simp; done) | (go_simp; with_reducible rfl)))
      try simp only [Act.put, List.setIfInBounds_toArray, List.set_cons_zero, List.set_cons_succ]
      refine takeL (i := 8) (v := ?v9) rfl (by kernel_rfl) (by kernel_rfl) (by kernel_rfl) (fun _ _ _ h => h) (Or.inl ⟨by rfl, ?hy9⟩) (by assumption) ?rest9
      case hy9 => (intro wz hSz; (have hfz := HF.out wz hSz); go_split_ands; (first | (go_simp; done) | (go_simp; with_reducible rfl)))
      try simp only [Act.put, List.setIfInBounds_toArray, List.set_cons_zero, List.set_cons_succ]
      refine wpAnyH_ready (rs := [9]) (by kernel_rfl) (by simp) ?_
      refine consL rfl (fun K hK => ?_) AllReadyH.nil
      go_simp
      refine (oper_OfS _ b A n c k sc m (HG4.out.below HB0.out (Nat.le_refl _)) (X4.out.below HB0.out (Nat.le_refl _)) hs HBK.out HK.out (by omega) (by omega)).mono ?_
      rintro e w110 ⟨⟨b10, A10, n10, c10, B10, m10, d10, iA10, il10, ic10, fA10, fl10, fc10, tA10, tl10, tc10, rfl, r⟩, hb⟩
      have HB10 := Lib.hid (below_on HB0.out (Nat.le_refl _) hb)
      have OP10 := Lib.hid r
      clear r hb
      dsimp only
      try clear hHeld
      refine hK.out _ _ (HB10.out) (fun hHeld => ?_)
      clear hK K
      try simp only [Act.put, List.setIfInBounds_toArray, List.set_cons_zero, List.set_cons_succ]
      refine wpAnyH_ready (rs := [10]) (by kernel_rfl) (by simp) ?_
      refine consL rfl (fun K hK => ?_) AllReadyH.nil
      go_simp
      refine (rule_Holds _ RA rn rc x (HG4.out.below HB10.out (Nat.le_refl _)) (R4.out.below HB10.out (Nat.le_refl _)) HSm.out _ _ _ _ _ _ _ _ _ _ _ _ _ _ _ _ _ _ _ _ _ _ _ _ OP10.out (by omega) (by omega)).mono ?_
      rintro e w111 ⟨rfl, hb⟩
      have HB11 := Lib.hid (below_on HB10.out (Nat.le_refl _) hb)
      clear hb
      dsimp only
      try clear hHeld
      refine hK.out _ _ (HB11.out) (fun hHeld => ?_)
      clear hK K
      try simp only [Act.put, List.setIfInBounds_toArray, List.set_cons_zero, List.set_cons_succ]
      refine takeL (i := 11) (v := ?v12) rfl (by kernel_rfl) (by kernel_rfl) (by kernel_rfl) (fun _ _ _ h => h) (Or.inl ⟨by rfl, ?hy12⟩) (by assumption) ?rest12
      case hy12 => (intro wz hSz; (have hfz := HF.out wz hSz); go_split_ands; (first | (go_simp; done) | (go_simp; with_reducible rfl)))
      try simp only [Act.put, List.setIfInBounds_toArray, List.set_cons_zero, List.set_cons_succ]
      refine wpAnyH_done (by kernel_rfl) ?_ _
      clear hHeld
      unfold TailQ
      go_wp2_with fail
      go_ret
      exact ⟨by rw [HH.out]; simp [ofVal], HB4.out.trans (HB11.out.mono HB4.out.size)⟩
    · rw [h3] at HH F4 X4 ⊢
      have H3 := Lib.hid h3
      clear h3
      rcases h4 with rfl | rfl
      · dsimp only
        go_quiet (fail)
        go_step
        go_wp2_with fail
        go_ret
        exact ⟨by rw [HH.out]; simp, below_drewN HB4.out nq⟩
      · dsimp only
        go_quiet (fail)
        go_step
        go_wp2_with fail
        go_ret
        exact ⟨by rw [HH.out]; simp, below_drewN HB4.out nq⟩
  · rw [h1] at HH R4 HSm ⊢
    have H1 := Lib.hid h1
    clear h1
    rcases h2 with rfl | rfl
    · dsimp only
      go_quiet (fail)
      go_step
      go_wp2_with fail
      go_ret
      exact ⟨by rw [HH.out]; simp, below_drewN HB4.out nq⟩
    · dsimp only
      go_quiet (fail)
      go_step
      go_wp2_with fail
      go_ret
      exact ⟨by rw [HH.out]; simp, below_drewN HB4.out nq⟩
end Go.Proofs.YtdgleeglndcjhaaGreatDoor
