/- Package dec: both, Part; oper: number. -/
import Derived.Test.YtdgleeglndcjhaaGreatDoorPn
import Derived.BigQuiet
import Derived.Test.YtdgleeglndcjhaaGreatDoorHb
namespace Go.Proofs.YtdgleeglndcjhaaGreatDoor
open Go.RowKit
set_option linter.unusedVariables false
set_option linter.unusedSimpArgs false

theorem both_text (k sc : Nat) : (if (Lib.decDigits k).length < sc + 1 then List.replicate (sc + 1 - (Lib.decDigits k).length) 48 ++ Lib.decDigits k else Lib.decDigits k) = Lib.decDigits (k / 10 ^ sc) ++ padD sc (k % 10 ^ sc) := by
  have hp : 0 < 10 ^ sc := Nat.pow_pos (by omega)
  have hr : k % 10 ^ sc < 10 ^ sc := Nat.mod_lt _ hp
  have hk := Nat.div_add_mod k (10 ^ sc)
  rw [Nat.mul_comm] at hk
  rcases Nat.eq_zero_or_pos (k / 10 ^ sc) with hq | hq
  · rw [hq] at hk ⊢
    have hkr : k % 10 ^ sc = k := by omega
    rw [hkr] at hr ⊢
    rw [Lib.decDigits_one (by omega : 0 < 10)]
    rcases Nat.eq_zero_or_pos sc with h0 | h0
    · subst h0
      obtain rfl : k = 0 := by simpa using hr
      rw [Lib.decDigits_one (by omega)]
      simp [padD]
    · obtain ⟨h1, h2⟩ := padD_eq sc k hr h0
      rw [if_pos (by omega), h2, show sc + 1 - (Lib.decDigits k).length = (sc - (Lib.decDigits k).length) + 1 by omega, List.replicate_succ]
      rfl
  · have h1 := decDigits_pad sc (k / 10 ^ sc) (k % 10 ^ sc) hq hr
    rw [hk] at h1
    have h2 : 0 < (Lib.decDigits (k / 10 ^ sc)).length := List.length_pos_iff.2 (decDigits_ne _)
    rw [h1, if_neg (by rw [List.length_append, padD_len]; omega)]
theorem digits_len {k m : Nat} (h : k < 2 ^ m) : (Lib.decDigits k).length ≤ m + 1 :=
  (padD_eq (m + 1) k (Nat.lt_of_lt_of_le h (Nat.le_trans (Nat.pow_le_pow_left (by omega) m) (Nat.pow_le_pow_right (by omega) (by omega)))) (by omega)).1

set_option maxRecDepth 100000 in
set_option maxHeartbeats 8000000 in
theorem dec_both (w : World) (b : Bool) (A : Option Addr) (n c k sc m : Nat) (hG : GW w) (h : SN w A n c k) (hk : k < 2 ^ m) (hm : m ≤ 100000) (hs : sc ≤ 60) :
    Calls Tryz.prog 84 #[.agg #[.bool b, .slice A n c, .int .i64 sc]] w fun e w' => e = .returned (.tuple #[.string ⟨(Lib.decDigits (k / 10 ^ sc)).toArray⟩, .string ⟨(padD sc (k % 10 ^ sc)).toArray⟩]) ∧ Below w.heap.size w w' := by
  have HG := Lib.hid hG
  have HX := Lib.hid h
  have HK := Lib.hid hk
  have HT := Lib.hid (both_text k sc)
  have hdl := digits_len hk
  have hd0 : 0 < (Lib.decDigits k).length := List.length_pos_iff.2 (decDigits_ne _)
  have hsI : (sc : Int) ≤ 60 := by omega
  have hpl := padD_len sc (k % 10 ^ sc)
  clear hG h hk
  go_enter Tryz.func84, Tryz.ntmps84
  go_upto_region 1 with fail
  refine wp_letter (fun w1 => Blk w1 w.heap.size 26 [.bool b, .slice A n c, .int .i64 sc] ∧ Below w.heap.size w w1) ⟨Blk.made _ 26 _ _ _ rfl rfl, (Below.refl _ _).alloc (Nat.le_refl _) _⟩ ?_
  rintro w1 ⟨b0, hb⟩
  have HB := Lib.hid hb
  have HX1 := Lib.hid (HX.out.below hb (Nat.le_refl _))
  have B0 := Lib.hid b0
  have k1 := b0.cell 1
  simp only [List.getElem?_cons_zero, List.getElem?_cons_succ] at k1
  clear b0 hb
  go_wp2_with fail
  refine (nat_Text w1 A n c k m (HG.out.below HB.out (Nat.le_refl _)) HX1.out HK.out hm).mono ?_
  rintro e w2 ⟨rfl, hb2⟩
  have B2 := Lib.hid (B0.out.below hb2 B0.out.lt)
  have HB2 := Lib.hid (HB.out.trans (hb2.mono HB.out.size))
  have k2 := B2.out.cell 2
  simp only [List.getElem?_cons_zero, List.getElem?_cons_succ] at k2
  generalize hD : Lib.decDigits k = D at *
  generalize hH : Lib.decDigits (k / 10 ^ sc) = H at *
  generalize hP : padD sc (k % 10 ^ sc) = P at *
  have HD := Lib.hid hD
  have HH := Lib.hid hH
  have HPP := Lib.hid hP
  clear hb2 k1 hD hH hP B0 HB
  have hDI : (D.length : Int) ≤ 100001 := by omega
  dsimp only
  by_cases hl : D.length < sc + 1
  · have hI : (0 : Int) < (sc : Int) + 1 - (D.length : Int) := by omega
    have HT' : Hid (List.replicate (sc + 1 - D.length) 48 ++ D = H ++ P) := by have := HT.out; rw [if_pos hl] at this; exact this
    go_wp2_with fail
    rw [show ((sc : Int) + 1 - (D.length : Int)) = ((sc + 1 - D.length : Nat) : Int) by omega]
    refine (Tryz.strings_Repeat ⟨#[48]⟩ (sc + 1 - D.length) w2 (by omega) (by show 1 * (sc + 1 - D.length) ≤ _; omega)).mono ?_
    rw [show (⟨#[48]⟩ : ByteArray).data.toList = [48] from rfl, repeat_zero]
    rintro e w3 ⟨rfl, hb3⟩
    have hrl : (List.replicate (sc + 1 - D.length) (48 : UInt8)).length ≤ 61 := by simp; omega
    generalize List.replicate (sc + 1 - D.length) (48 : UInt8) = R at *
    have HB3 := Lib.hid (HB2.out.trans (hb3.mono HB2.out.size))
    have B3 := Lib.hid (B2.out.below hb3 B2.out.lt)
    clear hb3 k2 hI
    have k2 := B3.out.cell 2
    simp only [List.getElem?_cons_zero, List.getElem?_cons_succ] at k2
    generalize sc + 1 - D.length = N9
    dsimp only
    go_upto_region 5 with fail
    rw [ba_app, HT'.out]
    obtain ⟨T, hTe⟩ : ∃ T, T = H ++ P := ⟨_, rfl⟩
    have htl : T.length = H.length + sc := by rw [hTe, List.length_append, hpl]
    have e1 : (T.length : Int) - (sc : Int) = (H.length : Int) := by omega
    have hHT : (H.length : Int) ≤ (T.length : Int) := by omega
    have hTlen : T.length ≤ 100100 := by rw [hTe, ← HT'.out]; rw [List.length_append]; omega
    have hw : IntKind.i64.wrap (H.length : Int) = (H.length : Int) := by simp [IntKind.wrap, IntKind.bits, IntKind.signed]; omega
    rw [← hTe]
    have HTE := Lib.hid hTe
    clear hTe htl
    go_quiet (fail)
    have eT : T.take H.length = H := by rw [HTE.out]; simp
    have eP : T.drop H.length = P := by rw [HTE.out]; simp
    rw [ba_take, ba_drop _ _ _ (Nat.le_refl _), eT, eP]
    have HB4 := Lib.hid (below_drewN HB3.out nq)
    clear eT eP e1 hw hHT
    go_step
    go_wp2_with fail
    go_ret2
    exact ⟨by rw [HH.out, HPP.out]; rfl, HB4.out⟩
  · have hI : ¬ (0 : Int) < (sc : Int) + 1 - (D.length : Int) := by omega
    have HT' : Hid (D = H ++ P) := by have := HT.out; rw [if_neg hl] at this; exact this
    have B3 := B2
    have HB3 := HB2
    go_upto_region 5 with fail
    obtain ⟨D0, hD0⟩ : ∃ D0, D0 = D.length := ⟨_, rfl⟩
    rw [← hD0]
    rw [HT'.out]
    obtain ⟨T, hTe⟩ : ∃ T, T = H ++ P := ⟨_, rfl⟩
    have htl : T.length = H.length + sc := by rw [hTe, List.length_append, hpl]
    have e1 : (T.length : Int) - (sc : Int) = (H.length : Int) := by omega
    have hHT : (H.length : Int) ≤ (T.length : Int) := by omega
    have hTlen : T.length ≤ 100100 := by rw [hTe, ← HT'.out]; omega
    have hw : IntKind.i64.wrap (H.length : Int) = (H.length : Int) := by simp [IntKind.wrap, IntKind.bits, IntKind.signed]; omega
    rw [← hTe]
    have HTE := Lib.hid hTe
    clear hTe htl
    go_quiet (fail)
    have eT : T.take H.length = H := by rw [HTE.out]; simp
    have eP : T.drop H.length = P := by rw [HTE.out]; simp
    rw [ba_take, ba_drop _ _ _ (Nat.le_refl _), eT, eP]
    have HB4 := Lib.hid (below_drewN HB3.out nq)
    clear eT eP e1 hw hHT
    go_step
    go_wp2_with fail
    go_ret2
    exact ⟨by rw [HH.out, HPP.out]; rfl, HB4.out⟩
set_option maxRecDepth 100000 in
set_option maxHeartbeats 8000000 in
theorem dec_Part (w : World) (A : Option Addr) (n c k sc m : Nat) (hG : GW w) (h : SN w A n c k) (hk : k < 2 ^ m) (hm : m ≤ 100000) (hs : sc ≤ 60) :
    Calls Tryz.prog 48 #[.agg #[.bool false, .slice A n c, .int .i64 sc]] w fun e w' => e = .returned (.string ⟨(padD sc (k % 10 ^ sc)).toArray⟩) ∧ Below w.heap.size w w' := by
  have HG := Lib.hid hG
  have HX := Lib.hid h
  have HK := Lib.hid hk
  clear hG h hk
  go_enter Tryz.func48, Tryz.ntmps48
  go_upto_region 1 with fail
  refine wp_letter (fun w1 => Blk w1 w.heap.size 26 [.bool false, .slice A n c, .int .i64 sc] ∧ Below w.heap.size w w1) ⟨Blk.made _ 26 _ _ _ rfl rfl, (Below.refl _ _).alloc (Nat.le_refl _) _⟩ ?_
  rintro w1 ⟨b0, hb⟩
  have HB := Lib.hid hb
  have HX1 := Lib.hid (HX.out.below hb (Nat.le_refl _))
  have k0 := b0.cell 0
  have k1 := b0.cell 1
  have k2 := b0.cell 2
  simp only [List.getElem?_cons_zero, List.getElem?_cons_succ] at k0 k1 k2
  clear b0 hb
  go_wp2_with fail
  refine (dec_plain w1 false A n c k sc HX1.out (big_pow HK.out (by omega)) hs (by simp)).mono ?_
  rintro e w2 ⟨⟨A2, n2, c2, rfl, h2⟩, hb2⟩
  have HX2 := Lib.hid h2
  have HB2 := Lib.hid (HB.out.trans (hb2.mono HB.out.size))
  clear h2 hb2 k0 k1 k2
  dsimp only
  go_wp2_with fail
  refine (dec_both w2 false A2 n2 c2 k sc m (HG.out.below HB2.out (Nat.le_refl _)) HX2.out HK.out hm hs).mono ?_
  rintro e w3 ⟨rfl, hb3⟩
  have HB3 := Lib.hid (HB2.out.trans (hb3.mono HB2.out.size))
  generalize hP : padD sc (k % 10 ^ sc) = P at *
  have HP := Lib.hid hP
  clear hb3 hP
  dsimp only
  go_wp2_with fail
  go_ret
  exact ⟨by rw [HP.out]; rfl, HB3.out⟩
set_option maxRecDepth 100000 in
set_option maxHeartbeats 8000000 in
theorem oper_number (w : World) (s : Bs) (hG : GW w) (hs : s.length ≤ 100000) :
    Calls Tryz.prog 52 #[.string ⟨s.toArray⟩] w fun e w' => RetN e w' (nval s) ∧ Below w.heap.size w w' := by
  have HG := Lib.hid hG
  clear hG
  go_enter Tryz.func52, Tryz.ntmps52
  go_upto_region 1 with fail
  refine wp_letter (fun w1 => Blk w1 w.heap.size 24 [.slice none 0 0] ∧ Below w.heap.size w w1) ⟨Blk.made _ 24 _ _ _ rfl rfl, (Below.refl _ _).alloc (Nat.le_refl _) _⟩ ?_
  rintro w1 ⟨b0, hb⟩
  have HB := Lib.hid hb
  have B0 := Lib.hid b0
  clear b0 hb
  go_wp2_with fail
  refine (nat_Parse w1 s (HG.out.below HB.out (Nat.le_refl _)) hs).mono ?_
  rintro e w2 ⟨⟨A, n, c, rfl, h2⟩, hb2⟩
  have HX := Lib.hid h2
  have HB2 := Lib.hid (HB.out.trans (hb2.mono HB.out.size))
  have B2 := Lib.hid (B0.out.below hb2 B0.out.lt)
  clear h2 hb2 B0 HB
  dsimp only
  have b3 := B2.out.alloc (.cells #[.slice A n c] 24)
  have k3 := b3.cell 0
  have f3 := b3.frozen 0
  have hlt := B2.out.lt
  simp only [List.getElem?_cons_zero] at k3
  have q1 := (B2.out.put 0 (.slice A n c)).alloc (.cells #[.slice A n c] 24)
  have x2 := rn_set HX.out B2.out (by simp) 0 (.slice A n c)
  have q2 := x2.below ((Below.refl _ _).alloc (Nat.le_refl _) (.cells #[.slice A n c] 24)) (Nat.le_refl _)
  have h3 := below_set HB2.out w.heap.size 0 (Nat.le_refl _) (.slice A n c)
  have q3 := h3.alloc h3.size (.cells #[.slice A n c] 24)
  have q0 := q1.cell 0
  simp only [List.set_cons_zero, List.getElem?_cons_zero] at q0
  have hne : w.heap.size ≠ w2.heap.size := by omega
  have Q2 := Lib.hid q2
  have Q3 := Lib.hid q3
  have Q0 := Lib.hid q0
  clear q1 x2 q2 h3 q3 q0
  go_wp2_with fail
  have q0 := Q0.out
  have q2 := Q2.out
  have q3 := Q3.out
  generalize (w2.setCell ⟨w.heap.size, 0, none⟩ (.slice A n c)).alloc (.cells #[.slice A n c] 24) = wf at *
  refine bodyPost_ret (v := .agg #[.slice A n c]) (by simp [results, Tryz.results52, go_sem, q0]; try rfl) rfl ?_
  exact ⟨⟨A, n, c, rfl, q2⟩, q3⟩
end Go.Proofs.YtdgleeglndcjhaaGreatDoor
