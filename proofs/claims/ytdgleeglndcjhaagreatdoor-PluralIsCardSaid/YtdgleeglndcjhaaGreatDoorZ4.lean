/- Package nat: Pow. -/
import Derived.Test.YtdgleeglndcjhaaGreatDoorZ2
namespace Go.Proofs.YtdgleeglndcjhaaGreatDoor
open Go.RowKit
set_option linter.unusedVariables false

theorem pow_round {p q k P : Nat} (h : p * q ^ k = P) (hk : 0 < k) : (k % 2 = 1 → (p * q) * (q * q) ^ (k / 2) = P) ∧ (¬ k % 2 = 1 → p * (q * q) ^ (k / 2) = P) := by
  have e : (q * q) ^ (k / 2) = q ^ (2 * (k / 2)) := by rw [← Nat.pow_two, ← Nat.pow_mul]
  rw [e]
  constructor
  · intro h1
    rw [Nat.mul_assoc, ← Nat.pow_succ', show (2 * (k / 2)).succ = k by omega]; exact h
  · intro h1
    rw [show 2 * (k / 2) = k by omega]; exact h
theorem pow_le1 {p q k P : Nat} (h : p * q ^ k = P) (hp : 0 < p) (hq : 0 < q) (hk : 0 < k) : p ≤ P ∧ q ≤ P ∧ p * q ≤ P ∧ (1 < k → q * q ≤ P) := by
  have h1 : q ≤ q ^ k := by
    obtain ⟨m, rfl⟩ : ∃ m, k = m + 1 := ⟨k - 1, by omega⟩
    rw [Nat.pow_succ]; exact Nat.le_mul_of_pos_left _ (Nat.pow_pos hq)
  have h2 : 0 < q ^ k := Nat.pow_pos hq
  subst h
  refine ⟨Nat.le_mul_of_pos_right _ h2, Nat.le_trans h1 (Nat.le_mul_of_pos_left _ hp), Nat.mul_le_mul_left _ h1, fun hk1 => ?_⟩
  obtain ⟨m, rfl⟩ : ∃ m, k = m + 2 := ⟨k - 2, by omega⟩
  rw [Nat.pow_succ, Nat.pow_succ, Nat.mul_assoc (q ^ m)]
  exact Nat.le_trans (Nat.le_mul_of_pos_left _ (Nat.pow_pos hq)) (Nat.le_mul_of_pos_left _ hp)

set_option maxRecDepth 100000 in
set_option maxHeartbeats 2000000 in
theorem nat_Pow (w : World) (A : Option Addr) (n c a k : Nat) (hx : SN w A n c a) (ha : 0 < a) (hP : Big (a ^ k)) (hP1 : Big a) (hk : k < 1000000000) :
    Calls Tryz.prog 141 #[.agg #[.slice A n c], .int .i64 k] w fun e w' => RetN e w' (a ^ k) ∧ Below w.heap.size w w' := by
  have HX := Lib.hid hx
  have HA := Lib.hid ha
  have HP := Lib.hid hP
  have HP1 := Lib.hid hP1
  have HK0 : Hid (1 * a ^ k = a ^ k) := Nat.one_mul _
  clear hx ha hP hP1
  go_enter Tryz.func141, Tryz.ntmps141
  go_wp2_with fail
  refine calls_letter (fun w1 => Blk w1 w.heap.size 24 [.slice A n c] ∧ Blk w1 (w.heap.size + 1) 24 [.slice none 0 0] ∧ Below w.heap.size w w1) ⟨((Blk.made _ 24 _ _ _ (by simp) rfl).alloc _), (Blk.made _ 24 _ _ _ (by simp) rfl), (((Below.refl _ _).alloc (by simp; try omega) _).alloc (by simp; try omega) _)⟩ ?_
  rintro w1 ⟨b0, b1, hb⟩
  refine (natOf _ 1 (by omega)).mono ?_
  rintro e w2 ⟨⟨A2, n2, c2, rfl, hr2⟩, hb2⟩
  have H0 := Lib.hid (b0.below hb2 b0.lt)
  have H1 := Lib.hid (b1.below hb2 b1.lt)
  have HB := Lib.hid (hb.trans (hb2.mono hb.size))
  have HR2 := Lib.hid hr2
  have HX2 := Lib.hid ((HX.out.below hb (Nat.le_refl _)).below hb2 (Nat.le_refl _))
  have hz2 : w.heap.size + 1 < w2.heap.size := (b1.below hb2 b1.lt).lt
  clear b0 b1 hb hb2 hr2 HX
  dsimp only
  go_wp2_with fail
  generalize hP0 : a ^ k = P at HP HK0
  have HP0 := Lib.hid hP0
  clear hP0
  generalize hg : w2.heap.size = g at *
  have Hg := Lib.hid hg
  clear hg
  go_loopw [1] (fun s1 wr => ∃ (m p q : Nat) (A3 A4 : Option Addr) (n3 c3 n4 c4 : Nat), s1 = .int .i64 m ∧ m < 1000000000 ∧ p * q ^ m = P ∧ 0 < p ∧ 0 < q ∧ Big q ∧ Blk wr w.heap.size 24 [.slice A3 n3 c3] ∧ Blk wr (w.heap.size + 1) 24 [.slice none 0 0] ∧ Blk wr g 24 [.slice A4 n4 c4] ∧ SN wr A3 n3 c3 q ∧ SN wr A4 n4 c4 p ∧ Below w.heap.size w wr) (fun i _ => (intOf i).toNat)
  case atStart =>
    exact ⟨k, 1, a, _, _, _, _, _, _, rfl, hk, by rw [HP0.out]; exact HK0.out, by omega, HA.out, HP1.out, H0.out.alloc _, H1.out.alloc _, Blk.made _ 24 _ _ _ Hg.out.symm rfl, HX2.out.below ((Below.refl _ _).alloc (Nat.le_refl _) _) (Nat.le_refl _), HR2.out.below ((Below.refl _ _).alloc (Nat.le_refl _) _) (Nat.le_refl _), HB.out.alloc (by rw [Hg.out]; omega) _⟩
  case round =>
    obtain ⟨m, p, q, A3, A4, n3, c3, n4, c4, rfl, hm, hpq, hp, hq, hqB, b0, b1, b2, hs3, hs4, hbw⟩ := hrel
    have hz5 := b2.lt
    have k0 := b0.cell 0
    have k2 := b2.cell 0
    have f0 := b0.frozen 0
    have f2 := b2.frozen 0
    simp only [List.getElem?_cons_zero] at k0 k2
    have B0 := Lib.hid b0
    have B1 := Lib.hid b1
    have B2 := Lib.hid b2
    have S3 := Lib.hid hs3
    have S4 := Lib.hid hs4
    have HBW := Lib.hid hbw
    have HPQ := Lib.hid hpq
    have HPp := Lib.hid hp
    have HQq := Lib.hid hq
    have HQB := Lib.hid hqB
    clear b0 b1 b2 hs3 hs4 hbw hpq hp hq hqB H0 H1 HB HR2 HX2 HA HP1 HK0
    by_cases hm0 : 0 < m
    · have hr := pow_round HPQ.out hm0
      have hl := pow_le1 HPQ.out HPp.out HQq.out hm0
      have HR := Lib.hid hr
      have HL := Lib.hid hl
      clear hr hl
      go_upto_if 13 with fail
      go_cut [] from 7 to 21 (fun wx => ∃ (p' : Nat) (A5 : Option Addr) (n5 c5 : Nat), p' * (q * q) ^ (m / 2) = P ∧ 0 < p' ∧ (m = 1 → p' * q ^ 0 = P) ∧ Blk wx w.heap.size 24 [.slice A3 n3 c3] ∧ Blk wx (w.heap.size + 1) 24 [.slice none 0 0] ∧ Blk wx g 24 [.slice A5 n5 c5] ∧ SN wx A3 n3 c3 q ∧ SN wx A5 n5 c5 p' ∧ Below w.heap.size w wx)
      case first =>
        by_cases hodd : m % 2 = 1
        · have HO := Lib.hid hodd
          have ho : (m : Int) % 2 = 1 := by omega
          clear hodd
          go_wp2_with fail
          refine (natMul _ A4 A3 n4 c4 n3 c3 p q S4.out S3.out (HP.out.mono HL.out.1) HQB.out).mono ?_
          rintro e w5 ⟨⟨A5, n5, c5, rfl, hr5⟩, hb5⟩
          have hz7 := hb5.size
          have E0 := Lib.hid (B0.out.below hb5 B0.out.lt)
          have E1 := Lib.hid (B1.out.below hb5 B1.out.lt)
          have E2 := Lib.hid (B2.out.below hb5 B2.out.lt)
          have S5 := Lib.hid (S3.out.below hb5 (Nat.le_refl _))
          have HB5 := Lib.hid (HBW.out.trans (hb5.mono HBW.out.size))
          have R5 := Lib.hid hr5
          clear hr5 hb5 k0 k2 f0 f2 ho
          have k2 := E2.out.cell 0
          have f2 := E2.out.frozen 0
          simp only [List.getElem?_cons_zero] at k2
          dsimp only
          go_wp2_with fail
          go_meet
          have hgg : w.heap.size + 1 < g := hz2
          exact ⟨p * q, A5, n5, c5, HR.out.1 HO.out, Nat.mul_pos HPp.out HQq.out, fun h => by subst h; have := HPQ.out; simpa using this, E0.out.far _ _ (by simp; omega), E1.out.far _ _ (by simp; omega), E2.out.put 0 _, SN.far S5.out E2.out (by simp) 0 _, SN.far R5.out E2.out (by simp) 0 _, HB5.out.setCell (by show w.heap.size ≤ g; omega) _⟩
        · have HO := Lib.hid hodd
          have ho : ((m : Int) % 2 == 1) = false := by rw [beq_eq_false_iff_ne]; omega
          clear hodd
          go_wp2_with fail
          go_meet
          exact ⟨p, A4, n4, c4, HR.out.2 HO.out, HPp.out, fun h => absurd (by rw [h]) HO.out, B0.out, B1.out, B2.out, S3.out, S4.out, HBW.out⟩
      case rest =>
        obtain ⟨p', A5, n5, c5, hpp, hpp0, hpp1, b0, b1, b2, s3, s5, hbx⟩ := hcut
        clear k0 k2 f0 f2
        have k0 := b0.cell 0
        have f0 := b0.frozen 0
        simp only [List.getElem?_cons_zero] at k0
        have D0 := Lib.hid b0
        have D1 := Lib.hid b1
        have D2 := Lib.hid b2
        have T3 := Lib.hid s3
        have T5 := Lib.hid s5
        have HBX := Lib.hid hbx
        have HPP := Lib.hid hpp
        have HPP0 := Lib.hid hpp0
        have HPP1 := Lib.hid hpp1
        clear b0 b1 b2 s3 s5 hbx hpp hpp0 hpp1
        have hgg : w.heap.size + 1 < g := hz2
        go_step
        by_cases hm1 : 1 < m
        · go_wp2_with fail
          refine (natMul _ A3 A3 n3 c3 n3 c3 q q T3.out T3.out HQB.out HQB.out).mono ?_
          rintro e w6 ⟨⟨A6, n6, c6, rfl, hr6⟩, hb6⟩
          have hz6 := hb6.size
          have F0 := Lib.hid (D0.out.below hb6 D0.out.lt)
          have F1 := Lib.hid (D1.out.below hb6 D1.out.lt)
          have F2 := Lib.hid (D2.out.below hb6 D2.out.lt)
          have m0 := F0.out.cell 0
          have g0 := F0.out.frozen 0
          simp only [List.getElem?_cons_zero] at m0
          have R6 := Lib.hid hr6
          have HB6 := Lib.hid hb6
          clear hr6 hb6
          dsimp only
          go_wp2_with fail
          go_round
          case rel => exact ⟨m / 2, p', q * q, _, _, _, _, _, _, by go_num, by omega, HPP.out, HPP0.out, Nat.mul_pos HQq.out HQq.out, HP.out.mono (HL.out.2.2.2 hm1), F0.out.put 0 _, F1.out.far _ _ (by simp), F2.out.far _ _ (by simp; omega), SN.far R6.out F0.out (by simp) 0 _, SN.far (SN.below T5.out HB6.out (Nat.le_refl _)) F0.out (by simp) 0 _, (HBX.out.trans (HB6.out.mono HBX.out.size)).setCell (by simp) _⟩
          case measure => simp [intOf]; omega
        · have hmm : m = 1 := by omega
          subst hmm
          go_wp2_with fail
          go_round
          case rel => exact ⟨0, p', q, _, _, _, _, _, _, by go_num, by omega, HPP1.out rfl, HPP0.out, HQq.out, HQB.out, D0.out, D1.out, D2.out, T3.out, T5.out, HBX.out⟩
          case measure => simp [intOf]
    · obtain rfl : m = 0 := by omega
      have k1 := B1.out.cell 0
      have f1 := B1.out.frozen 0
      simp only [List.getElem?_cons_zero] at k1
      have hpq2 : p = P := by have := HPQ.out; simpa using this
      have HPQ2 := Lib.hid hpq2
      clear hpq2
      go_wp2_with fail
      refine bodyPost_ret (v := .agg #[.slice A4 n4 c4]) (by simp [results, Tryz.results141, go_sem, (B1.out.put 0 (.slice A4 n4 c4)).cell 0]; try rfl) rfl ?_
      rw [HP0.out]
      rw [HPQ2.out] at S4
      exact ⟨⟨_, _, _, rfl, SN.far S4.out B1.out (by simp) 0 _⟩, HBW.out.setCell (by simp) _⟩

end Go.Proofs.YtdgleeglndcjhaaGreatDoor

