/- Package oper: whole, Value. -/
import Derived.Test.YtdgleeglndcjhaaGreatDoorR
namespace Go.Proofs.YtdgleeglndcjhaaGreatDoor
open Go.RowKit
set_option linter.unusedVariables false
set_option linter.unusedSimpArgs false

/-- A fraction of just these terms is returned. -/
def RetQX (e : Ending) (w' : World) (p : Int) (q : Nat) : Prop := ∃ b A n c A' n' c', e = .returned (.agg #[.bool b, .slice A n c, .slice A' n' c']) ∧ RZ w' b A n c p ∧ SN w' A' n' c' q

set_option maxRecDepth 100000 in
theorem rat_IntX (w : World) (n : Nat) (hn : n < 9223372036854775808) :
    Calls Tryz.prog 94 #[.int .i64 n] w fun e w' => RetQX e w' n 1 ∧ Below w.heap.size w w' := by
  have HN := Lib.hid hn
  clear hn
  go_enter Tryz.func94, Tryz.ntmps94
  go_wp2_with fail
  refine calls_letter (fun w1 => Blk w1 w.heap.size 37 [.bool false, .slice none 0 0, .slice none 0 0] ∧ Below w.heap.size w w1) ⟨(Blk.made _ 37 _ _ _ (by simp) rfl), ((Below.refl _ _).alloc (by simp; try omega) _)⟩ ?_
  rintro w1 ⟨b0, hb⟩
  have k00 := b0.cell 0
  have k01 := b0.cell 1
  have k02 := b0.cell 2
  simp only [List.getElem?_cons_zero, List.getElem?_cons_succ] at k00 k01 k02
  have HB := Lib.hid hb
  have H0 := Lib.hid b0
  have hz := b0.lt
  clear hb b0
  refine (num_Of _ n HN.out).mono ?_
  rintro e w2 ⟨⟨b2, A2, n2, c2, rfl, hr⟩, hb2⟩
  clear k00 k01 k02
  dsimp only
  go_wp2_with fail
  refine (rat_one _).mono ?_
  rintro e w3 ⟨⟨A3, n3, c3, rfl, hr3⟩, hb3⟩
  have HSt : Hid (Hold w1 w.heap.size 37 3 w1) := Hold.start H0.out (by simp [No32])
  have hh0 := ((HSt.out.call hb2).call hb3)
  have k0 := hh0.cell 0 (by omega)
  have f0 := hh0.frozen 0
  have k1 := hh0.cell 1 (by omega)
  have f1 := hh0.frozen 1
  have k2 := hh0.cell 2 (by omega)
  have f2 := hh0.frozen 2
  have hr2 := hr.below hb3 (Nat.le_refl _)
  dsimp only
  go_wp2_with fail
  have hh := ((HSt.out.call hb2).call hb3)
  have hf := hh.fill3 (.bool b2) (.slice A2 n2 c2) (.slice A3 n3 c3)
  have hg := (((hh.set 0 (.bool b2) (by simp)).set 1 (.slice A2 n2 c2) (by simp)).set 2 (.slice A3 n3 c3) (by simp))
  have hs := (((hr2.sn.hset hh 0 (.bool b2)).hset (hh.set 0 (.bool b2) (by simp)) 1 (.slice A2 n2 c2)).hset ((hh.set 0 (.bool b2) (by simp)).set 1 (.slice A2 n2 c2) (by simp)) 2 (.slice A3 n3 c3))
  have hs2 := (((hr3.hset hh 0 (.bool b2)).hset (hh.set 0 (.bool b2) (by simp)) 1 (.slice A2 n2 c2)).hset ((hh.set 0 (.bool b2) (by simp)).set 1 (.slice A2 n2 c2) (by simp)) 2 (.slice A3 n3 c3))
  have r0 := hf.cell 0
  have r1 := hf.cell 1
  have r2 := hf.cell 2
  generalize (((w3.setCell ⟨w.heap.size, 0, none⟩ (.bool b2)).setCell ⟨w.heap.size, 1, none⟩ (.slice A2 n2 c2)).setCell ⟨w.heap.size, 2, none⟩ (.slice A3 n3 c3)) = wf at *
  simp only [List.getElem?_cons_zero, List.getElem?_cons_succ] at r0 r1 r2
  refine bodyPost_ret (v := .agg #[.bool b2, .slice A2 n2 c2, .slice A3 n3 c3]) (by simp [results, Tryz.results94, go_sem, r0, r1, r2]; try rfl) rfl ?_
  exact ⟨⟨_, _, _, _, _, _, _, rfl, ⟨hr2.sign, hs⟩, hs2⟩, HB.out.trans (hg.below (by omega))⟩

set_option maxRecDepth 100000 in
theorem oper_whole (w : World) (A : Option Addr) (n c k m : Nat) (h : SN w A n c k) (hk : k < 2 ^ m) (hm : 0 < m) :
    Calls Tryz.prog 143 #[.agg #[.slice A n c]] w fun e w' => RetQ e w' k 1 m ∧ Below w.heap.size w w' := by
  have HX := Lib.hid h
  have HK := Lib.hid hk
  have HM := Lib.hid hm
  clear h hk hm
  go_enter Tryz.func143, Tryz.ntmps143
  go_wp2_with fail
  refine calls_letter (fun w1 => Blk w1 w.heap.size 24 [.slice A n c] ∧ Blk w1 (w.heap.size + 1) 37 [.bool false, .slice none 0 0, .slice none 0 0] ∧ Below w.heap.size w w1) ⟨((Blk.made _ 24 _ _ _ (by simp) rfl).alloc _), (Blk.made _ 37 _ _ _ (by simp) rfl), (((Below.refl _ _).alloc (by simp; try omega) _).alloc (by simp; try omega) _)⟩ ?_
  rintro w1 ⟨b0, b1, hb⟩
  have k00 := b0.cell 0
  have k10 := b1.cell 0
  have k11 := b1.cell 1
  have k12 := b1.cell 2
  simp only [List.getElem?_cons_zero, List.getElem?_cons_succ] at k00 k10 k11 k12
  have HB := Lib.hid hb
  have H0 := Lib.hid b0
  have H1 := Lib.hid b1
  have hz := b1.lt
  clear hb b0 b1
  refine (rat_IntX _ 0 (by omega)).mono ?_
  rintro e w2 ⟨⟨b2, A2, n2, c2, A3, n3, c3, rfl, hr, hr3⟩, hb2⟩
  have hz2 := hb2.size
  have eb : b2 = false := by rw [hr.sign]; simp
  subst eb
  have d0 := (H0.out.below hb2 (by omega)).alloc (.cells #[.bool false, .slice A2 n2 c2, .slice A3 n3 c3] 37)
  have d1 := (H1.out.below hb2 (by omega)).alloc (.cells #[.bool false, .slice A2 n2 c2, .slice A3 n3 c3] 37)
  have d2 := Blk.made w2 37 [.bool false, .slice A2 n2 c2, .slice A3 n3 c3] w2.heap.size #[.bool false, .slice A2 n2 c2, .slice A3 n3 c3] rfl rfl
  have hba : Below w2.heap.size w2 (w2.alloc (.cells #[.bool false, .slice A2 n2 c2, .slice A3 n3 c3] 37)) := (Below.refl _ _).alloc (Nat.le_refl _) _
  have S1 := ((HX.out.below HB.out (Nat.le_refl _)).below hb2 (Nat.le_refl _)).below hba (Nat.le_refl _)
  have S3 := hr3.below hba (Nat.le_refl _)
  have HB4 := Lib.hid ((HB.out.trans (hb2.mono HB.out.size)).trans (hba.mono (by omega)))
  have m0 := d0.cell 0
  simp only [List.getElem?_cons_zero] at m0
  clear k00 k10 k11 k12
  dsimp only
  go_upto_region 2 with fail
  generalize hg : w2.heap.size = g at *
  refine wp_letter (fun w4 => Blk w4 w.heap.size 24 [.slice A n c] ∧ Blk w4 (w.heap.size + 1) 37 [.bool false, .slice none 0 0, .slice none 0 0] ∧ Blk w4 g 37 [.bool false, .slice A2 n2 c2, .slice A3 n3 c3] ∧ SN w4 A n c k ∧ SN w4 A3 n3 c3 1 ∧ Below w.heap.size w w4) ⟨d0, d1, d2, S1, S3, HB4.out⟩ ?_
  clear d0 d1 d2 hba S1 S3 HB4 m0 hr hr3 hb2 hg H0 H1 HB
  rintro w4 ⟨d0, d1, d2, s1, s3, hb⟩
  have m0 := d0.cell 0
  have m1 := d1.cell 0
  have m2 := d1.cell 1
  have m3 := d1.cell 2
  have n0 := d2.cell 0
  have n1 := d2.cell 1
  have n2' := d2.cell 2
  have e0 := d1.frozen 0
  have e1 := d1.frozen 1
  have e2 := d1.frozen 2
  have e3 := d2.frozen 1
  simp only [List.getElem?_cons_zero, List.getElem?_cons_succ] at m0 m1 m2 m3 n0 n1 n2'
  have hgg : w.heap.size + 1 < g := by omega
  have x1 := d1.far ⟨g, 1, none⟩ (.slice A n c) (by simp; omega)
  have x2 := d2.put 1 (.slice A n c)
  have hd2 : Hold w4 g 37 3 w4 := Hold.start d2 (by simp [No32])
  have y1 := s1.hset hd2 1 (.slice A n c)
  have y3 := s3.hset hd2 1 (.slice A n c)
  have hB5 := hb.setCell (p := ⟨g, 1, none⟩) (by show w.heap.size ≤ g; omega) (.slice A n c)
  simp only [List.set_cons_zero, List.set_cons_succ] at x2
  have X1 := Lib.hid x1
  have X2 := Lib.hid x2
  have Y1 := Lib.hid y1
  have Y3 := Lib.hid y3
  have HB5 := Lib.hid hB5
  clear x1 y1 y3 hB5 d0 d1 d2 s1 s3 hb hd2
  go_upto_region 3 with fail
  clear x2 m0 m1 m2 m3 n0 n1 n2' e0 e1 e2 e3
  generalize (w4.setCell ⟨g, 1, none⟩ (.slice A n c)) = w5 at *
  have m1 := X1.out.cell 0
  have m2 := X1.out.cell 1
  have m3 := X1.out.cell 2
  have n0 := X2.out.cell 0
  have n1 := X2.out.cell 1
  have n2' := X2.out.cell 2
  have e0 := X1.out.frozen 0
  have e1 := X1.out.frozen 1
  have e2 := X1.out.frozen 2
  simp only [List.getElem?_cons_zero, List.getElem?_cons_succ] at m1 m2 m3 n0 n1 n2'
  have HSt : Hid (Hold w5 (w.heap.size + 1) 37 3 w5) := Hold.start X1.out (by simp [No32])
  go_wp2_with fail
  have hh := HSt.out
  have hf := hh.fill3 (.bool false) (.slice A n c) (.slice A3 n3 c3)
  have hg := (((hh.set 0 (.bool false) (by simp)).set 1 (.slice A n c) (by simp)).set 2 (.slice A3 n3 c3) (by simp))
  have hs := (((Y1.out.hset hh 0 (.bool false)).hset (hh.set 0 (.bool false) (by simp)) 1 (.slice A n c)).hset ((hh.set 0 (.bool false) (by simp)).set 1 (.slice A n c) (by simp)) 2 (.slice A3 n3 c3))
  have hs3 := (((Y3.out.hset hh 0 (.bool false)).hset (hh.set 0 (.bool false) (by simp)) 1 (.slice A n c)).hset ((hh.set 0 (.bool false) (by simp)).set 1 (.slice A n c) (by simp)) 2 (.slice A3 n3 c3))
  have r0 := hf.cell 0
  have r1 := hf.cell 1
  have r2 := hf.cell 2
  generalize (((w5.setCell ⟨w.heap.size + 1, 0, none⟩ (.bool false)).setCell ⟨w.heap.size + 1, 1, none⟩ (.slice A n c)).setCell ⟨w.heap.size + 1, 2, none⟩ (.slice A3 n3 c3)) = wf at *
  simp only [List.getElem?_cons_zero, List.getElem?_cons_succ] at r0 r1 r2
  refine bodyPost_ret (v := .agg #[.bool false, .slice A n c, .slice A3 n3 c3]) (by simp [results, Tryz.results143, go_sem, r0, r1, r2]; try rfl) rfl ?_
  exact ⟨⟨_, _, _, _, _, _, _, rfl, ⟨⟨k, 1, by omega, by omega, rfl, ⟨by simp, by simpa using hs⟩, hs3, by simpa using HK.out, Nat.one_lt_two_pow (by have := HM.out; omega)⟩⟩⟩, HB5.out.trans (hg.below (by omega))⟩

end Go.Proofs.YtdgleeglndcjhaaGreatDoor
