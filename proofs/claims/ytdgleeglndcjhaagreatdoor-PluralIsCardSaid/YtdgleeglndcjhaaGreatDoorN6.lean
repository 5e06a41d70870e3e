import Derived.Test.YtdgleeglndcjhaaGreatDoorN5
import Derived.Deep.RegionWith
namespace Go.Proofs.YtdgleeglndcjhaaGreatDoor
open Go.RowKit
set_option linter.unusedVariables false

set_option maxRecDepth 100000 in
set_option maxHeartbeats 2000000 in
theorem nat_Gcd (w : World) (x y : Value) (a b : List Nat) (hx : RL w x a) (hy : RL w y b) (ha : a.length ≤ 1000000) (hb : b.length ≤ 1000000) :
    Calls Tryz.prog 140 #[.agg #[x], .agg #[y]] w fun e w' => ∃ v, e = .returned (.agg #[v]) ∧ RN w' v (Nat.gcd (val a) (val b)) ∧ Below w.heap.size w w' := by
  have ha9 : a.length ≤ 1000000000 := by omega
  have hb9 : b.length ≤ 1000000000 := by omega
  have HXI : Hid (∀ {n : Int}, x ≠ .int .u32 n) := fun h => by obtain ⟨A, c, h2, -⟩ := hx.form; rw [h2] at h; cases h
  have HYI : Hid (∀ {n : Int}, y ≠ .int .u32 n) := fun h => by obtain ⟨A, c, h2, -⟩ := hy.form; rw [h2] at h; cases h
  have HA : Hid ((wordsOf (val a)).length ≤ 1000000) := Nat.le_trans (length_val hx.2) ha
  have HB' : Hid ((wordsOf (val b)).length ≤ 1000000) := Nat.le_trans (length_val hy.2) hb
  go_enter Tryz.func140, Tryz.ntmps140
  go_upto_region 1 with fail
  go_cut [] (fun wx => ∃ u v, Blk wx w.heap.size 24 [u] ∧ Blk wx (w.heap.size + 1) 24 [v] ∧ Blk wx (w.heap.size + 1 + 1) 24 [.slice none 0 0] ∧ RN wx u (val a) ∧ RN wx v (val b) ∧ Below w.heap.size w wx)
  case first =>
    refine wp_letter (fun w1 => Blk w1 w.heap.size 24 [x] ∧ Blk w1 (w.heap.size + 1) 24 [y] ∧ Blk w1 (w.heap.size + 1 + 1) 24 [.slice none 0 0] ∧ Below w.heap.size w w1) ⟨((Blk.made w 24 _ _ _ rfl rfl).alloc _).alloc _, (Blk.made _ 24 _ _ _ (by simp) rfl).alloc _, Blk.made _ 24 _ _ _ (by simp) rfl, (((Below.refl _ _).alloc (by simp) _).alloc (by simp) _).alloc (by simp; omega) _⟩ ?_
    rintro w1 ⟨B0, B1, B2, hB⟩
    have hN : w.heap.size + 3 ≤ w1.heap.size := B2.lt
    have HX : Hid (∀ w', Below (w.heap.size + 3) w1 w' → RL w' x a ∧ RL w' y b ∧ Blk w' w.heap.size 24 [x] ∧ Blk w' (w.heap.size + 1) 24 [y] ∧ Blk w' (w.heap.size + 1 + 1) 24 [.slice none 0 0] ∧ Below w.heap.size w w' ∧
        w'.cell? ⟨w.heap.size, 0, none⟩ = some x ∧ w'.cell? ⟨w.heap.size + 1, 0, none⟩ = some y ∧ w'.frozen? ⟨w.heap.size, 0, none⟩ = false ∧ w'.frozen? ⟨w.heap.size + 1, 0, none⟩ = false) := fun w' h => by
      have b0 := B0.below h (by omega)
      have b1 := B1.below h (by omega)
      exact ⟨hx.below (hB.trans (h.mono (by omega))) (Nat.le_refl _), hy.below (hB.trans (h.mono (by omega))) (Nat.le_refl _), b0, b1, B2.below h (by omega), hB.trans (h.mono (by omega)), b0.cell 0, b1.cell 0, b0.frozen 0, b1.frozen 0⟩
    have cx := B0.cell 0
    have cy := B1.cell 0
    simp only [List.getElem?_cons_zero] at cx cy
    clear hx hy B0 B1 B2 hB
    go_region_with ((first
      | ((with_reducible refine (nat_trim _ x a ?_ ha9).mono ?_)
         · exact (HX.out _ (Below.refl _ _).drew).1
         rintro e w2 ⟨v2, rfl, hr2, hb2⟩
         have Hb2 := Lib.hid (below_on (Below.refl (w.heap.size + 3) w1).drew hN hb2)
         have HR2 := Lib.hid hr2
         obtain ⟨A2, c2, rfl, -⟩ := hr2.form
         obtain ⟨-, -, -, -, -, -, cx2, cy2, fx2, fy2⟩ := HX.out _ Hb2.out
         clear hr2 hb2)
      | ((with_reducible refine (nat_trim _ y b ?_ hb9).mono ?_)
         · exact (HX.out _ Hb2.out).2.1
         rintro e w3 ⟨v3, rfl, hr3, hb3⟩
         have Hb3 := Lib.hid (below_on Hb2.out hN hb3)
         have HR3 := Lib.hid hr3
         have HR23 := Lib.hid (HR2.out.below hb3 (Nat.le_refl _))
         obtain ⟨A3, c3, rfl, -⟩ := hr3.form
         obtain ⟨-, -, -, -, -, -, cx3, cy3, fx3, fy3⟩ := HX.out _ Hb3.out
         clear hr3 hb3)))
    all_goals
      go_wp2_with fail
      go_meet
      obtain ⟨-, -, b0, b1, b2, bb, -, -, -, -⟩ := HX.out _ Hb3.out
      have c0 := b0.put 0 (.slice A2 (wordsOf (val a)).length c2)
      have c1 := (b1.far ⟨w.heap.size, 0, none⟩ (.slice A2 (wordsOf (val a)).length c2) (by simp)).put 0 (.slice A3 (wordsOf (val b)).length c3)
      have r2 : RN _ (.slice A2 (wordsOf (val a)).length c2) (val a) := RL.far (RL.far HR23.out b0 (by intro z hz n hn; simp at hz; subst hz; subst hn; exact HXI.out rfl) 0 (.slice A2 (wordsOf (val a)).length c2)) (b1.far ⟨w.heap.size, 0, none⟩ (.slice A2 (wordsOf (val a)).length c2) (by simp)) (by intro z hz n hn; simp at hz; subst hz; subst hn; exact HYI.out rfl) 0 (.slice A3 (wordsOf (val b)).length c3)
      have r3 : RN _ (.slice A3 (wordsOf (val b)).length c3) (val b) := RL.far (RL.far HR3.out b0 (by intro z hz n hn; simp at hz; subst hz; subst hn; exact HXI.out rfl) 0 (.slice A2 (wordsOf (val a)).length c2)) (b1.far ⟨w.heap.size, 0, none⟩ (.slice A2 (wordsOf (val a)).length c2) (by simp)) (by intro z hz n hn; simp at hz; subst hz; subst hn; exact HYI.out rfl) 0 (.slice A3 (wordsOf (val b)).length c3)
      exact ⟨_, _, c0.far _ _ (by simp), c1, (b2.far _ _ (by simp; try omega)).far _ _ (by simp; try omega), r2, r3, (bb.setCell (by simp) _).setCell (by simp) _⟩
  case rest =>
    obtain ⟨u, v, B0, B1, B2, hu, hv, hB⟩ := hcut
    have HB0 := Lib.hid B0
    have HB1 := Lib.hid B1
    have HB2 := Lib.hid B2
    have Hu := Lib.hid hu
    have Hv := Lib.hid hv
    have HBw := Lib.hid hB
    clear B0 B1 B2 hu hv hB ha hb ha9 hb9
    have HPA : Hid (∃ c, c = val a) := ⟨_, rfl⟩
    obtain ⟨p0, hp0⟩ := HPA.out
    have HQB0 : Hid (∃ c, c = val b) := ⟨_, rfl⟩
    obtain ⟨q0, hq0⟩ := HQB0.out
    rw [← hp0] at HA Hu
    rw [← hq0] at HB' Hv
    have HP0 := Lib.hid hp0
    have HQ0 := Lib.hid hq0
    clear hp0 hq0 HPA HQB0
    go_step
    go_wp2_with fail
    go_loopg [] q0 (fun G wr => ∃ (u v : Value) (p q : Nat), G = q ∧ Blk wr w.heap.size 24 [u] ∧ Blk wr (w.heap.size + 1) 24 [v] ∧ Blk wr (w.heap.size + 1 + 1) 24 [.slice none 0 0] ∧ RN wr u p ∧ RN wr v q ∧ Nat.gcd p q = Nat.gcd p0 q0 ∧
        (wordsOf p).length ≤ 1000000 ∧ (wordsOf q).length ≤ 1000000 ∧ Below w.heap.size w wr)
    case atStart => exact ⟨u, v, p0, q0, rfl, HB0.out, HB1.out, HB2.out, Hu.out, Hv.out, rfl, HA.out, HB'.out, HBw.out⟩
    case round =>
      obtain ⟨u, v, p, q, rfl, B0, B1, B2, hu, hv, hg, hp, hq, hbw⟩ := hrel
      have Hu := Lib.hid hu
      have Hv := Lib.hid hv
      have Hg := Lib.hid hg
      have Hp := Lib.hid hp
      have Hq := Lib.hid hq
      obtain ⟨Au, cu, rfl, -⟩ := hu.form
      obtain ⟨Av, cv, rfl, -⟩ := hv.form
      have c0 := B0.cell 0
      have c1 := B1.cell 0
      have c2 := B2.cell 0
      simp only [List.getElem?_cons_zero] at c0 c1 c2
      have f0 := B0.frozen 0
      have f1 := B1.frozen 0
      have f2 := B2.frozen 0
      have HB0 := Lib.hid B0
      have HB1 := Lib.hid B1
      have HB2 := Lib.hid B2
      have HBw := Lib.hid hbw
      have hz := B2.lt
      clear hu hv hg hp hq hbw B0 B1 B2
      have HD : Hid (0 < gk → ∀ w', Below w'.heap.size wr w' → True) := fun _ _ _ => trivial
      by_cases hq0 : 0 < (wordsOf gk).length
      · have HQ9 : Hid (0 < val (wordsOf gk)) := by
          rw [Hid, val_wordsOf]
          rcases Nat.eq_zero_or_pos gk with h | h
          · subst h; simp [wordsOf_zero] at hq0
          · exact h
        have HMM : Hid (p % gk < gk) := Nat.mod_lt _ (by have := HQ9.out; rwa [val_wordsOf] at this)
        have HLL : Hid ((wordsOf (p % gk)).length ≤ 1000000) := Nat.le_trans (length_mono (Nat.le_of_lt HMM.out)) Hq.out
        go_wp2_with fail
        refine (nat_Div wr _ _ (wordsOf p) (wordsOf gk) Hu.out Hv.out (by have := Hp.out; omega) (by have := Hq.out; omega) HQ9.out).mono ?_
        rintro e w2 ⟨vq, vr, rfl, hq2, hr2, hb2⟩
        rw [val_wordsOf, val_wordsOf] at hq2 hr2
        obtain ⟨A2, d2, rfl, -⟩ := hq2.form
        obtain ⟨A3, d3, rfl, -⟩ := hr2.form
        clear HA HB'
        have HQ2 := Lib.hid hq2
        have HR2 := Lib.hid hr2
        have HB2w := Lib.hid hb2
        have HV2 : Hid (RN w2 (.slice Av (wordsOf gk).length cv) gk) := Hv.out.below hb2 (Nat.le_refl _)
        have hz2 := hb2.size
        clear hq2 hr2 hb2 c0 c1 c2 f0 f1 f2
        obtain ⟨b0, b1, b2⟩ : Blk w2 w.heap.size 24 _ ∧ Blk w2 (w.heap.size + 1) 24 _ ∧ Blk w2 (w.heap.size + 1 + 1) 24 _ := ⟨HB0.out.below HB2w.out (by omega), HB1.out.below HB2w.out (by omega), HB2.out.below HB2w.out (by omega)⟩
        have c0 := b0.cell 0
        have c1 := b1.cell 0
        simp only [List.getElem?_cons_zero] at c0 c1
        have f0 := b0.frozen 0
        have f1 := b1.frozen 0
        dsimp only
        go_wp2_with fail
        refine wp_letter (fun w3 => Blk w3 w.heap.size 24 [.slice Au (wordsOf p).length cu] ∧ Blk w3 (w.heap.size + 1) 24 [.slice Av (wordsOf gk).length cv] ∧ Blk w3 (w.heap.size + 1 + 1) 24 [.slice none 0 0] ∧ Below w.heap.size w w3 ∧
            RN w3 (.slice A3 (wordsOf (p % gk)).length d3) (p % gk) ∧ RN w3 (.slice Av (wordsOf gk).length cv) gk ∧ Blk w3 (w2.heap.size + 1) 24 [.slice A3 (wordsOf (p % gk)).length d3]) ⟨(b0.alloc _).alloc _, (b1.alloc _).alloc _, (b2.alloc _).alloc _,
              ((below_after HBw.out (by omega) HB2w.out).alloc (by omega) _).alloc (by simp; omega) _,
              (HR2.out.below (((Below.refl _ _).alloc (Nat.le_refl _) _).alloc (by simp) _) (Nat.le_refl _)), (HV2.out.below (((Below.refl _ _).alloc (Nat.le_refl _) _).alloc (by simp) _) (Nat.le_refl _)), Blk.made _ 24 _ _ _ (by simp) rfl⟩ ?_
        clear b0 b1 b2 HQ2 HR2 HV2 HB2w HBw HB0 HB1 HB2 Hu Hv
        rintro w3 ⟨b0, b1, b2, hb3, hr3, hv3, b6⟩
        have c0 := b0.cell 0
        have c1 := b1.cell 0
        have c6 := b6.cell 0
        simp only [List.getElem?_cons_zero] at c0 c1 c6
        have f0 := b0.frozen 0
        have f1 := b1.frozen 0
        have H0 := Lib.hid b0
        have H1 := Lib.hid b1
        have H2 := Lib.hid b2
        have HB3 := Lib.hid hb3
        have HR3 := Lib.hid hr3
        have HV3 := Lib.hid hv3
        clear b0 b1 b2 hb3 hr3 hv3 b6
        go_region
        all_goals
          go_wp2_with fail
          go_roundg (p % gk)
          case measure => exact HMM.out
          case rel =>
            have e0 := H0.out.put 0 (.slice Av (wordsOf gk).length cv)
            have e1 := (H1.out.far ⟨w.heap.size, 0, none⟩ (.slice Av (wordsOf gk).length cv) (by simp)).put 0 (.slice A3 (wordsOf (p % gk)).length d3)
            have e2 := (H2.out.far ⟨w.heap.size, 0, none⟩ (.slice Av (wordsOf gk).length cv) (by simp; try omega)).far ⟨w.heap.size + 1, 0, none⟩ (.slice A3 (wordsOf (p % gk)).length d3) (by simp)
            have r1 : RN _ (.slice Av (wordsOf gk).length cv) gk := RN.far (HV3.out.far H0.out (by simp) 0 (.slice Av (wordsOf gk).length cv)) (H1.out.far ⟨w.heap.size, 0, none⟩ (.slice Av (wordsOf gk).length cv) (by simp)) (by simp) 0 (.slice A3 (wordsOf (p % gk)).length d3)
            have r2 : RN _ (.slice A3 (wordsOf (p % gk)).length d3) (p % gk) := RN.far (HR3.out.far H0.out (by simp) 0 (.slice Av (wordsOf gk).length cv)) (H1.out.far ⟨w.heap.size, 0, none⟩ (.slice Av (wordsOf gk).length cv) (by simp)) (by simp) 0 (.slice A3 (wordsOf (p % gk)).length d3)
            exact ⟨_, _, gk, p % gk, rfl, (e0.far _ _ (by simp)).drewN 1, e1.drewN 1, e2.drewN 1, r1.drewN 1, r2.drewN 1, by rw [← Hg.out, Nat.gcd_comm, ← Nat.gcd_rec gk p, Nat.gcd_comm], Hq.out, HLL.out, ((HB3.out.setCell (by simp) _).setCell (by simp) _).drew⟩
      · have e0 : gk = 0 := by
          rcases Nat.eq_zero_or_pos gk with h | h
          · exact h
          · exact absurd (List.length_pos_iff.2 (fun h2 => by rw [wordsOf_eq_nil] at h2; omega)) hq0
        subst e0
        have HG0 : Hid (p = Nat.gcd p0 q0) := by rw [Hid]; rw [← Hg.out, Nat.gcd_zero_right]
        go_wp2_with fail
        refine (clone_u32 wr _ _ Hu.out (by have := Hp.out; omega)).mono ?_
        rintro e w2 ⟨v2, rfl, hr2, hb2⟩
        rw [HG0.out] at hr2
        obtain ⟨A2, d2, rfl, -⟩ := hr2.form
        have b2 := HB2.out.below hb2 (by omega)
        have c2 := b2.cell 0
        simp only [List.getElem?_cons_zero] at c2
        have f2 := b2.frozen 0
        have HR2 := Lib.hid hr2
        have HQB := Lib.hid (below_after HBw.out (by omega) hb2)
        have HB22 := Lib.hid b2
        clear hr2 hb2 b2 c0 c1
        dsimp only
        go_wp2_with fail
        refine bodyPost_ret (v := .agg #[.slice A2 (wordsOf (Nat.gcd p0 q0)).length d2]) (by simp [results, Tryz.results140, go_sem, (HB22.out.put 0 (.slice A2 (wordsOf (Nat.gcd p0 q0)).length d2)).cell 0]; try rfl) rfl ?_
        rw [← HP0.out, ← HQ0.out]
        refine ⟨_, rfl, RN.far (show RN w2 _ (Nat.gcd p0 q0) from HR2.out) HB22.out (by simp) 0 _, HQB.out.setCell (by simp; omega) _⟩

end Go.Proofs.YtdgleeglndcjhaaGreatDoor
