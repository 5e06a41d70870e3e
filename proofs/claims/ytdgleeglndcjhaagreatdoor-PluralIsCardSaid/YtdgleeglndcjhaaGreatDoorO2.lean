/- Package oper: Value. -/
import Derived.Test.YtdgleeglndcjhaaGreatDoorO1
namespace Go.Proofs.YtdgleeglndcjhaaGreatDoor
open Go.RowKit
set_option linter.unusedVariables false
set_option linter.unusedSimpArgs false

/-- What a numeral shows: n is k / s; then i, v, w, f, t; all but v and w below 2 ^ m. -/
structure OpR (w : World) (b : Bool) (A : Option Addr) (n c : Nat) (A' : Option Addr) (n' c' : Nat) (iA : Option Addr) (il ic : Nat) (fA : Option Addr) (fl fc : Nat) (tA : Option Addr) (tl tc : Nat) (k s m i v u f t : Nat) : Prop where
  hn : RF w b A n c A' n' c' k s m
  hi : SN w iA il ic i
  hf : SN w fA fl fc f
  ht : SN w tA tl tc t
  hil : i < 2 ^ m
  hfl : f < 2 ^ m
  htl : t < 2 ^ m
  hv : v ≤ 1000
  hu : u ≤ 1000
theorem OpR.below {w w' : World} {b : Bool} {A A' iA fA tA : Option Addr} {n c n' c' il ic fl fc tl tc k s m i v u f t B : Nat} (h : OpR w b A n c A' n' c' iA il ic fA fl fc tA tl tc k s m i v u f t) (hb : Below B w w') (hB : w.heap.size ≤ B) : OpR w' b A n c A' n' c' iA il ic fA fl fc tA tl tc k s m i v u f t :=
  ⟨h.hn.below hb hB, h.hi.below hb hB, h.hf.below hb hB, h.ht.below hb hB, h.hil, h.hfl, h.htl, h.hv, h.hu⟩
/-- A letter's number, as a fraction. -/
def opVal (k s i v u f t : Nat) (l : Nat) : Nat × Nat :=
  if l = 110 then (k, s) else if l = 105 then (i, 1) else if l = 118 then (v, 1) else if l = 119 then (u, 1) else if l = 102 then (f, 1) else if l = 116 then (t, 1) else (0, 1)
/-- A fraction and some bool are returned. -/
def RetQO (e : Ending) (w' : World) (p : Int) (q k : Nat) : Prop := ∃ b A n c A' n' c' ok, e = .returned (.tuple #[.agg #[.bool b, .slice A n c, .slice A' n' c'], .bool ok]) ∧ RF w' b A n c A' n' c' p q k
set_option maxRecDepth 100000 in
set_option maxHeartbeats 2000000 in
theorem oper_Value (w : World) (b : Bool) (A A' iA fA tA : Option Addr) (n c n' c' il ic fl fc tl tc k s m i v u f t l : Nat) (h : OpR w b A n c A' n' c' iA il ic fA fl fc tA tl tc k s m i v u f t) (hm : 63 ≤ m) (hm2 : m ≤ 100000) :
    Calls Tryz.prog 92 #[.agg #[.bool b, .slice A n c, .slice A' n' c', .slice iA il ic, .int .i64 v, .int .i64 u, .slice fA fl fc, .slice tA tl tc], .int .u8 l] w fun e w' => RetQO e w' (opVal k s i v u f t l).1 (opVal k s i v u f t l).2 m ∧ Below w.heap.size w w' := by
  have HX := Lib.hid h
  have HM := Lib.hid hm
  have HM2 := Lib.hid hm2
  clear h hm hm2
  have HP : Hid ((opVal k s i v u f t l) = opVal k s i v u f t l) := rfl
  go_enter Tryz.func92, Tryz.ntmps92
  go_upto_region 1 with fail
  refine wp_letter (fun w1 => Blk w1 w.heap.size 39 [.bool b, .slice A n c, .slice A' n' c', .slice iA il ic, .int .i64 v, .int .i64 u, .slice fA fl fc, .slice tA tl tc] ∧ Blk w1 (w.heap.size + 1) 37 [.bool false, .slice none 0 0, .slice none 0 0] ∧ Below w.heap.size w w1) ⟨((Blk.made _ 39 _ _ _ (by simp) rfl).alloc _), (Blk.made _ 37 _ _ _ (by simp) rfl), (((Below.refl _ _).alloc (by simp; try omega) _).alloc (by simp; try omega) _)⟩ ?_
  rintro w1 ⟨b0, b1, hb⟩
  have k00 := b0.cell 0
  have k01 := b0.cell 1
  have k02 := b0.cell 2
  have k03 := b0.cell 3
  have k04 := b0.cell 4
  have k05 := b0.cell 5
  have k06 := b0.cell 6
  have k07 := b0.cell 7
  have k10 := b1.cell 0
  have k11 := b1.cell 1
  have k12 := b1.cell 2
  have f10 := b1.frozen 0
  have f11 := b1.frozen 1
  have f12 := b1.frozen 2
  simp only [List.getElem?_cons_zero, List.getElem?_cons_succ] at k00 k01 k02 k03 k04 k05 k06 k07 k10 k11 k12
  have HB := Lib.hid hb
  have H0 := Lib.hid b0
  have H1 := Lib.hid b1
  have hz := b1.lt
  clear hb b0 b1
  have HX1 := Lib.hid (HX.out.below HB.out (Nat.le_refl _))
  have HSt : Hid (Hold w1 (w.heap.size + 1) 37 3 w1) := Hold.start H1.out (by simp [No32])
  by_cases hl : l = 110
  · have eo : opVal k s i v u f t l = (k, s) := by subst hl; rfl
    have EO := Lib.hid eo
    subst hl
    clear eo
    go_wp2_with fail
    have hh := HSt.out
    have hf := hh.fill3 (.bool b) (.slice A n c) (.slice A' n' c')
    have hg := (((hh.set 0 (.bool b) (by simp)).set 1 (.slice A n c) (by simp)).set 2 (.slice A' n' c') (by simp))
    have T : ∀ {A0 : Option Addr} {m0 c0 k0 : Nat}, SN w1 A0 m0 c0 k0 → SN (((w1.setCell ⟨w.heap.size + 1, 0, none⟩ (.bool b)).setCell ⟨w.heap.size + 1, 1, none⟩ (.slice A n c)).setCell ⟨w.heap.size + 1, 2, none⟩ (.slice A' n' c')) A0 m0 c0 k0 := fun hs => (((hs.hset hh 0 (.bool b)).hset (hh.set 0 (.bool b) (by simp)) 1 (.slice A n c)).hset ((hh.set 0 (.bool b) (by simp)).set 1 (.slice A n c) (by simp)) 2 (.slice A' n' c'))
    have r0 := hf.cell 0
    have r1 := hf.cell 1
    have r2 := hf.cell 2
    generalize (((w1.setCell ⟨w.heap.size + 1, 0, none⟩ (.bool b)).setCell ⟨w.heap.size + 1, 1, none⟩ (.slice A n c)).setCell ⟨w.heap.size + 1, 2, none⟩ (.slice A' n' c')) = wf at *
    simp only [List.getElem?_cons_zero, List.getElem?_cons_succ] at r0 r1 r2
    refine bodyPost_ret (v := .tuple #[.agg #[.bool b, .slice A n c, .slice A' n' c'], .bool true]) (by simp [results, Tryz.results92, go_sem, r0, r1, r2]; try rfl) rfl ?_
    exact ⟨⟨_, _, _, _, _, _, _, _, rfl, by rw [EO.out]; exact (HX1.out.hn.map T)⟩, HB.out.trans (hg.below (by omega))⟩
  · have e110 : ((l : Int) == 110) = false := by rw [beq_eq_false_iff_ne]; omega
    have h110 := Lib.hid hl
    clear hl
    by_cases hl : l = 105
    · have eo : opVal k s i v u f t l = (i, 1) := by subst hl; rfl
      have EO := Lib.hid eo
      subst hl
      clear eo
      go_wp2_with fail
      refine (oper_whole _ iA il ic i m HX1.out.hi HX1.out.hil (by have := HM.out; omega)).mono ?_
      rintro e w2 ⟨⟨b2, A2, n2, c2, A3, n3, c3, rfl, hr⟩, hb2⟩
      have hh0 := HSt.out.call hb2
      clear k00 k01 k02 k03 k04 k05 k06 k07 k10 k11 k12 f10 f11 f12
      have k0 := hh0.cell 0 (by omega)
      have f0 := hh0.frozen 0
      have k1 := hh0.cell 1 (by omega)
      have f1 := hh0.frozen 1
      have k2 := hh0.cell 2 (by omega)
      have f2 := hh0.frozen 2
      dsimp only
      go_wp2_with fail
      have hh := (HSt.out.call hb2)
      have hf := hh.fill3 (.bool b2) (.slice A2 n2 c2) (.slice A3 n3 c3)
      have hg := (((hh.set 0 (.bool b2) (by simp)).set 1 (.slice A2 n2 c2) (by simp)).set 2 (.slice A3 n3 c3) (by simp))
      have T : ∀ {A0 : Option Addr} {m0 c0 k0 : Nat}, SN w2 A0 m0 c0 k0 → SN (((w2.setCell ⟨w.heap.size + 1, 0, none⟩ (.bool b2)).setCell ⟨w.heap.size + 1, 1, none⟩ (.slice A2 n2 c2)).setCell ⟨w.heap.size + 1, 2, none⟩ (.slice A3 n3 c3)) A0 m0 c0 k0 := fun hs => (((hs.hset hh 0 (.bool b2)).hset (hh.set 0 (.bool b2) (by simp)) 1 (.slice A2 n2 c2)).hset ((hh.set 0 (.bool b2) (by simp)).set 1 (.slice A2 n2 c2) (by simp)) 2 (.slice A3 n3 c3))
      have r0 := hf.cell 0
      have r1 := hf.cell 1
      have r2 := hf.cell 2
      generalize (((w2.setCell ⟨w.heap.size + 1, 0, none⟩ (.bool b2)).setCell ⟨w.heap.size + 1, 1, none⟩ (.slice A2 n2 c2)).setCell ⟨w.heap.size + 1, 2, none⟩ (.slice A3 n3 c3)) = wf at *
      simp only [List.getElem?_cons_zero, List.getElem?_cons_succ] at r0 r1 r2
      refine bodyPost_ret (v := .tuple #[.agg #[.bool b2, .slice A2 n2 c2, .slice A3 n3 c3], .bool true]) (by simp [results, Tryz.results92, go_sem, r0, r1, r2]; try rfl) rfl ?_
      exact ⟨⟨_, _, _, _, _, _, _, _, rfl, by rw [EO.out]; exact (hr.map T)⟩, HB.out.trans (hg.below (by omega))⟩
    · have e105 : ((l : Int) == 105) = false := by rw [beq_eq_false_iff_ne]; omega
      have h105 := Lib.hid hl
      clear hl
      by_cases hl : l = 118
      · have eo : opVal k s i v u f t l = (v, 1) := by subst hl; rfl
        have EO := Lib.hid eo
        subst hl
        clear eo
        go_wp2_with fail
        refine (rat_Int _ v (by have := HX1.out.hv; omega)).mono ?_
        rintro e w2 ⟨⟨b2, A2, n2, c2, A3, n3, c3, rfl, hr⟩, hb2⟩
        have hh0 := HSt.out.call hb2
        clear k00 k01 k02 k03 k04 k05 k06 k07 k10 k11 k12 f10 f11 f12
        have k0 := hh0.cell 0 (by omega)
        have f0 := hh0.frozen 0
        have k1 := hh0.cell 1 (by omega)
        have f1 := hh0.frozen 1
        have k2 := hh0.cell 2 (by omega)
        have f2 := hh0.frozen 2
        dsimp only
        go_wp2_with fail
        have hh := (HSt.out.call hb2)
        have hf := hh.fill3 (.bool b2) (.slice A2 n2 c2) (.slice A3 n3 c3)
        have hg := (((hh.set 0 (.bool b2) (by simp)).set 1 (.slice A2 n2 c2) (by simp)).set 2 (.slice A3 n3 c3) (by simp))
        have T : ∀ {A0 : Option Addr} {m0 c0 k0 : Nat}, SN w2 A0 m0 c0 k0 → SN (((w2.setCell ⟨w.heap.size + 1, 0, none⟩ (.bool b2)).setCell ⟨w.heap.size + 1, 1, none⟩ (.slice A2 n2 c2)).setCell ⟨w.heap.size + 1, 2, none⟩ (.slice A3 n3 c3)) A0 m0 c0 k0 := fun hs => (((hs.hset hh 0 (.bool b2)).hset (hh.set 0 (.bool b2) (by simp)) 1 (.slice A2 n2 c2)).hset ((hh.set 0 (.bool b2) (by simp)).set 1 (.slice A2 n2 c2) (by simp)) 2 (.slice A3 n3 c3))
        have r0 := hf.cell 0
        have r1 := hf.cell 1
        have r2 := hf.cell 2
        generalize (((w2.setCell ⟨w.heap.size + 1, 0, none⟩ (.bool b2)).setCell ⟨w.heap.size + 1, 1, none⟩ (.slice A2 n2 c2)).setCell ⟨w.heap.size + 1, 2, none⟩ (.slice A3 n3 c3)) = wf at *
        simp only [List.getElem?_cons_zero, List.getElem?_cons_succ] at r0 r1 r2
        refine bodyPost_ret (v := .tuple #[.agg #[.bool b2, .slice A2 n2 c2, .slice A3 n3 c3], .bool true]) (by simp [results, Tryz.results92, go_sem, r0, r1, r2]; try rfl) rfl ?_
        exact ⟨⟨_, _, _, _, _, _, _, _, rfl, by rw [EO.out]; exact ((hr.mono HM.out).map T)⟩, HB.out.trans (hg.below (by omega))⟩
      · have e118 : ((l : Int) == 118) = false := by rw [beq_eq_false_iff_ne]; omega
        have h118 := Lib.hid hl
        clear hl
        by_cases hl : l = 119
        · have eo : opVal k s i v u f t l = (u, 1) := by subst hl; rfl
          have EO := Lib.hid eo
          subst hl
          clear eo
          go_wp2_with fail
          refine (rat_Int _ u (by have := HX1.out.hu; omega)).mono ?_
          rintro e w2 ⟨⟨b2, A2, n2, c2, A3, n3, c3, rfl, hr⟩, hb2⟩
          have hh0 := HSt.out.call hb2
          clear k00 k01 k02 k03 k04 k05 k06 k07 k10 k11 k12 f10 f11 f12
          have k0 := hh0.cell 0 (by omega)
          have f0 := hh0.frozen 0
          have k1 := hh0.cell 1 (by omega)
          have f1 := hh0.frozen 1
          have k2 := hh0.cell 2 (by omega)
          have f2 := hh0.frozen 2
          dsimp only
          go_wp2_with fail
          have hh := (HSt.out.call hb2)
          have hf := hh.fill3 (.bool b2) (.slice A2 n2 c2) (.slice A3 n3 c3)
          have hg := (((hh.set 0 (.bool b2) (by simp)).set 1 (.slice A2 n2 c2) (by simp)).set 2 (.slice A3 n3 c3) (by simp))
          have T : ∀ {A0 : Option Addr} {m0 c0 k0 : Nat}, SN w2 A0 m0 c0 k0 → SN (((w2.setCell ⟨w.heap.size + 1, 0, none⟩ (.bool b2)).setCell ⟨w.heap.size + 1, 1, none⟩ (.slice A2 n2 c2)).setCell ⟨w.heap.size + 1, 2, none⟩ (.slice A3 n3 c3)) A0 m0 c0 k0 := fun hs => (((hs.hset hh 0 (.bool b2)).hset (hh.set 0 (.bool b2) (by simp)) 1 (.slice A2 n2 c2)).hset ((hh.set 0 (.bool b2) (by simp)).set 1 (.slice A2 n2 c2) (by simp)) 2 (.slice A3 n3 c3))
          have r0 := hf.cell 0
          have r1 := hf.cell 1
          have r2 := hf.cell 2
          generalize (((w2.setCell ⟨w.heap.size + 1, 0, none⟩ (.bool b2)).setCell ⟨w.heap.size + 1, 1, none⟩ (.slice A2 n2 c2)).setCell ⟨w.heap.size + 1, 2, none⟩ (.slice A3 n3 c3)) = wf at *
          simp only [List.getElem?_cons_zero, List.getElem?_cons_succ] at r0 r1 r2
          refine bodyPost_ret (v := .tuple #[.agg #[.bool b2, .slice A2 n2 c2, .slice A3 n3 c3], .bool true]) (by simp [results, Tryz.results92, go_sem, r0, r1, r2]; try rfl) rfl ?_
          exact ⟨⟨_, _, _, _, _, _, _, _, rfl, by rw [EO.out]; exact ((hr.mono HM.out).map T)⟩, HB.out.trans (hg.below (by omega))⟩
        · have e119 : ((l : Int) == 119) = false := by rw [beq_eq_false_iff_ne]; omega
          have h119 := Lib.hid hl
          clear hl
          by_cases hl : l = 102
          · have eo : opVal k s i v u f t l = (f, 1) := by subst hl; rfl
            have EO := Lib.hid eo
            subst hl
            clear eo
            go_wp2_with fail
            refine (oper_whole _ fA fl fc f m HX1.out.hf HX1.out.hfl (by have := HM.out; omega)).mono ?_
            rintro e w2 ⟨⟨b2, A2, n2, c2, A3, n3, c3, rfl, hr⟩, hb2⟩
            have hh0 := HSt.out.call hb2
            clear k00 k01 k02 k03 k04 k05 k06 k07 k10 k11 k12 f10 f11 f12
            have k0 := hh0.cell 0 (by omega)
            have f0 := hh0.frozen 0
            have k1 := hh0.cell 1 (by omega)
            have f1 := hh0.frozen 1
            have k2 := hh0.cell 2 (by omega)
            have f2 := hh0.frozen 2
            dsimp only
            go_wp2_with fail
            have hh := (HSt.out.call hb2)
            have hf := hh.fill3 (.bool b2) (.slice A2 n2 c2) (.slice A3 n3 c3)
            have hg := (((hh.set 0 (.bool b2) (by simp)).set 1 (.slice A2 n2 c2) (by simp)).set 2 (.slice A3 n3 c3) (by simp))
            have T : ∀ {A0 : Option Addr} {m0 c0 k0 : Nat}, SN w2 A0 m0 c0 k0 → SN (((w2.setCell ⟨w.heap.size + 1, 0, none⟩ (.bool b2)).setCell ⟨w.heap.size + 1, 1, none⟩ (.slice A2 n2 c2)).setCell ⟨w.heap.size + 1, 2, none⟩ (.slice A3 n3 c3)) A0 m0 c0 k0 := fun hs => (((hs.hset hh 0 (.bool b2)).hset (hh.set 0 (.bool b2) (by simp)) 1 (.slice A2 n2 c2)).hset ((hh.set 0 (.bool b2) (by simp)).set 1 (.slice A2 n2 c2) (by simp)) 2 (.slice A3 n3 c3))
            have r0 := hf.cell 0
            have r1 := hf.cell 1
            have r2 := hf.cell 2
            generalize (((w2.setCell ⟨w.heap.size + 1, 0, none⟩ (.bool b2)).setCell ⟨w.heap.size + 1, 1, none⟩ (.slice A2 n2 c2)).setCell ⟨w.heap.size + 1, 2, none⟩ (.slice A3 n3 c3)) = wf at *
            simp only [List.getElem?_cons_zero, List.getElem?_cons_succ] at r0 r1 r2
            refine bodyPost_ret (v := .tuple #[.agg #[.bool b2, .slice A2 n2 c2, .slice A3 n3 c3], .bool true]) (by simp [results, Tryz.results92, go_sem, r0, r1, r2]; try rfl) rfl ?_
            exact ⟨⟨_, _, _, _, _, _, _, _, rfl, by rw [EO.out]; exact (hr.map T)⟩, HB.out.trans (hg.below (by omega))⟩
          · have e102 : ((l : Int) == 102) = false := by rw [beq_eq_false_iff_ne]; omega
            have h102 := Lib.hid hl
            clear hl
            by_cases hl : l = 116
            · have eo : opVal k s i v u f t l = (t, 1) := by subst hl; rfl
              have EO := Lib.hid eo
              subst hl
              clear eo
              go_wp2_with fail
              refine (oper_whole _ tA tl tc t m HX1.out.ht HX1.out.htl (by have := HM.out; omega)).mono ?_
              rintro e w2 ⟨⟨b2, A2, n2, c2, A3, n3, c3, rfl, hr⟩, hb2⟩
              have hh0 := HSt.out.call hb2
              clear k00 k01 k02 k03 k04 k05 k06 k07 k10 k11 k12 f10 f11 f12
              have k0 := hh0.cell 0 (by omega)
              have f0 := hh0.frozen 0
              have k1 := hh0.cell 1 (by omega)
              have f1 := hh0.frozen 1
              have k2 := hh0.cell 2 (by omega)
              have f2 := hh0.frozen 2
              dsimp only
              go_wp2_with fail
              have hh := (HSt.out.call hb2)
              have hf := hh.fill3 (.bool b2) (.slice A2 n2 c2) (.slice A3 n3 c3)
              have hg := (((hh.set 0 (.bool b2) (by simp)).set 1 (.slice A2 n2 c2) (by simp)).set 2 (.slice A3 n3 c3) (by simp))
              have T : ∀ {A0 : Option Addr} {m0 c0 k0 : Nat}, SN w2 A0 m0 c0 k0 → SN (((w2.setCell ⟨w.heap.size + 1, 0, none⟩ (.bool b2)).setCell ⟨w.heap.size + 1, 1, none⟩ (.slice A2 n2 c2)).setCell ⟨w.heap.size + 1, 2, none⟩ (.slice A3 n3 c3)) A0 m0 c0 k0 := fun hs => (((hs.hset hh 0 (.bool b2)).hset (hh.set 0 (.bool b2) (by simp)) 1 (.slice A2 n2 c2)).hset ((hh.set 0 (.bool b2) (by simp)).set 1 (.slice A2 n2 c2) (by simp)) 2 (.slice A3 n3 c3))
              have r0 := hf.cell 0
              have r1 := hf.cell 1
              have r2 := hf.cell 2
              generalize (((w2.setCell ⟨w.heap.size + 1, 0, none⟩ (.bool b2)).setCell ⟨w.heap.size + 1, 1, none⟩ (.slice A2 n2 c2)).setCell ⟨w.heap.size + 1, 2, none⟩ (.slice A3 n3 c3)) = wf at *
              simp only [List.getElem?_cons_zero, List.getElem?_cons_succ] at r0 r1 r2
              refine bodyPost_ret (v := .tuple #[.agg #[.bool b2, .slice A2 n2 c2, .slice A3 n3 c3], .bool true]) (by simp [results, Tryz.results92, go_sem, r0, r1, r2]; try rfl) rfl ?_
              exact ⟨⟨_, _, _, _, _, _, _, _, rfl, by rw [EO.out]; exact (hr.map T)⟩, HB.out.trans (hg.below (by omega))⟩
            · have e116 : ((l : Int) == 116) = false := by rw [beq_eq_false_iff_ne]; omega
              have h116 := Lib.hid hl
              clear hl
              by_cases hl : l = 101
              · have eo : opVal k s i v u f t l = (0, 1) := by subst hl; rfl
                have EO := Lib.hid eo
                subst hl
                clear eo
                go_wp2_with fail
                refine (rat_Int _ 0 (by omega)).mono ?_
                rintro e w2 ⟨⟨b2, A2, n2, c2, A3, n3, c3, rfl, hr⟩, hb2⟩
                have hh0 := HSt.out.call hb2
                clear k00 k01 k02 k03 k04 k05 k06 k07 k10 k11 k12 f10 f11 f12
                have k0 := hh0.cell 0 (by omega)
                have f0 := hh0.frozen 0
                have k1 := hh0.cell 1 (by omega)
                have f1 := hh0.frozen 1
                have k2 := hh0.cell 2 (by omega)
                have f2 := hh0.frozen 2
                dsimp only
                go_wp2_with fail
                have hh := (HSt.out.call hb2)
                have hf := hh.fill3 (.bool b2) (.slice A2 n2 c2) (.slice A3 n3 c3)
                have hg := (((hh.set 0 (.bool b2) (by simp)).set 1 (.slice A2 n2 c2) (by simp)).set 2 (.slice A3 n3 c3) (by simp))
                have T : ∀ {A0 : Option Addr} {m0 c0 k0 : Nat}, SN w2 A0 m0 c0 k0 → SN (((w2.setCell ⟨w.heap.size + 1, 0, none⟩ (.bool b2)).setCell ⟨w.heap.size + 1, 1, none⟩ (.slice A2 n2 c2)).setCell ⟨w.heap.size + 1, 2, none⟩ (.slice A3 n3 c3)) A0 m0 c0 k0 := fun hs => (((hs.hset hh 0 (.bool b2)).hset (hh.set 0 (.bool b2) (by simp)) 1 (.slice A2 n2 c2)).hset ((hh.set 0 (.bool b2) (by simp)).set 1 (.slice A2 n2 c2) (by simp)) 2 (.slice A3 n3 c3))
                have r0 := hf.cell 0
                have r1 := hf.cell 1
                have r2 := hf.cell 2
                generalize (((w2.setCell ⟨w.heap.size + 1, 0, none⟩ (.bool b2)).setCell ⟨w.heap.size + 1, 1, none⟩ (.slice A2 n2 c2)).setCell ⟨w.heap.size + 1, 2, none⟩ (.slice A3 n3 c3)) = wf at *
                simp only [List.getElem?_cons_zero, List.getElem?_cons_succ] at r0 r1 r2
                refine bodyPost_ret (v := .tuple #[.agg #[.bool b2, .slice A2 n2 c2, .slice A3 n3 c3], .bool true]) (by simp [results, Tryz.results92, go_sem, r0, r1, r2]; try rfl) rfl ?_
                exact ⟨⟨_, _, _, _, _, _, _, _, rfl, by rw [EO.out]; exact ((hr.mono HM.out).map T)⟩, HB.out.trans (hg.below (by omega))⟩
              · have e101 : ((l : Int) == 101) = false := by rw [beq_eq_false_iff_ne]; omega
                have h101 := Lib.hid hl
                clear hl
                have eo : opVal k s i v u f t l = (0, 1) := by unfold opVal; rw [if_neg h110.out, if_neg h105.out, if_neg h118.out, if_neg h119.out, if_neg h102.out, if_neg h116.out]
                have EO := Lib.hid eo
                clear eo
                go_wp2_with fail
                refine (rat_Int _ 0 (by omega)).mono ?_
                rintro e w2 ⟨⟨b2, A2, n2, c2, A3, n3, c3, rfl, hr⟩, hb2⟩
                have hh0 := HSt.out.call hb2
                clear k00 k01 k02 k03 k04 k05 k06 k07 k10 k11 k12 f10 f11 f12
                have k0 := hh0.cell 0 (by omega)
                have f0 := hh0.frozen 0
                have k1 := hh0.cell 1 (by omega)
                have f1 := hh0.frozen 1
                have k2 := hh0.cell 2 (by omega)
                have f2 := hh0.frozen 2
                dsimp only
                go_wp2_with fail
                have hh := (HSt.out.call hb2)
                have hf := hh.fill3 (.bool b2) (.slice A2 n2 c2) (.slice A3 n3 c3)
                have hg := (((hh.set 0 (.bool b2) (by simp)).set 1 (.slice A2 n2 c2) (by simp)).set 2 (.slice A3 n3 c3) (by simp))
                have T : ∀ {A0 : Option Addr} {m0 c0 k0 : Nat}, SN w2 A0 m0 c0 k0 → SN (((w2.setCell ⟨w.heap.size + 1, 0, none⟩ (.bool b2)).setCell ⟨w.heap.size + 1, 1, none⟩ (.slice A2 n2 c2)).setCell ⟨w.heap.size + 1, 2, none⟩ (.slice A3 n3 c3)) A0 m0 c0 k0 := fun hs => (((hs.hset hh 0 (.bool b2)).hset (hh.set 0 (.bool b2) (by simp)) 1 (.slice A2 n2 c2)).hset ((hh.set 0 (.bool b2) (by simp)).set 1 (.slice A2 n2 c2) (by simp)) 2 (.slice A3 n3 c3))
                have r0 := hf.cell 0
                have r1 := hf.cell 1
                have r2 := hf.cell 2
                generalize (((w2.setCell ⟨w.heap.size + 1, 0, none⟩ (.bool b2)).setCell ⟨w.heap.size + 1, 1, none⟩ (.slice A2 n2 c2)).setCell ⟨w.heap.size + 1, 2, none⟩ (.slice A3 n3 c3)) = wf at *
                simp only [List.getElem?_cons_zero, List.getElem?_cons_succ] at r0 r1 r2
                refine bodyPost_ret (v := .tuple #[.agg #[.bool b2, .slice A2 n2 c2, .slice A3 n3 c3], .bool false]) (by simp [results, Tryz.results92, go_sem, r0, r1, r2]; try rfl) rfl ?_
                exact ⟨⟨_, _, _, _, _, _, _, _, rfl, by rw [EO.out]; exact ((hr.mono HM.out).map T)⟩, HB.out.trans (hg.below (by omega))⟩
end Go.Proofs.YtdgleeglndcjhaaGreatDoor
