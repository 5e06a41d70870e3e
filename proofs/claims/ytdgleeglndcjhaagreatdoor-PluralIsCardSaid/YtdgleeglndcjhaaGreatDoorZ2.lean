/- Package nat told in parts, and package num: numbers with a sign. -/
import Derived.Test.YtdgleeglndcjhaaGreatDoorZ1
import Derived.Deep.RegionWith
namespace Go.Proofs.YtdgleeglndcjhaaGreatDoor
open Go.RowKit
set_option linter.unusedVariables false

theorem big_len {k m : Nat} (h : Big k) (hm : 1000000 ≤ m) : (wordsOf k).length ≤ m := Nat.le_trans h hm

theorem natAdd (w : World) (A A' : Option Addr) (n c n' c' a b : Nat) (hx : SN w A n c a) (hy : SN w A' n' c' b) (ha : Big a) (hb : Big b) :
    Calls Tryz.prog 202 #[.agg #[.slice A n c], .agg #[.slice A' n' c']] w fun e w' => RetN e w' (a + b) ∧ Below w.heap.size w w' := by

  refine (nat_Add w _ _ (wordsOf a) (wordsOf b) hx hy (big_len ha (by omega)) (big_len hb (by omega))).mono ?_
  rintro e w' ⟨v, rfl, hr, hb⟩
  rw [val_wordsOf, val_wordsOf] at hr
  obtain ⟨A1, n1, c1, rfl, hr⟩ := RN.sn hr
  exact ⟨⟨_, _, _, rfl, hr⟩, hb⟩

theorem natMul (w : World) (A A' : Option Addr) (n c n' c' a b : Nat) (hx : SN w A n c a) (hy : SN w A' n' c' b) (ha : Big a) (hb : Big b) :
    Calls Tryz.prog 149 #[.agg #[.slice A n c], .agg #[.slice A' n' c']] w fun e w' => RetN e w' (a * b) ∧ Below w.heap.size w w' := by

  refine (nat_Mul w _ _ (wordsOf a) (wordsOf b) hx hy (big_len ha (by omega)) (big_len hb (by omega))).mono ?_
  rintro e w' ⟨v, rfl, hr, hb⟩
  rw [val_wordsOf, val_wordsOf] at hr
  obtain ⟨A1, n1, c1, rfl, hr⟩ := RN.sn hr
  exact ⟨⟨_, _, _, rfl, hr⟩, hb⟩

theorem natGcd (w : World) (A A' : Option Addr) (n c n' c' a b : Nat) (hx : SN w A n c a) (hy : SN w A' n' c' b) (ha : Big a) (hb : Big b) :
    Calls Tryz.prog 140 #[.agg #[.slice A n c], .agg #[.slice A' n' c']] w fun e w' => RetN e w' (Nat.gcd a b) ∧ Below w.heap.size w w' := by

  refine (nat_Gcd w _ _ (wordsOf a) (wordsOf b) hx hy ha hb).mono ?_
  rintro e w' ⟨v, rfl, hr, hb⟩
  rw [val_wordsOf, val_wordsOf] at hr
  obtain ⟨A1, n1, c1, rfl, hr⟩ := RN.sn hr
  exact ⟨⟨_, _, _, rfl, hr⟩, hb⟩

/-- A number and true are returned. -/
def RetNB (e : Ending) (w' : World) (k : Nat) : Prop := ∃ A n c, e = .returned (.tuple #[.agg #[.slice A n c], .bool true]) ∧ SN w' A n c k
/-- Quotient, rest and true are returned. -/
def RetNN (e : Ending) (w' : World) (q r : Nat) : Prop := ∃ A n c A' n' c', e = .returned (.tuple #[.agg #[.slice A n c], .agg #[.slice A' n' c'], .bool true]) ∧ SN w' A n c q ∧ SN w' A' n' c' r

theorem natSub (w : World) (A A' : Option Addr) (n c n' c' a b : Nat) (hx : SN w A n c a) (hy : SN w A' n' c' b) (ha : Big a) (hb : Big b) (hle : b ≤ a) :
    Calls Tryz.prog 203 #[.agg #[.slice A n c], .agg #[.slice A' n' c']] w fun e w' => RetNB e w' (a - b) ∧ Below w.heap.size w w' := by

  refine (nat_Sub w _ _ (wordsOf a) (wordsOf b) hx hy (big_len ha (by omega)) (big_len hb (by omega)) (by rwa [val_wordsOf, val_wordsOf])).mono ?_
  rintro e w' ⟨v, rfl, hr, hb⟩
  rw [val_wordsOf, val_wordsOf] at hr
  obtain ⟨A1, n1, c1, rfl, hr⟩ := RN.sn hr
  exact ⟨⟨_, _, _, rfl, hr⟩, hb⟩

theorem natSubNo (w : World) (A A' : Option Addr) (n c n' c' a b : Nat) (hx : SN w A n c a) (hy : SN w A' n' c' b) (ha : Big a) (hb : Big b) (hlt : a < b) :
    Calls Tryz.prog 203 #[.agg #[.slice A n c], .agg #[.slice A' n' c']] w fun e w' => e = .returned (.tuple #[.agg #[.slice none 0 0], .bool false]) ∧ Below w.heap.size w w' := by

  exact nat_Sub_no w _ _ (wordsOf a) (wordsOf b) hx hy (big_len ha (by omega)) (big_len hb (by omega)) (by rwa [val_wordsOf, val_wordsOf])

theorem natDiv (w : World) (A A' : Option Addr) (n c n' c' a b : Nat) (hx : SN w A n c a) (hy : SN w A' n' c' b) (ha : Big a) (hb : Big b) (hb0 : 0 < b) :
    Calls Tryz.prog 86 #[.agg #[.slice A n c], .agg #[.slice A' n' c']] w fun e w' => RetNN e w' (a / b) (a % b) ∧ Below w.heap.size w w' := by

  refine (nat_Div w _ _ (wordsOf a) (wordsOf b) hx hy (big_len ha (by omega)) (big_len hb (by omega)) (by rwa [val_wordsOf])).mono ?_
  rintro e w' ⟨v, u, rfl, hr, hu, hb⟩
  rw [val_wordsOf, val_wordsOf] at hr hu
  obtain ⟨A1, n1, c1, rfl, hr⟩ := RN.sn hr
  obtain ⟨A2, n2, c2, rfl, hu⟩ := RN.sn hu
  exact ⟨⟨_, _, _, _, _, _, rfl, hr, hu⟩, hb⟩

theorem natOf (w : World) (n : Nat) (hn : n < 18446744073709551616) :
    Calls Tryz.prog 18 #[.int .u64 n] w fun e w' => RetN e w' n ∧ Below w.heap.size w w' := by
  refine (nat_Of w n hn).mono ?_
  rintro e w' ⟨v, rfl, hr, hb⟩
  obtain ⟨A1, n1, c1, rfl, hr⟩ := RN.sn hr
  exact ⟨⟨_, _, _, rfl, hr⟩, hb⟩

theorem zmul {b b' : Bool} {x y : Int} (h : b = decide (x < 0)) (h' : b' = decide (y < 0)) : (if (!(b == b')) = true then -((x.natAbs * y.natAbs : Nat) : Int) else ((x.natAbs * y.natAbs : Nat) : Int)) = x * y := by
  subst h; subst h'
  by_cases hx : x < 0 <;> by_cases hy : y < 0 <;> simp only [hx, hy, decide_true, decide_false] <;> simp
  · rw [show (x.natAbs : Int) = -x by omega, show (y.natAbs : Int) = -y by omega, Int.neg_mul_neg]
  · rw [show (x.natAbs : Int) = -x by omega, show (y.natAbs : Int) = y by omega, Int.neg_mul, Int.neg_neg]
  · rw [show (x.natAbs : Int) = x by omega, show (y.natAbs : Int) = -y by omega, Int.mul_neg, Int.neg_neg]
  · rw [show (x.natAbs : Int) = x by omega, show (y.natAbs : Int) = y by omega]

set_option maxRecDepth 100000 in
theorem num_made (w : World) (b : Bool) (A : Option Addr) (n c k : Nat) (h : SN w A n c k) (hk : Big k) :
    Calls Tryz.prog 200 #[.bool b, .agg #[.slice A n c]] w fun e w' => RetZ e w' (if b then -(k : Int) else k) ∧ Below w.heap.size w w' := by
  have HX := Lib.hid h
  have HK := Lib.hid hk
  clear h hk
  go_enter Tryz.func200, Tryz.ntmps200
  go_wp2_with fail
  have BB : Below w.heap.size w ((w.alloc (.cells #[.slice A n c] 24)).alloc (.cells #[.bool false, .slice none 0 0] 35)) := ((Below.refl _ _).alloc (Nat.le_refl _) _).alloc (by simp) _
  have B0 : Blk ((w.alloc (.cells #[.slice A n c] 24)).alloc (.cells #[.bool false, .slice none 0 0] 35)) w.heap.size 24 [.slice A n c] := (Blk.made w 24 _ _ _ rfl rfl).alloc _
  have B1 : Blk ((w.alloc (.cells #[.slice A n c] 24)).alloc (.cells #[.bool false, .slice none 0 0] 35)) (w.heap.size + 1) 35 [.bool false, .slice none 0 0] := Blk.made _ 35 _ _ _ (by simp) rfl
  refine (nat_Add _ _ _ (wordsOf k) (wordsOf 0) (HX.out.below BB (Nat.le_refl _)) (SN.zero _ _ _) (Nat.le_trans HK.out (by omega)) (by simp [wordsOf_zero])).mono ?_
  rintro e w1 ⟨v, rfl, hr, hb⟩
  rw [val_wordsOf, val_wordsOf, Nat.add_zero] at hr
  obtain ⟨A1, n1, c1, rfl, hr⟩ := RN.sn hr
  replace B0 := B0.below hb B0.lt
  replace B1 := B1.below hb B1.lt
  have c0 := B0.cell 0
  have f0 := B0.frozen 0
  simp only [List.getElem?_cons_zero] at c0
  have H0 := Lib.hid B0
  have H1 := Lib.hid B1
  have HR := Lib.hid hr
  have HB := Lib.hid (BB.trans (hb.mono BB.size))
  clear B0 B1 hr hb BB
  dsimp only
  go_wp2_with fail
  refine wp_letter (fun w2 => Blk w2 w.heap.size 24 [.slice A1 n1 c1] ∧ Blk w2 (w.heap.size + 1) 35 [.bool false, .slice none 0 0] ∧ SN w2 A1 n1 c1 k ∧ Below w.heap.size w w2) ⟨H0.out.put 0 _, H1.out.far _ _ (by simp), HR.out.far H0.out (by simp) 0 _, HB.out.setCell (by simp) _⟩ ?_
  clear H0 H1 HR HB c0 f0
  rintro w2 ⟨b0, b1, hr, hb⟩
  have k0 := b0.cell 0
  have k1 := b1.cell 0
  have k2 := b1.cell 1
  have f1 := b1.frozen 0
  have f2 := b1.frozen 1
  simp only [List.getElem?_cons_zero, List.getElem?_cons_succ] at k0 k1 k2
  have H0 := Lib.hid b0
  have H1 := Lib.hid b1
  have HR := Lib.hid hr
  have HB := Lib.hid hb
  have hz := b1.lt
  clear b0 b1 hr hb
  have HKK : Hid (∀ w', Hold w2 (w.heap.size + 1) 35 2 w' → w'.cell? ⟨w.heap.size, 0, none⟩ = some (.slice A1 n1 c1) ∧ w'.cell? ⟨w.heap.size + 1, 0, none⟩ = some (cellAt w' ⟨w.heap.size + 1, 0, none⟩) ∧ w'.cell? ⟨w.heap.size + 1, 1, none⟩ = some (cellAt w' ⟨w.heap.size + 1, 1, none⟩) ∧ w'.frozen? ⟨w.heap.size + 1, 0, none⟩ = false ∧ w'.frozen? ⟨w.heap.size + 1, 1, none⟩ = false ∧ Hold w2 (w.heap.size + 1) 35 2 w') := fun w' h => ⟨(h.blk H0.out (by omega)).cell 0, h.cell 0 (by omega), h.cell 1 (by omega), h.frozen 0, h.frozen 1, h⟩
  have HSt : Hid (Hold w2 (w.heap.size + 1) 35 2 w2) := Hold.start H1.out (by simp [No32])
  cases b with
  | true =>
    clear k1 k2 f1 f2
    go_region_held3 (fun w' => w'.cell? ⟨w.heap.size, 0, none⟩ = some (.slice A1 n1 c1) ∧ w'.cell? ⟨w.heap.size + 1, 0, none⟩ = some (cellAt w' ⟨w.heap.size + 1, 0, none⟩) ∧ w'.cell? ⟨w.heap.size + 1, 1, none⟩ = some (cellAt w' ⟨w.heap.size + 1, 1, none⟩) ∧ w'.frozen? ⟨w.heap.size + 1, 0, none⟩ = false ∧ w'.frozen? ⟨w.heap.size + 1, 1, none⟩ = false ∧ Hold w2 (w.heap.size + 1) 35 2 w')
      (first | exact HKK.out _ HSt.out.drew | (go_split_ands; first | exact HKK.out _ (Hold.call ‹Hold w2 (w.heap.size + 1) 35 2 _› hb3) | exact HKK.out _ ((‹Hold w2 (w.heap.size + 1) 35 2 _›.set 0 _ (by simp)).set 1 _ (by simp))))
      (first | ((with_reducible refine (num_zero _ A1 n1 c1 k ?_ HK.out).mono ?_); (refine Hold.sn (W := w2) (g := w.heap.size + 1) (t := 35) (n := 2) ?_ HR.out; (go_split_ands; assumption)); rintro e w3 ⟨rfl, hb3⟩))
    have hh : Hold w2 (w.heap.size + 1) 35 2 w3 := HSt.out.drew.call hb3
    have hf := hh.fill2 (.bool (!decide (k = 0))) (.slice A1 n1 c1)
    have r0 := hf.cell 0
    have r1 := hf.cell 1
    have hg := (hh.set 0 (.bool (!decide (k = 0))) (by simp) |>.set 1 (.slice A1 n1 c1) (by simp))
    generalize ((w3.setCell ⟨w.heap.size + 1, 0, none⟩ (.bool (!decide (k = 0)))).setCell ⟨w.heap.size + 1, 1, none⟩ (.slice A1 n1 c1)) = wf at *
    simp only [List.getElem?_cons_zero, List.getElem?_cons_succ] at r0 r1
    go_wp2
    refine bodyPost_ret (v := .agg #[.bool (!decide (k = 0)), .slice A1 n1 c1]) (by simp [results, Tryz.results200, go_sem, r0, r1]; try rfl) rfl ?_
    exact ⟨⟨_, _, _, _, rfl, ⟨by simp <;> by_cases hk : k = 0 <;> simp [hk] <;> omega, hg.sn (by simpa using HR.out)⟩⟩, HB.out.trans (hg.below (by omega))⟩
  | false =>
    go_region
    have hf := (HSt.out.fill2 (.bool false) (.slice A1 n1 c1)).drew
    have r0 := hf.cell 0
    have r1 := hf.cell 1
    have hg := (HSt.out.set 0 (.bool false) (by simp) |>.set 1 (.slice A1 n1 c1) (by simp)).drew
    generalize ((w2.setCell ⟨w.heap.size + 1, 0, none⟩ (.bool false)).setCell ⟨w.heap.size + 1, 1, none⟩ (.slice A1 n1 c1)).drew = wf at *
    simp only [List.getElem?_cons_zero, List.getElem?_cons_succ] at r0 r1
    go_wp2
    refine bodyPost_ret (v := .agg #[.bool false, .slice A1 n1 c1]) (by simp [results, Tryz.results200, go_sem, r0, r1]; try rfl) rfl ?_
    exact ⟨⟨_, _, _, _, rfl, ⟨by simp <;> by_cases hk : k = 0 <;> simp [hk] <;> omega, hg.sn (by simpa using HR.out)⟩⟩, HB.out.trans (hg.below (by omega))⟩


set_option maxRecDepth 100000 in
theorem num_Mul (w : World) (b b' : Bool) (A A' : Option Addr) (n c n' c' : Nat) (x y : Int) (hx : RZ w b A n c x) (hy : RZ w b' A' n' c' y) (hbx : Big x.natAbs) (hby : Big y.natAbs) (hbm : Big (x * y).natAbs) :
    Calls Tryz.prog 148 #[.agg #[.bool b, .slice A n c], .agg #[.bool b', .slice A' n' c']] w fun e w' => RetZ e w' (x * y) ∧ Below w.heap.size w w' := by
  have HX := Lib.hid hx
  have HY := Lib.hid hy
  have HBX := Lib.hid hbx
  have HBY := Lib.hid hby
  have HBM := Lib.hid hbm
  clear hx hy hbx hby hbm
  go_enter Tryz.func148, Tryz.ntmps148
  go_wp2_with fail
  refine wp_letter (fun w1 => Blk w1 w.heap.size 35 [.bool b, .slice A n c] ∧ Blk w1 (w.heap.size + 1) 35 [.bool b', .slice A' n' c'] ∧ Blk w1 (w.heap.size + 1 + 1) 35 [.bool false, .slice none 0 0] ∧ Below w.heap.size w w1) ⟨(((Blk.made _ 35 _ _ _ (by simp) rfl).alloc _).alloc _), ((Blk.made _ 35 _ _ _ (by simp) rfl).alloc _), (Blk.made _ 35 _ _ _ (by simp) rfl), ((((Below.refl _ _).alloc (by simp; try omega) _).alloc (by simp; try omega) _).alloc (by simp; try omega) _)⟩ ?_
  rintro w1 ⟨b0, b1, b2, hb⟩
  have k00 := b0.cell 0
  have k01 := b0.cell 1
  have k10 := b1.cell 0
  have k11 := b1.cell 1
  have k20 := b2.cell 0
  have k21 := b2.cell 1
  simp only [List.getElem?_cons_zero, List.getElem?_cons_succ] at k00 k01 k10 k11 k20 k21
  have HB := Lib.hid hb
  have H0 := Lib.hid b0
  have H1 := Lib.hid b1
  have H2 := Lib.hid b2
  have hz := b2.lt
  clear hb b0 b1 b2
  have HX1 : Hid (SN w1 A n c x.natAbs) := HX.out.sn.below HB.out (Nat.le_refl _)
  have HY1 : Hid (SN w1 A' n' c' y.natAbs) := HY.out.sn.below HB.out (Nat.le_refl _)
  have HKK : Hid (∀ w', Hold w1 (w.heap.size + 1 + 1) 35 2 w' → w'.cell? ⟨w.heap.size, 0, none⟩ = some (.bool b) ∧ w'.cell? ⟨w.heap.size, 1, none⟩ = some (.slice A n c) ∧ w'.cell? ⟨w.heap.size + 1, 0, none⟩ = some (.bool b') ∧ w'.cell? ⟨w.heap.size + 1, 1, none⟩ = some (.slice A' n' c') ∧ w'.cell? ⟨w.heap.size + 1 + 1, 0, none⟩ = some (cellAt w' ⟨w.heap.size + 1 + 1, 0, none⟩) ∧ w'.cell? ⟨w.heap.size + 1 + 1, 1, none⟩ = some (cellAt w' ⟨w.heap.size + 1 + 1, 1, none⟩) ∧ w'.frozen? ⟨w.heap.size + 1 + 1, 0, none⟩ = false ∧ w'.frozen? ⟨w.heap.size + 1 + 1, 1, none⟩ = false ∧ Hold w1 (w.heap.size + 1 + 1) 35 2 w') := fun w' h => ⟨(h.blk H0.out (by omega)).cell 0, (h.blk H0.out (by omega)).cell 1, (h.blk H1.out (by omega)).cell 0, (h.blk H1.out (by omega)).cell 1, h.cell 0 (by omega), h.cell 1 (by omega), h.frozen 0, h.frozen 1, h⟩
  have HSt : Hid (Hold w1 (w.heap.size + 1 + 1) 35 2 w1) := Hold.start H2.out (by simp [No32])
  go_region_held3 (fun w' => w'.cell? ⟨w.heap.size, 0, none⟩ = some (.bool b) ∧ w'.cell? ⟨w.heap.size, 1, none⟩ = some (.slice A n c) ∧ w'.cell? ⟨w.heap.size + 1, 0, none⟩ = some (.bool b') ∧ w'.cell? ⟨w.heap.size + 1, 1, none⟩ = some (.slice A' n' c') ∧ w'.cell? ⟨w.heap.size + 1 + 1, 0, none⟩ = some (cellAt w' ⟨w.heap.size + 1 + 1, 0, none⟩) ∧ w'.cell? ⟨w.heap.size + 1 + 1, 1, none⟩ = some (cellAt w' ⟨w.heap.size + 1 + 1, 1, none⟩) ∧ w'.frozen? ⟨w.heap.size + 1 + 1, 0, none⟩ = false ∧ w'.frozen? ⟨w.heap.size + 1 + 1, 1, none⟩ = false ∧ Hold w1 (w.heap.size + 1 + 1) 35 2 w')
    (first | exact HKK.out _ HSt.out.drew | (go_split_ands; first | exact HKK.out _ (Hold.call ‹Hold w1 (w.heap.size + 1 + 1) 35 2 _› hb2) | exact HKK.out _ (Hold.call ‹Hold w1 (w.heap.size + 1 + 1) 35 2 _› hb3) | exact HKK.out _ ((‹Hold w1 (w.heap.size + 1 + 1) 35 2 _›.set 0 _ (by simp)).set 1 _ (by simp))))
    (first | ((with_reducible refine (natMul _ A A' n c n' c' x.natAbs y.natAbs ?_ ?_ HBX.out HBY.out).mono ?_); (refine Hold.sn (W := w1) (g := w.heap.size + 1 + 1) (t := 35) (n := 2) ?_ HX1.out; (go_split_ands; assumption)); (refine Hold.sn (W := w1) (g := w.heap.size + 1 + 1) (t := 35) (n := 2) ?_ HY1.out; (go_split_ands; assumption)); rintro e w2 ⟨⟨A2, n2, c2, rfl, hr2⟩, hb2⟩)
           | ((with_reducible refine (num_made _ _ A2 n2 c2 _ hr2 (by rw [← Int.natAbs_mul]; exact HBM.out)).mono ?_); rintro e w3 ⟨⟨b3, A3, n3, c3, rfl, hr3⟩, hb3⟩))
  rw [zmul HX.out.sign HY.out.sign] at hr3
  have hh := ((HSt.out.drew.call hb2).call hb3)
  have hf := hh.fill2 (.bool b3) (.slice A3 n3 c3)
  have hg := ((hh.set 0 (.bool b3) (by simp)).set 1 (.slice A3 n3 c3) (by simp))
  have hs := ((hr3.sn.hset hh 0 (.bool b3)).hset (hh.set 0 (.bool b3) (by simp)) 1 (.slice A3 n3 c3))
  have r0 := hf.cell 0
  have r1 := hf.cell 1
  generalize ((w3.setCell ⟨w.heap.size + 1 + 1, 0, none⟩ (.bool b3)).setCell ⟨w.heap.size + 1 + 1, 1, none⟩ (.slice A3 n3 c3)) = wf at *
  simp only [List.getElem?_cons_zero, List.getElem?_cons_succ] at r0 r1
  go_wp2
  refine bodyPost_ret (v := .agg #[.bool b3, .slice A3 n3 c3]) (by simp [results, Tryz.results148, go_sem, r0, r1]; try rfl) rfl ?_
  exact ⟨⟨_, _, _, _, rfl, hr3.sign, hs⟩, HB.out.trans (hg.below (by omega))⟩

set_option maxRecDepth 100000 in
theorem num_Neg (w : World) (b : Bool) (A : Option Addr) (n c : Nat) (x : Int) (hx : RZ w b A n c x) (hbx : Big x.natAbs) :
    Calls Tryz.prog 152 #[.agg #[.bool b, .slice A n c]] w fun e w' => RetZ e w' (-x) ∧ Below w.heap.size w w' := by
  have HX := Lib.hid hx
  have HBX := Lib.hid hbx
  clear hx hbx
  go_enter Tryz.func152, Tryz.ntmps152
  go_wp2_with fail
  refine calls_letter (fun w1 => Blk w1 w.heap.size 35 [.bool b, .slice A n c] ∧ Blk w1 (w.heap.size + 1) 35 [.bool false, .slice none 0 0] ∧ Below w.heap.size w w1) ⟨((Blk.made _ 35 _ _ _ (by simp) rfl).alloc _), (Blk.made _ 35 _ _ _ (by simp) rfl), (((Below.refl _ _).alloc (by simp; try omega) _).alloc (by simp; try omega) _)⟩ ?_
  rintro w1 ⟨b0, b1, hb⟩
  have k00 := b0.cell 0
  have k01 := b0.cell 1
  have k10 := b1.cell 0
  have k11 := b1.cell 1
  have f10 := b1.frozen 0
  have f11 := b1.frozen 1
  simp only [List.getElem?_cons_zero, List.getElem?_cons_succ] at k00 k01 k10 k11
  have HB := Lib.hid hb
  have H0 := Lib.hid b0
  have H1 := Lib.hid b1
  have hz := b1.lt
  clear hb b0 b1
  refine (num_made _ _ A n c _ (HX.out.sn.below HB.out (Nat.le_refl _)) HBX.out).mono ?_
  rintro e w2 ⟨⟨b3, A3, n3, c3, rfl, hr3⟩, hb2⟩
  have e1 : (if (!b) = true then -(x.natAbs : Int) else (x.natAbs : Int)) = -x := by
    rw [HX.out.sign]
    by_cases h : x < 0 <;> simp only [h, decide_true, decide_false] <;> simp <;> omega
  rw [e1] at hr3
  have HSt : Hid (Hold w1 (w.heap.size + 1) 35 2 w1) := Hold.start H1.out (by simp [No32])
  have hh0 := HSt.out.call hb2
  have k0 := hh0.cell 0 (by omega)
  have k1 := hh0.cell 1 (by omega)
  have f0 := hh0.frozen 0
  have f1 := hh0.frozen 1
  clear k00 k01 k10 k11 f10 f11 e1
  dsimp only
  go_wp2_with fail
  have hh := (HSt.out.call hb2)
  have hf := hh.fill2 (.bool b3) (.slice A3 n3 c3)
  have hg := ((hh.set 0 (.bool b3) (by simp)).set 1 (.slice A3 n3 c3) (by simp))
  have hs := ((hr3.sn.hset hh 0 (.bool b3)).hset (hh.set 0 (.bool b3) (by simp)) 1 (.slice A3 n3 c3))
  have r0 := hf.cell 0
  have r1 := hf.cell 1
  generalize ((w2.setCell ⟨w.heap.size + 1, 0, none⟩ (.bool b3)).setCell ⟨w.heap.size + 1, 1, none⟩ (.slice A3 n3 c3)) = wf at *
  simp only [List.getElem?_cons_zero, List.getElem?_cons_succ] at r0 r1
  refine bodyPost_ret (v := .agg #[.bool b3, .slice A3 n3 c3]) (by simp [results, Tryz.results152, go_sem, r0, r1]; try rfl) rfl ?_
  exact ⟨⟨_, _, _, _, rfl, hr3.sign, hs⟩, HB.out.trans (hg.below (by omega))⟩

set_option maxRecDepth 100000 in
theorem num_Of (w : World) (n : Nat) (hn : n < 9223372036854775808) :
    Calls Tryz.prog 145 #[.int .i64 n] w fun e w' => RetZ e w' n ∧ Below w.heap.size w w' := by
  have HN := Lib.hid hn
  have h0 : ¬ ((n : Int) < 0) := by omega
  have h1 : (0 : Int) ≤ (n : Int) := by omega
  have h2 : (n : Int) < 9223372036854775808 := by omega
  have h3 : (n : Int) < 18446744073709551616 := by omega
  clear hn
  go_enter Tryz.func145, Tryz.ntmps145
  go_wp2_with fail
  refine calls_letter (fun w1 => Blk w1 w.heap.size 35 [.bool false, .slice none 0 0] ∧ Below w.heap.size w w1) ⟨(Blk.made _ 35 _ _ _ (by simp) rfl), ((Below.refl _ _).alloc (by simp; try omega) _)⟩ ?_
  rintro w1 ⟨b0, hb⟩
  have k00 := b0.cell 0
  have k01 := b0.cell 1
  have f00 := b0.frozen 0
  have f01 := b0.frozen 1
  simp only [List.getElem?_cons_zero, List.getElem?_cons_succ] at k00 k01
  have HB := Lib.hid hb
  have H0 := Lib.hid b0
  have hz := b0.lt
  clear hb b0
  refine (natOf _ n (by have := HN.out; omega)).mono ?_
  rintro e w2 ⟨⟨A2, n2, c2, rfl, hr2⟩, hb2⟩
  dsimp only
  go_wp2_with fail
  refine (num_made _ _ A2 n2 c2 _ hr2 (big_pow (k := 63) HN.out (by omega))).mono ?_
  rintro e w3 ⟨⟨b3, A3, n3, c3, rfl, hr3⟩, hb3⟩
  simp only [Bool.false_eq_true, if_false] at hr3
  have HSt : Hid (Hold w1 w.heap.size 35 2 w1) := Hold.start H0.out (by simp [No32])
  have hh0 := (HSt.out.call hb2).call hb3
  have k0 := hh0.cell 0 (by omega)
  have k1 := hh0.cell 1 (by omega)
  have f0 := hh0.frozen 0
  have f1 := hh0.frozen 1
  clear k00 k01 f00 f01
  dsimp only
  go_wp2_with fail
  have hh := ((HSt.out.call hb2).call hb3)
  have hf := hh.fill2 (.bool b3) (.slice A3 n3 c3)
  have hg := ((hh.set 0 (.bool b3) (by simp)).set 1 (.slice A3 n3 c3) (by simp))
  have hs := ((hr3.sn.hset hh 0 (.bool b3)).hset (hh.set 0 (.bool b3) (by simp)) 1 (.slice A3 n3 c3))
  have r0 := hf.cell 0
  have r1 := hf.cell 1
  generalize ((w3.setCell ⟨w.heap.size, 0, none⟩ (.bool b3)).setCell ⟨w.heap.size, 1, none⟩ (.slice A3 n3 c3)) = wf at *
  simp only [List.getElem?_cons_zero, List.getElem?_cons_succ] at r0 r1
  refine bodyPost_ret (v := .agg #[.bool b3, .slice A3 n3 c3]) (by simp [results, Tryz.results145, go_sem, r0, r1]; try rfl) rfl ?_
  exact ⟨⟨_, _, _, _, rfl, hr3.sign, hs⟩, HB.out.trans (hg.below (by omega))⟩

set_option maxRecDepth 100000 in
theorem num_Sign (w : World) (b : Bool) (A : Option Addr) (n c : Nat) (x : Int) (hx : RZ w b A n c x) (hbx : Big x.natAbs) :
    Calls Tryz.prog 204 #[.agg #[.bool b, .slice A n c]] w fun e w' => e = .returned (.int .i64 x.sign) ∧ Below w.heap.size w w' := by
  have HX := Lib.hid hx
  have HBX := Lib.hid hbx
  clear hx hbx
  go_enter Tryz.func204, Tryz.ntmps204
  go_wp2_with fail
  refine calls_letter (fun w1 => Blk w1 w.heap.size 35 [.bool b, .slice A n c] ∧ Below w.heap.size w w1) ⟨(Blk.made _ 35 _ _ _ (by simp) rfl), ((Below.refl _ _).alloc (by simp; try omega) _)⟩ ?_
  rintro w1 ⟨b0, hb⟩
  have k00 := b0.cell 0
  have k01 := b0.cell 1
  simp only [List.getElem?_cons_zero, List.getElem?_cons_succ] at k00 k01
  have HB := Lib.hid hb
  have H0 := Lib.hid b0
  have hz := b0.lt
  clear hb b0
  refine (num_zero _ A n c _ (HX.out.sn.below HB.out (Nat.le_refl _)) HBX.out).mono ?_
  rintro e w2 ⟨rfl, hb2⟩
  have k0 := (H0.out.below hb2 H0.out.lt).cell 0
  simp only [List.getElem?_cons_zero] at k0
  have HB2 := Lib.hid (HB.out.trans (hb2.mono HB.out.size))
  have HS := Lib.hid HX.out.sign
  clear k00 k01 hb2
  rcases Int.lt_trichotomy x 0 with h | h | h
  · have e1 : decide (x.natAbs = 0) = false := by rw [decide_eq_false_iff_not]; omega
    have e2 : b = true := by rw [HS.out]; simpa using h
    subst e2
    rw [e1]
    have e3 := Lib.hid (Int.sign_eq_neg_one_of_neg h)
    clear h e1
    dsimp only
    go_wp2
    go_ret
    exact ⟨by rw [e3.out]; rfl, HB2.out⟩
  · subst h
    dsimp only [Int.natAbs_zero, decide_true]
    go_wp2
    go_ret
    exact ⟨rfl, HB2.out⟩
  · have e1 : decide (x.natAbs = 0) = false := by rw [decide_eq_false_iff_not]; omega
    have e2 : b = false := by rw [HS.out]; simp; omega
    subst e2
    rw [e1]
    have e3 := Lib.hid (Int.sign_eq_one_of_pos h)
    clear h e1
    dsimp only
    go_wp2
    go_ret
    exact ⟨by rw [e3.out]; rfl, HB2.out⟩

theorem zadd_same {b b' : Bool} {x y : Int} (h : b = decide (x < 0)) (h' : b' = decide (y < 0)) (e : b = b') : (if b = true then -((x.natAbs + y.natAbs : Nat) : Int) else ((x.natAbs + y.natAbs : Nat) : Int)) = x + y := by
  subst h; subst h'
  by_cases hx : x < 0 <;> by_cases hy : y < 0 <;> simp only [hx, hy, decide_true, decide_false] at e ⊢ <;> simp at e ⊢ <;> omega
theorem zadd_left {b b' : Bool} {x y : Int} (h : b = decide (x < 0)) (h' : b' = decide (y < 0)) (e : ¬ b = b') (hle : y.natAbs ≤ x.natAbs) : (if b = true then -((x.natAbs - y.natAbs : Nat) : Int) else ((x.natAbs - y.natAbs : Nat) : Int)) = x + y := by
  subst h; subst h'
  by_cases hx : x < 0 <;> by_cases hy : y < 0 <;> simp only [hx, hy, decide_true, decide_false] at e ⊢ <;> simp at e ⊢ <;> omega
theorem zadd_right {b b' : Bool} {x y : Int} (h : b = decide (x < 0)) (h' : b' = decide (y < 0)) (e : ¬ b = b') (hle : x.natAbs ≤ y.natAbs) : (if b' = true then -((y.natAbs - x.natAbs : Nat) : Int) else ((y.natAbs - x.natAbs : Nat) : Int)) = x + y := by
  subst h; subst h'
  by_cases hx : x < 0 <;> by_cases hy : y < 0 <;> simp only [hx, hy, decide_true, decide_false] at e ⊢ <;> simp at e ⊢ <;> omega

set_option maxRecDepth 100000 in
theorem num_Add (w : World) (b b' : Bool) (A A' : Option Addr) (n c n' c' : Nat) (x y : Int) (hx : RZ w b A n c x) (hy : RZ w b' A' n' c' y) (hbx : Big x.natAbs) (hby : Big y.natAbs) (hbm : Big (x.natAbs + y.natAbs)) :
    Calls Tryz.prog 150 #[.agg #[.bool b, .slice A n c], .agg #[.bool b', .slice A' n' c']] w fun e w' => RetZ e w' (x + y) ∧ Below w.heap.size w w' := by
  have HX := Lib.hid hx
  have HY := Lib.hid hy
  have HBX := Lib.hid hbx
  have HBY := Lib.hid hby
  have HBM := Lib.hid hbm
  clear hx hy hbx hby hbm
  go_enter Tryz.func150, Tryz.ntmps150
  go_upto_region 1 with fail
  refine wp_letter (fun w1 => Blk w1 w.heap.size 35 [.bool b, .slice A n c] ∧ Blk w1 (w.heap.size + 1) 35 [.bool b', .slice A' n' c'] ∧ Blk w1 (w.heap.size + 1 + 1) 35 [.bool false, .slice none 0 0] ∧ Below w.heap.size w w1) ⟨(((Blk.made _ 35 _ _ _ (by simp) rfl).alloc _).alloc _), ((Blk.made _ 35 _ _ _ (by simp) rfl).alloc _), (Blk.made _ 35 _ _ _ (by simp) rfl), ((((Below.refl _ _).alloc (by simp; try omega) _).alloc (by simp; try omega) _).alloc (by simp; try omega) _)⟩ ?_
  rintro w1 ⟨b0, b1, b2, hb⟩
  have k00 := b0.cell 0
  have k01 := b0.cell 1
  have k10 := b1.cell 0
  have k11 := b1.cell 1
  have k20 := b2.cell 0
  have k21 := b2.cell 1
  have f20 := b2.frozen 0
  have f21 := b2.frozen 1
  simp only [List.getElem?_cons_zero, List.getElem?_cons_succ] at k00 k01 k10 k11 k20 k21
  have HB := Lib.hid hb
  have H0 := Lib.hid b0
  have H1 := Lib.hid b1
  have H2 := Lib.hid b2
  have hz := b2.lt
  clear hb b0 b1 b2
  have HX1 : Hid (SN w1 A n c x.natAbs) := HX.out.sn.below HB.out (Nat.le_refl _)
  have HY1 : Hid (SN w1 A' n' c' y.natAbs) := HY.out.sn.below HB.out (Nat.le_refl _)
  by_cases hbb : b = b'
  · have e0 : (b == b') = true := by simp [hbb]
    have HBB := Lib.hid hbb
    clear hbb
    go_wp2_with fail
    clear k20 k21 f20 f21
    have HKK : Hid (∀ w', Hold w1 (w.heap.size + 1 + 1) 35 2 w' → w'.cell? ⟨w.heap.size, 0, none⟩ = some (.bool b) ∧ w'.cell? ⟨w.heap.size, 1, none⟩ = some (.slice A n c) ∧ w'.cell? ⟨w.heap.size + 1, 0, none⟩ = some (.bool b') ∧ w'.cell? ⟨w.heap.size + 1, 1, none⟩ = some (.slice A' n' c') ∧ w'.cell? ⟨w.heap.size + 1 + 1, 0, none⟩ = some (cellAt w' ⟨w.heap.size + 1 + 1, 0, none⟩) ∧ w'.cell? ⟨w.heap.size + 1 + 1, 1, none⟩ = some (cellAt w' ⟨w.heap.size + 1 + 1, 1, none⟩) ∧ w'.frozen? ⟨w.heap.size + 1 + 1, 0, none⟩ = false ∧ w'.frozen? ⟨w.heap.size + 1 + 1, 1, none⟩ = false ∧ Hold w1 (w.heap.size + 1 + 1) 35 2 w') := fun w' h => ⟨(h.blk H0.out (by omega)).cell 0, (h.blk H0.out (by omega)).cell 1, (h.blk H1.out (by omega)).cell 0, (h.blk H1.out (by omega)).cell 1, h.cell 0 (by omega), h.cell 1 (by omega), h.frozen 0, h.frozen 1, h⟩
    have HSt : Hid (Hold w1 (w.heap.size + 1 + 1) 35 2 w1) := Hold.start H2.out (by simp [No32])
    go_region_held3 (fun w' => w'.cell? ⟨w.heap.size, 0, none⟩ = some (.bool b) ∧ w'.cell? ⟨w.heap.size, 1, none⟩ = some (.slice A n c) ∧ w'.cell? ⟨w.heap.size + 1, 0, none⟩ = some (.bool b') ∧ w'.cell? ⟨w.heap.size + 1, 1, none⟩ = some (.slice A' n' c') ∧ w'.cell? ⟨w.heap.size + 1 + 1, 0, none⟩ = some (cellAt w' ⟨w.heap.size + 1 + 1, 0, none⟩) ∧ w'.cell? ⟨w.heap.size + 1 + 1, 1, none⟩ = some (cellAt w' ⟨w.heap.size + 1 + 1, 1, none⟩) ∧ w'.frozen? ⟨w.heap.size + 1 + 1, 0, none⟩ = false ∧ w'.frozen? ⟨w.heap.size + 1 + 1, 1, none⟩ = false ∧ Hold w1 (w.heap.size + 1 + 1) 35 2 w')
      (first | exact HKK.out _ HSt.out.drew | (go_split_ands; first | exact HKK.out _ (Hold.call ‹Hold w1 (w.heap.size + 1 + 1) 35 2 _› hb2) | exact HKK.out _ (Hold.call ‹Hold w1 (w.heap.size + 1 + 1) 35 2 _› hb3) | exact HKK.out _ ((‹Hold w1 (w.heap.size + 1 + 1) 35 2 _›.set 0 _ (by simp)).set 1 _ (by simp))))
      (first | ((with_reducible refine (natAdd _ A A' n c n' c' x.natAbs y.natAbs ?_ ?_ HBX.out HBY.out).mono ?_); (refine Hold.sn (W := w1) (g := w.heap.size + 1 + 1) (t := 35) (n := 2) ?_ HX1.out; (go_split_ands; assumption)); (refine Hold.sn (W := w1) (g := w.heap.size + 1 + 1) (t := 35) (n := 2) ?_ HY1.out; (go_split_ands; assumption)); rintro e w2 ⟨⟨A2, n2, c2, rfl, hr2⟩, hb2⟩)
             | ((with_reducible refine (num_made _ _ A2 n2 c2 _ hr2 HBM.out).mono ?_); rintro e w3 ⟨⟨b3, A3, n3, c3, rfl, hr3⟩, hb3⟩))
    rw [zadd_same HX.out.sign HY.out.sign HBB.out] at hr3
    have hh := ((HSt.out.drew.call hb2).call hb3)
    have hf := hh.fill2 (.bool b3) (.slice A3 n3 c3)
    have hg := ((hh.set 0 (.bool b3) (by simp)).set 1 (.slice A3 n3 c3) (by simp))
    have hs := ((hr3.sn.hset hh 0 (.bool b3)).hset (hh.set 0 (.bool b3) (by simp)) 1 (.slice A3 n3 c3))
    have r0 := hf.cell 0
    have r1 := hf.cell 1
    generalize ((w3.setCell ⟨w.heap.size + 1 + 1, 0, none⟩ (.bool b3)).setCell ⟨w.heap.size + 1 + 1, 1, none⟩ (.slice A3 n3 c3)) = wf at *
    simp only [List.getElem?_cons_zero, List.getElem?_cons_succ] at r0 r1
    go_wp2
    refine bodyPost_ret (v := .agg #[.bool b3, .slice A3 n3 c3]) (by simp [results, Tryz.results150, go_sem, r0, r1]; try rfl) rfl ?_
    exact ⟨⟨_, _, _, _, rfl, hr3.sign, hs⟩, HB.out.trans (hg.below (by omega))⟩
  · have e0 : (b == b') = false := by simp [hbb]
    have HBB := Lib.hid hbb
    clear hbb
    have HSt : Hid (Hold w1 (w.heap.size + 1 + 1) 35 2 w1) := Hold.start H2.out (by simp [No32])
    by_cases hle : y.natAbs ≤ x.natAbs
    · have HLE := Lib.hid hle
      clear hle
      go_wp2_with fail
      refine (natSub _ A A' n c n' c' x.natAbs y.natAbs HX1.out HY1.out HBX.out HBY.out HLE.out).mono ?_
      rintro e w2 ⟨⟨A2, n2, c2, rfl, hr2⟩, hb2⟩
      have hz2 := hb2.size
      have m1 := ((H0.out.below hb2 (by omega)).alloc (.cells #[.slice A2 n2 c2] 24)).cell 0
      simp only [List.getElem?_cons_zero] at m1
      clear k00 k01 k10 k11 k20 k21 f20 f21
      dsimp only
      go_wp2_with fail
      have hb4 : Below w2.heap.size w2 (w2.alloc (.cells #[.slice A2 n2 c2] 24)) := (Below.refl _ _).alloc (Nat.le_refl _) _
      refine (num_made _ _ A2 n2 c2 _ (hr2.below hb4 (Nat.le_refl _)) (HBX.out.mono (Nat.sub_le _ _))).mono ?_
      rintro e w3 ⟨⟨b3, A3, n3, c3, rfl, hr3⟩, hb3⟩
      rw [zadd_left HX.out.sign HY.out.sign HBB.out HLE.out] at hr3
      have hh0 := (((HSt.out.call hb2).call hb4).call hb3)
      have k0 := hh0.cell 0 (by omega)
      have k1 := hh0.cell 1 (by omega)
      have f0 := hh0.frozen 0
      have f1 := hh0.frozen 1
      clear m1
      dsimp only
      go_wp2_with fail
      have hh := (((HSt.out.call hb2).call hb4).call hb3)
      have hf := hh.fill2 (.bool b3) (.slice A3 n3 c3)
      have hg := ((hh.set 0 (.bool b3) (by simp)).set 1 (.slice A3 n3 c3) (by simp))
      have hs := ((hr3.sn.hset hh 0 (.bool b3)).hset (hh.set 0 (.bool b3) (by simp)) 1 (.slice A3 n3 c3))
      have r0 := hf.cell 0
      have r1 := hf.cell 1
      generalize ((w3.setCell ⟨w.heap.size + 1 + 1, 0, none⟩ (.bool b3)).setCell ⟨w.heap.size + 1 + 1, 1, none⟩ (.slice A3 n3 c3)) = wf at *
      simp only [List.getElem?_cons_zero, List.getElem?_cons_succ] at r0 r1
      refine bodyPost_ret (v := .agg #[.bool b3, .slice A3 n3 c3]) (by simp [results, Tryz.results150, go_sem, r0, r1]; try rfl) rfl ?_
      exact ⟨⟨_, _, _, _, rfl, hr3.sign, hs⟩, HB.out.trans (hg.below (by omega))⟩
    · have HLE := Lib.hid (Nat.lt_of_not_le hle)
      clear hle
      go_wp2_with fail
      refine (natSubNo _ A A' n c n' c' x.natAbs y.natAbs HX1.out HY1.out HBX.out HBY.out HLE.out).mono ?_
      rintro e w2 ⟨rfl, hb2⟩
      have hz2 := hb2.size
      have m1 := ((H0.out.below hb2 (by omega)).alloc (.cells #[.slice none 0 0] 24)).cell 1
      have m2 := ((H1.out.below hb2 (by omega)).alloc (.cells #[.slice none 0 0] 24)).cell 1
      have m3 := ((H1.out.below hb2 (by omega)).alloc (.cells #[.slice none 0 0] 24)).cell 0
      simp only [List.getElem?_cons_zero, List.getElem?_cons_succ] at m1 m2 m3
      clear k00 k01 k10 k11 k20 k21 f20 f21
      dsimp only
      go_wp2_with fail
      have hb4 : Below w2.heap.size w2 (w2.alloc (.cells #[.slice none 0 0] 24)) := (Below.refl _ _).alloc (Nat.le_refl _) _
      have hb5 := hb2.trans (hb4.mono hb2.size)
      refine (natSub _ A' A n' c' n c y.natAbs x.natAbs (HY1.out.below hb5 (Nat.le_refl _)) (HX1.out.below hb5 (Nat.le_refl _)) HBY.out HBX.out (Nat.le_of_lt HLE.out)).mono ?_
      rintro e w3 ⟨⟨A3, n3, c3, rfl, hr3⟩, hb3⟩
      have hz3 := hb3.size
      have hz4 := hb4.size
      have m4 := (((H1.out.below hb5 (by omega)).below hb3 (by omega)).alloc (.cells #[.slice A3 n3 c3] 24)).cell 0
      simp only [List.getElem?_cons_zero] at m4
      clear m1 m2 m3
      dsimp only
      go_wp2_with fail
      have hb6 : Below w3.heap.size w3 (w3.alloc (.cells #[.slice A3 n3 c3] 24)) := (Below.refl _ _).alloc (Nat.le_refl _) _
      refine (num_made _ _ A3 n3 c3 _ (hr3.below hb6 (Nat.le_refl _)) (HBY.out.mono (Nat.sub_le _ _))).mono ?_
      rintro e w4 ⟨⟨b4, A4, n4, c4, rfl, hr4⟩, hb7⟩
      rw [zadd_right HX.out.sign HY.out.sign HBB.out (Nat.le_of_lt HLE.out)] at hr4
      have hh0 := ((((HSt.out.call hb5).call hb3).call hb6).call hb7)
      have k0 := hh0.cell 0 (by omega)
      have k1 := hh0.cell 1 (by omega)
      have f0 := hh0.frozen 0
      have f1 := hh0.frozen 1
      clear m4
      dsimp only
      go_wp2_with fail
      have hh := ((((HSt.out.call hb5).call hb3).call hb6).call hb7)
      have hf := hh.fill2 (.bool b4) (.slice A4 n4 c4)
      have hg := ((hh.set 0 (.bool b4) (by simp)).set 1 (.slice A4 n4 c4) (by simp))
      have hs := ((hr4.sn.hset hh 0 (.bool b4)).hset (hh.set 0 (.bool b4) (by simp)) 1 (.slice A4 n4 c4))
      have r0 := hf.cell 0
      have r1 := hf.cell 1
      generalize ((w4.setCell ⟨w.heap.size + 1 + 1, 0, none⟩ (.bool b4)).setCell ⟨w.heap.size + 1 + 1, 1, none⟩ (.slice A4 n4 c4)) = wf at *
      simp only [List.getElem?_cons_zero, List.getElem?_cons_succ] at r0 r1
      refine bodyPost_ret (v := .agg #[.bool b4, .slice A4 n4 c4]) (by simp [results, Tryz.results150, go_sem, r0, r1]; try rfl) rfl ?_
      exact ⟨⟨_, _, _, _, rfl, hr4.sign, hs⟩, HB.out.trans (hg.below (by omega))⟩

end Go.Proofs.YtdgleeglndcjhaaGreatDoor
