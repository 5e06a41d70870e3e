/- Package cubitref18: SameRule. -/
import Derived.Test.YtdgleeglndcjhaaGreatDoorGs
import Derived.Test.YtdgleeglndcjhaaGreatDoorT
namespace Go.Proofs.YtdgleeglndcjhaaGreatDoor
open Go.RowKit
set_option linter.unusedVariables false
set_option linter.unusedSimpArgs false

theorem neq_of {α : Type} {l m : List α} {k : Nat} {x y : α} (hx : l[k]? = some x) (hy : m[k]? = some y) (h : x ≠ y) : l ≠ m := fun e => by rw [e, hy] at hx; cases hx; exact h rfl

set_option maxRecDepth 100000 in
set_option maxHeartbeats 64000000 in
theorem same_rule (w : World) (A B : Option Addr) (n c m d : Nat) (l l' : Rl) (h : RuleIs w A n c l) (h' : RuleIs w B m d l') (hs : SmallR l) (hs' : SmallR l') :
    Calls Tryz.prog 22 #[.slice A n c, .slice B m d] w fun e w' => e = .returned (.bool (decide (l = l'))) ∧ Below w.heap.size w w' := by
  obtain rfl : n = l.length := h.len
  obtain rfl : m = l'.length := h'.len
  have HA := Lib.hid h
  have HB := Lib.hid h'
  have HS := Lib.hid hs
  have HS' := Lib.hid hs'
  have hl := hs.1
  have hl' := hs'.1
  have hlI : (l.length : Int) ≤ 1000 := by omega
  have hlI' : (l'.length : Int) ≤ 1000 := by omega
  clear h h' hs hs'
  by_cases hn : l.length = l'.length
  case neg =>
    have hnI : ((l.length : Int) != (l'.length : Int)) = true := by simp only [bne, Bool.not_eq_true', beq_eq_false_iff_ne]; omega
    have hd : decide (l = l') = false := decide_eq_false (fun e => hn (congrArg List.length e))
    rw [hd]
    clear hd hn
    go_enter Tryz.func22, Tryz.ntmps22
    go_wp2_with fail
    go_ret
    exact ⟨rfl, Below.refl _ _⟩
  have HN := Lib.hid hn
  have hnI : ((l.length : Int) != (l'.length : Int)) = false := by rw [hn]; simp
  clear hn
  go_enter Tryz.func22, Tryz.ntmps22
  go_wp2_with fail
  go_loopw [5] (fun i wr => EqW w l l' i wr) (fun i _ => l.length - (intOf i).toNat)
  case atStart => exact ⟨0, Nat.zero_le _, rfl, rfl, Below.refl _ _⟩
  case round =>
    obtain ⟨k, hk, rfl, ht, hb⟩ := hrel
    have HT := Lib.hid ht
    have HBR := Lib.hid hb
    clear ht hb
    by_cases hlt : k < l.length
    case neg =>
      have hkI : ¬ (k : Int) < (l.length : Int) := by omega
      have he : l = l' := by have := HT.out; rw [List.take_of_length_le (by omega), List.take_of_length_le (by have := HN.out; omega)] at this; exact this
      have HE := Lib.hid he
      clear he
      go_wp2_with fail
      go_ret
      exact ⟨by rw [decide_eq_true HE.out]; rfl, HBR.out⟩
    obtain ⟨b, o, hA, hc⟩ := HA.out.at (by omega)
    obtain ⟨b', o', hB, hc'⟩ := HB.out.at (by have := HN.out; omega)
    subst hA
    subst hB
    obtain ⟨x, hx⟩ : ∃ x, l[k]? = some x := ⟨l[k], List.getElem?_eq_getElem hlt⟩
    obtain ⟨y, hy⟩ : ∃ y, l'[k]? = some y := ⟨l'[k]'(by have := HN.out; omega), List.getElem?_eq_getElem _⟩
    obtain ⟨XA, xn, xc, k0, hXs⟩ := hc k x hx
    obtain ⟨YA, yn, yc, k1, hYs⟩ := hc' k y hy
    obtain rfl : xn = x.length := hXs.len
    obtain rfl : yn = y.length := hYs.len
    have HX := Lib.hid hx
    have HY := Lib.hid hy
    have HXS := Lib.hid hXs
    have HYS := Lib.hid hYs
    have hxl := (HS.out.rows x (List.mem_of_getElem? hx)).1
    have hyl := (HS'.out.rows y (List.mem_of_getElem? hy)).1
    have HXC := Lib.hid (HS.out.rows x (List.mem_of_getElem? hx)).2
    have HYC := Lib.hid (HS'.out.rows y (List.mem_of_getElem? hy)).2
    have hxI : (x.length : Int) ≤ 1000 := by omega
    have hyI : (y.length : Int) ≤ 1000 := by omega
    have hkI : (k : Int) < (l.length : Int) := by omega
    have hkJ : (k : Int) < (l'.length : Int) := by have := HN.out; omega
    have hk0 : (0 : Int) ≤ (k : Int) := by omega
    have HK : Hid (∀ w', Below w.heap.size w w' → w'.cell? ⟨b, o + k, none⟩ = some (.slice XA x.length xc) ∧ w'.cell? ⟨b', o' + k, none⟩ = some (.slice YA y.length yc)) := fun w' h => ⟨(h.cell (World.block_lt_of_cell? w _ k0)).trans k0, (h.cell (World.block_lt_of_cell? w _ k1)).trans k1⟩
    clear hc hc' hx hy hXs hYs k0 k1
    obtain ⟨k0, k1⟩ := HK.out wr HBR.out
    by_cases hxy : x.length = y.length
    case neg =>
      have hqI : ((x.length : Int) != (y.length : Int)) = true := by simp only [bne, Bool.not_eq_true', beq_eq_false_iff_ne]; omega
      have HXY := Lib.hid hxy
      clear hxy
      go_wp2_with fail
      go_quiet (fail)
      go_step
      go_wp2_with fail
      go_ret
      exact ⟨by rw [decide_eq_false (neq_of HX.out HY.out fun e => HXY.out (congrArg List.length e))]; rfl, below_drewN HBR.out _⟩
    have hqI : ((x.length : Int) != (y.length : Int)) = false := by rw [hxy]; simp
    have HXY := Lib.hid hxy
    clear hxy
    go_wp2_with fail
    go_quiet (fail)
    go_step
    go_wp2_with fail
    obtain ⟨wo, rfl⟩ : ∃ wo : World, wo = wr := ⟨_, rfl⟩
    go_loopw [6] (fun i w2 => EqW w x y i w2) (fun i _ => x.length - (intOf i).toNat)
    case atStart => exact ⟨0, Nat.zero_le _, rfl, rfl, below_drewN HBR.out _⟩
    case round =>
      obtain ⟨j, hj, rfl, ht, hb⟩ := hrel
      have HTJ := Lib.hid ht
      have HBJ := Lib.hid hb
      clear ht hb k0 k1 hqI
      obtain ⟨w2, rfl⟩ : ∃ w2 : World, w2 = wr := ⟨_, rfl⟩
      obtain ⟨k0, k1⟩ := HK.out w2 HBJ.out
      by_cases hjl : j < x.length
      case neg =>
        have hjI : ¬ (j : Int) < (x.length : Int) := by omega
        have he : x = y := by have := HTJ.out; rw [List.take_of_length_le (by omega), List.take_of_length_le (by have := HXY.out; omega)] at this; exact this
        have HE := Lib.hid he
        clear he
        go_wp2_with fail
        go_roundw
        case rel => exact ⟨k + 1, by omega, by go_num, (take_eq HX.out HY.out).2 ⟨HT.out, HE.out⟩, HBJ.out⟩
        case measure => simp [intOf]; omega
      obtain ⟨xb, xo, hA, hc⟩ := HXS.out.at (by omega)
      obtain ⟨yb, yo, hB, hc'⟩ := HYS.out.at (by have := HXY.out; omega)
      subst hA
      subst hB
      obtain ⟨p, hp⟩ : ∃ p, x[j]? = some p := ⟨x[j], List.getElem?_eq_getElem hjl⟩
      obtain ⟨q, hq⟩ : ∃ q, y[j]? = some q := ⟨y[j]'(by have := HXY.out; omega), List.getElem?_eq_getElem _⟩
      obtain ⟨FA, fn, fc, TA, tn, tc, hF, hT, c0, c1, c2, c3, c4⟩ := hc j p hp
      obtain ⟨FB, fm, fd, TB, tm, td, hF', hT', d0, d1, d2, d3, d4⟩ := hc' j q hq
      obtain rfl : fn = p.fr.length := hF.len
      obtain rfl : tn = p.to.length := hT.len
      obtain rfl : fm = q.fr.length := hF'.len
      obtain rfl : tm = q.to.length := hT'.len
      have HP := Lib.hid hp
      have HQ := Lib.hid hq
      have HF := Lib.hid hF
      have HTT := Lib.hid hT
      have HF' := Lib.hid hF'
      have HT' := Lib.hid hT'
      have HPS := Lib.hid (HXC.out p (List.mem_of_getElem? hp))
      have HQS := Lib.hid (HYC.out q (List.mem_of_getElem? hq))
      have hjI : (j : Int) < (x.length : Int) := by omega
      have hjJ : (j : Int) < (y.length : Int) := by have := HXY.out; omega
      have hj0 : (0 : Int) ≤ (j : Int) := by omega
      have HJ : Hid (∀ w', Below w.heap.size w w' → w'.cell? ⟨b, o + k, none⟩ = some (.slice (some ⟨xb, xo, none⟩) x.length xc) ∧ w'.cell? ⟨b', o' + k, none⟩ = some (.slice (some ⟨yb, yo, none⟩) y.length yc) ∧
          w'.cell? ⟨xb, xo + j * 5, none⟩ = some (.int .u8 (p.letter : Int)) ∧ w'.cell? ⟨xb, xo + j * 5 + 1, none⟩ = some (.int .i64 p.mod) ∧ w'.cell? ⟨xb, xo + j * 5 + 2, none⟩ = some (.bool p.nt) ∧ w'.cell? ⟨xb, xo + j * 5 + 3, none⟩ = some (.slice FA p.fr.length fc) ∧ w'.cell? ⟨xb, xo + j * 5 + 4, none⟩ = some (.slice TA p.to.length tc) ∧
          w'.cell? ⟨yb, yo + j * 5, none⟩ = some (.int .u8 (q.letter : Int)) ∧ w'.cell? ⟨yb, yo + j * 5 + 1, none⟩ = some (.int .i64 q.mod) ∧ w'.cell? ⟨yb, yo + j * 5 + 2, none⟩ = some (.bool q.nt) ∧ w'.cell? ⟨yb, yo + j * 5 + 3, none⟩ = some (.slice FB q.fr.length fd) ∧ w'.cell? ⟨yb, yo + j * 5 + 4, none⟩ = some (.slice TB q.to.length td)) := fun w' h =>
        have cc : ∀ (a : Addr) u, a.spot = none → w.cell? a = some u → w'.cell? a = some u := fun a u _ e => (h.cell (World.block_lt_of_cell? w _ e)).trans e
        ⟨(HK.out w' h).1, (HK.out w' h).2, cc _ _ rfl c0, cc _ _ rfl c1, cc _ _ rfl c2, cc _ _ rfl c3, cc _ _ rfl c4, cc _ _ rfl d0, cc _ _ rfl d1, cc _ _ rfl d2, cc _ _ rfl d3, cc _ _ rfl d4⟩
      have hw2 := HBJ.out.size
      clear hc hc' hp hq hF hT hF' hT' c0 c1 c2 c3 c4 d0 d1 d2 d3 d4 k0 k1
      obtain ⟨k0, k1, -⟩ := HJ.out w2 HBJ.out
      go_upto_region 11 with fail
      clear k0 k1
      go_cut [7, 8] (fun s7 s8 wx => ∃ g1 g2, s7 = .pointer (some ⟨g1, 0, none⟩) ∧ s8 = .pointer (some ⟨g2, 0, none⟩) ∧ Blk wx g1 118 [.int .u8 (p.letter : Int), .int .i64 p.mod, .bool p.nt, .slice FA p.fr.length fc, .slice TA p.to.length tc] ∧ Blk wx g2 118 [.int .u8 (q.letter : Int), .int .i64 q.mod, .bool q.nt, .slice FB q.fr.length fd, .slice TB q.to.length td] ∧ Below w.heap.size w wx)
      case first =>
        have HJB : Hid (w.heap.size ≤ w2.heap.size) := HBJ.out.size
        refine wp_region_but (fun w' => Below w.heap.size w w') (by kernel_rfl) (by kernel_rfl) HBJ.out.drew (fun hHeld => ?_)
        simp only [initL, lastL]
        refine takeL (i := 0) (v := ?v1) rfl (by kernel_rfl) (by kernel_rfl) (by kernel_rfl) (fun _ _ _ h => h) (Or.inl ⟨by rfl, ?hy1⟩) (by assumption) ?rest1
        case hy1 => (intro wz hSz; (have hfz := HJ.out wz hSz); go_split_ands; (first | (go_simp; done) | (go_simp; with_reducible rfl)))
        try simp only [Act.put, List.setIfInBounds_toArray, List.set_cons_zero, List.set_cons_succ]
        refine takeL (i := 1) (v := ?v2) rfl (by kernel_rfl) (by kernel_rfl) (by kernel_rfl) (fun _ _ _ h => h) (Or.inl ⟨by rfl, ?hy2⟩) (by assumption) ?rest2
        case hy2 => (intro wz hSz; (have hfz := HJ.out wz hSz); go_split_ands; (first | (go_simp; done) | (go_simp; with_reducible rfl)))
        try simp only [Act.put, List.setIfInBounds_toArray, List.set_cons_zero, List.set_cons_succ]
        refine takeL (i := 2) (v := ?v3) rfl (by kernel_rfl) (by kernel_rfl) (by kernel_rfl) (fun _ _ _ h => h) (Or.inl ⟨by rfl, ?hy3⟩) (by assumption) ?rest3
        case hy3 => (intro wz hSz; (have hfz := HJ.out wz hSz); go_split_ands; (first | (go_simp; done) | (go_simp; with_reducible rfl)))
        try simp only [Act.put, List.setIfInBounds_toArray, List.set_cons_zero, List.set_cons_succ]
        refine takeL (i := 3) (v := ?v4) rfl (by kernel_rfl) (by kernel_rfl) (by kernel_rfl) (fun _ _ _ h => h) (Or.inl ⟨by rfl, ?hy4⟩) (by assumption) ?rest4
        case hy4 => (intro wz hSz; (have hfz := HJ.out wz hSz); go_split_ands; (first | (go_simp; done) | (go_simp; with_reducible rfl)))
        try simp only [Act.put, List.setIfInBounds_toArray, List.set_cons_zero, List.set_cons_succ]
        refine takeL (i := 4) (v := ?v5) rfl (by kernel_rfl) (by kernel_rfl) (by kernel_rfl) (fun _ _ _ h => h) (Or.inl ⟨by rfl, ?hy5⟩) (by assumption) ?rest5
        case hy5 => (intro wz hSz; (have hfz := HJ.out wz hSz); go_split_ands; (first | (go_simp; done) | (go_simp; with_reducible rfl)))
        try simp only [Act.put, List.setIfInBounds_toArray, List.set_cons_zero, List.set_cons_succ]
        refine takeL (i := 5) (v := ?v6) rfl (by kernel_rfl) (by kernel_rfl) (by kernel_rfl) (fun _ _ _ h => h) (Or.inl ⟨by rfl, ?hy6⟩) (by assumption) ?rest6
        case hy6 => (intro wz hSz; (have hfz := HJ.out wz hSz); go_split_ands; (first | (go_simp; done) | (go_simp; with_reducible rfl)))
        try simp only [Act.put, List.setIfInBounds_toArray, List.set_cons_zero, List.set_cons_succ]
        refine takeL (i := 6) (v := ?v7) rfl (by kernel_rfl) (by kernel_rfl) (by kernel_rfl) (fun _ _ _ h => h) (Or.inl ⟨by rfl, ?hy7⟩) (by assumption) ?rest7
        case hy7 => (intro wz hSz; (have hfz := HJ.out wz hSz); go_split_ands; (first | (go_simp; done) | (go_simp; with_reducible rfl)))
        try simp only [Act.put, List.setIfInBounds_toArray, List.set_cons_zero, List.set_cons_succ]
        refine takeL (i := 7) (v := ?v8) rfl (by kernel_rfl) (by kernel_rfl) (by kernel_rfl) (fun _ _ _ h => h) (Or.inl ⟨by rfl, ?hy8⟩) (by assumption) ?rest8
        case hy8 => (intro wz hSz; (have hfz := HJ.out wz hSz); go_split_ands; (first | (go_simp; done) | (go_simp; with_reducible rfl)))
        try simp only [Act.put, List.setIfInBounds_toArray, List.set_cons_zero, List.set_cons_succ]
        refine takeL (i := 8) (v := ?v9) rfl (by kernel_rfl) (by kernel_rfl) (by kernel_rfl) (fun _ _ _ h => h) (Or.inl ⟨by rfl, ?hy9⟩) (by assumption) ?rest9
        case hy9 => (intro wz hSz; (have hfz := HJ.out wz hSz); go_split_ands; (first | (go_simp; done) | (go_simp; with_reducible rfl)))
        try simp only [Act.put, List.setIfInBounds_toArray, List.set_cons_zero, List.set_cons_succ]
        refine takeL (i := 9) (v := ?v10) rfl (by kernel_rfl) (by kernel_rfl) (by kernel_rfl) (fun _ _ _ h => h) (Or.inl ⟨by rfl, ?hy10⟩) (by assumption) ?rest10
        case hy10 => (intro wz hSz; (have hfz := HJ.out wz hSz); go_split_ands; (first | (go_simp; done) | (go_simp; with_reducible rfl)))
        try simp only [Act.put, List.setIfInBounds_toArray, List.set_cons_zero, List.set_cons_succ]
        refine takeL (i := 10) (v := ?v11) rfl (by kernel_rfl) (by kernel_rfl) (by kernel_rfl) (fun _ _ _ h => h) (Or.inl ⟨by rfl, ?hy11⟩) (by assumption) ?rest11
        case hy11 => (intro wz hSz; (have hfz := HJ.out wz hSz); go_split_ands; (first | (go_simp; done) | (go_simp; with_reducible rfl)))
        try simp only [Act.put, List.setIfInBounds_toArray, List.set_cons_zero, List.set_cons_succ]
        refine takeL (i := 11) (v := ?v12) rfl (by kernel_rfl) (by kernel_rfl) (by kernel_rfl) (fun _ _ _ h => h) (Or.inl ⟨by rfl, ?hy12⟩) (by assumption) ?rest12
        case hy12 => (intro wz hSz; (have hfz := HJ.out wz hSz); go_split_ands; (first | (go_simp; done) | (go_simp; with_reducible rfl)))
        try simp only [Act.put, List.setIfInBounds_toArray, List.set_cons_zero, List.set_cons_succ]
        refine takeL (i := 12) (v := ?v13) rfl (by kernel_rfl) (by kernel_rfl) (by kernel_rfl) (fun _ _ _ h => h) (Or.inl ⟨by rfl, ?hy13⟩) (by assumption) ?rest13
        case hy13 => (intro wz hSz; (have hfz := HJ.out wz hSz); go_split_ands; (first | (go_simp; done) | (go_simp; with_reducible rfl)))
        try simp only [Act.put, List.setIfInBounds_toArray, List.set_cons_zero, List.set_cons_succ]
        refine takeL (i := 13) (v := ?v14) rfl (by kernel_rfl) (by kernel_rfl) (by kernel_rfl) (fun _ _ _ h => h) (Or.inl ⟨by rfl, ?hy14⟩) (by assumption) ?rest14
        case hy14 => (intro wz hSz; (have hfz := HJ.out wz hSz); go_split_ands; (first | (go_simp; done) | (go_simp; with_reducible rfl)))
        try simp only [Act.put, List.setIfInBounds_toArray, List.set_cons_zero, List.set_cons_succ]
        refine wpAnyH_ready (rs := [14, 15]) (by kernel_rfl) (by simp) ?_
        refine consL rfl (fun K hK => ?_) ?_
        · skip
          go_simp
          try clear hHeld
          refine hK.out _ _ ((HBJ.out.drew.alloc (by have := HJB.out; simp; try omega) _)) (fun hHeld => ?_)
          clear hK K
          try simp only [Act.put, List.setIfInBounds_toArray, List.set_cons_zero, List.set_cons_succ]
          refine wpAnyH_ready (rs := [15]) (by kernel_rfl) (by simp) ?_
          refine consL rfl (fun K hK => ?_) AllReadyH.nil
          go_simp
          try clear hHeld
          refine hK.out _ _ (((HBJ.out.drew.alloc (by have := HJB.out; simp; try omega) _).alloc (by have := HJB.out; simp; try omega) _)) (fun hHeld => ?_)
          clear hK K
          try simp only [Act.put, List.setIfInBounds_toArray, List.set_cons_zero, List.set_cons_succ]
          clear hHeld
          refine wpAnyH_letter (fun wx => Blk wx w2.heap.size 118 [.int .u8 0, .int .i64 0, .bool false, .slice none 0 0, .slice none 0 0] ∧ Blk wx (w2.heap.size + 1) 118 [.int .u8 0, .int .i64 0, .bool false, .slice none 0 0, .slice none 0 0] ∧ Below w.heap.size w wx) ⟨(Blk.made _ 118 _ _ _ (by simp) rfl).alloc _, Blk.made _ 118 _ _ _ (by simp) rfl, ((HBJ.out.drew.alloc (by have := HJB.out; simp; try omega) _).alloc (by have := HJB.out; simp; try omega) _)⟩ ?_
          rintro wx ⟨z1, z2, hHeld⟩
          have Z1 := Lib.hid z1
          have Z2 := Lib.hid z2
          have Z3 := Lib.hid hHeld
          have k0 := z1.cell 0
          have k1 := z1.cell 1
          have k2 := z1.cell 2
          have k3 := z1.cell 3
          have k4 := z1.cell 4
          have f0 := z1.frozen 0
          have f1 := z1.frozen 1
          have f2 := z1.frozen 2
          have f3 := z1.frozen 3
          have f4 := z1.frozen 4
          simp only [List.getElem?_cons_zero, List.getElem?_cons_succ] at k0 k1 k2 k3 k4
          clear z1 z2
          refine wpAnyH_ready (rs := [16]) (by kernel_rfl) (by simp) ?_
          refine consL rfl (fun K hK => ?_) AllReadyH.nil
          go_simp
          try clear hHeld
          refine hK.out _ _ ((((((Z3.out.setCell (by have := HJB.out; simp; try omega) _).setCell (by have := HJB.out; simp; try omega) _).setCell (by have := HJB.out; simp; try omega) _).setCell (by have := HJB.out; simp; try omega) _).setCell (by have := HJB.out; simp; try omega) _)) (fun hHeld => ?_)
          clear hK K
          try simp only [Act.put, List.setIfInBounds_toArray, List.set_cons_zero, List.set_cons_succ]
          clear hHeld k0 k1 k2 k3 k4 f0 f1 f2 f3 f4
          refine wpAnyH_letter (fun wy => Blk wy w2.heap.size 118 [.int .u8 (p.letter : Int), .int .i64 p.mod, .bool p.nt, .slice FA p.fr.length fc, .slice TA p.to.length tc] ∧ Blk wy (w2.heap.size + 1) 118 [.int .u8 0, .int .i64 0, .bool false, .slice none 0 0, .slice none 0 0] ∧ Below w.heap.size w wy) ⟨(((((Z1.out.put 0 (.int .u8 (p.letter : Int))).put 1 (.int .i64 p.mod)).put 2 (.bool p.nt)).put 3 (.slice FA p.fr.length fc)).put 4 (.slice TA p.to.length tc)), (blk_far (blk_far (blk_far (blk_far (blk_far Z2.out ⟨w2.heap.size, 0, none⟩ (.int .u8 (p.letter : Int)) (by simp)) ⟨w2.heap.size, 1, none⟩ (.int .i64 p.mod) (by simp)) ⟨w2.heap.size, 2, none⟩ (.bool p.nt) (by simp)) ⟨w2.heap.size, 3, none⟩ (.slice FA p.fr.length fc) (by simp)) ⟨w2.heap.size, 4, none⟩ (.slice TA p.to.length tc) (by simp)), (((((Z3.out.setCell (by have := HJB.out; simp; try omega) _).setCell (by have := HJB.out; simp; try omega) _).setCell (by have := HJB.out; simp; try omega) _).setCell (by have := HJB.out; simp; try omega) _).setCell (by have := HJB.out; simp; try omega) _)⟩ ?_
          rintro wy ⟨z1, z2, hHeld⟩
          have Y1 := Lib.hid z1
          have Y2 := Lib.hid z2
          have Y3 := Lib.hid hHeld
          have k0 := z2.cell 0
          have k1 := z2.cell 1
          have k2 := z2.cell 2
          have k3 := z2.cell 3
          have k4 := z2.cell 4
          have f0 := z2.frozen 0
          have f1 := z2.frozen 1
          have f2 := z2.frozen 2
          have f3 := z2.frozen 3
          have f4 := z2.frozen 4
          simp only [List.getElem?_cons_zero, List.getElem?_cons_succ] at k0 k1 k2 k3 k4
          clear z1 z2
          refine wpAnyH_done (by kernel_rfl) ?_ _
          clear hHeld
          unfold TailQ
          go_wp2_with fail
          go_meet
          exact ⟨_, _, rfl, rfl, (blk_far (blk_far (blk_far (blk_far (blk_far Y1.out ⟨(w2.heap.size + 1), 0, none⟩ (.int .u8 (q.letter : Int)) (by simp)) ⟨(w2.heap.size + 1), 1, none⟩ (.int .i64 q.mod) (by simp)) ⟨(w2.heap.size + 1), 2, none⟩ (.bool q.nt) (by simp)) ⟨(w2.heap.size + 1), 3, none⟩ (.slice FB q.fr.length fd) (by simp)) ⟨(w2.heap.size + 1), 4, none⟩ (.slice TB q.to.length td) (by simp)), (((((Y2.out.put 0 (.int .u8 (q.letter : Int))).put 1 (.int .i64 q.mod)).put 2 (.bool q.nt)).put 3 (.slice FB q.fr.length fd)).put 4 (.slice TB q.to.length td)), (((((Y3.out.setCell (by have := HJB.out; simp; try omega) _).setCell (by have := HJB.out; simp; try omega) _).setCell (by have := HJB.out; simp; try omega) _).setCell (by have := HJB.out; simp; try omega) _).setCell (by have := HJB.out; simp; try omega) _)⟩
        refine consL rfl (fun K hK => ?_) AllReadyH.nil
        go_simp
        try clear hHeld
        refine hK.out _ _ ((HBJ.out.drew.alloc (by have := HJB.out; simp; try omega) _)) (fun hHeld => ?_)
        clear hK K
        try simp only [Act.put, List.setIfInBounds_toArray, List.set_cons_zero, List.set_cons_succ]
        refine wpAnyH_ready (rs := [14]) (by kernel_rfl) (by simp) ?_
        refine consL rfl (fun K hK => ?_) AllReadyH.nil
        go_simp
        try clear hHeld
        refine hK.out _ _ (((HBJ.out.drew.alloc (by have := HJB.out; simp; try omega) _).alloc (by have := HJB.out; simp; try omega) _)) (fun hHeld => ?_)
        clear hK K
        try simp only [Act.put, List.setIfInBounds_toArray, List.set_cons_zero, List.set_cons_succ]
        clear hHeld
        refine wpAnyH_letter (fun wx => Blk wx (w2.heap.size + 1) 118 [.int .u8 0, .int .i64 0, .bool false, .slice none 0 0, .slice none 0 0] ∧ Blk wx w2.heap.size 118 [.int .u8 0, .int .i64 0, .bool false, .slice none 0 0, .slice none 0 0] ∧ Below w.heap.size w wx) ⟨Blk.made _ 118 _ _ _ (by simp) rfl, (Blk.made _ 118 _ _ _ (by simp) rfl).alloc _, ((HBJ.out.drew.alloc (by have := HJB.out; simp; try omega) _).alloc (by have := HJB.out; simp; try omega) _)⟩ ?_
        rintro wx ⟨z1, z2, hHeld⟩
        have Z1 := Lib.hid z1
        have Z2 := Lib.hid z2
        have Z3 := Lib.hid hHeld
        have k0 := z1.cell 0
        have k1 := z1.cell 1
        have k2 := z1.cell 2
        have k3 := z1.cell 3
        have k4 := z1.cell 4
        have f0 := z1.frozen 0
        have f1 := z1.frozen 1
        have f2 := z1.frozen 2
        have f3 := z1.frozen 3
        have f4 := z1.frozen 4
        simp only [List.getElem?_cons_zero, List.getElem?_cons_succ] at k0 k1 k2 k3 k4
        clear z1 z2
        refine wpAnyH_ready (rs := [16]) (by kernel_rfl) (by simp) ?_
        refine consL rfl (fun K hK => ?_) AllReadyH.nil
        go_simp
        try clear hHeld
        refine hK.out _ _ ((((((Z3.out.setCell (by have := HJB.out; simp; try omega) _).setCell (by have := HJB.out; simp; try omega) _).setCell (by have := HJB.out; simp; try omega) _).setCell (by have := HJB.out; simp; try omega) _).setCell (by have := HJB.out; simp; try omega) _)) (fun hHeld => ?_)
        clear hK K
        try simp only [Act.put, List.setIfInBounds_toArray, List.set_cons_zero, List.set_cons_succ]
        clear hHeld k0 k1 k2 k3 k4 f0 f1 f2 f3 f4
        refine wpAnyH_letter (fun wy => Blk wy (w2.heap.size + 1) 118 [.int .u8 (p.letter : Int), .int .i64 p.mod, .bool p.nt, .slice FA p.fr.length fc, .slice TA p.to.length tc] ∧ Blk wy w2.heap.size 118 [.int .u8 0, .int .i64 0, .bool false, .slice none 0 0, .slice none 0 0] ∧ Below w.heap.size w wy) ⟨(((((Z1.out.put 0 (.int .u8 (p.letter : Int))).put 1 (.int .i64 p.mod)).put 2 (.bool p.nt)).put 3 (.slice FA p.fr.length fc)).put 4 (.slice TA p.to.length tc)), (blk_far (blk_far (blk_far (blk_far (blk_far Z2.out ⟨(w2.heap.size + 1), 0, none⟩ (.int .u8 (p.letter : Int)) (by simp)) ⟨(w2.heap.size + 1), 1, none⟩ (.int .i64 p.mod) (by simp)) ⟨(w2.heap.size + 1), 2, none⟩ (.bool p.nt) (by simp)) ⟨(w2.heap.size + 1), 3, none⟩ (.slice FA p.fr.length fc) (by simp)) ⟨(w2.heap.size + 1), 4, none⟩ (.slice TA p.to.length tc) (by simp)), (((((Z3.out.setCell (by have := HJB.out; simp; try omega) _).setCell (by have := HJB.out; simp; try omega) _).setCell (by have := HJB.out; simp; try omega) _).setCell (by have := HJB.out; simp; try omega) _).setCell (by have := HJB.out; simp; try omega) _)⟩ ?_
        rintro wy ⟨z1, z2, hHeld⟩
        have Y1 := Lib.hid z1
        have Y2 := Lib.hid z2
        have Y3 := Lib.hid hHeld
        have k0 := z2.cell 0
        have k1 := z2.cell 1
        have k2 := z2.cell 2
        have k3 := z2.cell 3
        have k4 := z2.cell 4
        have f0 := z2.frozen 0
        have f1 := z2.frozen 1
        have f2 := z2.frozen 2
        have f3 := z2.frozen 3
        have f4 := z2.frozen 4
        simp only [List.getElem?_cons_zero, List.getElem?_cons_succ] at k0 k1 k2 k3 k4
        clear z1 z2
        refine wpAnyH_done (by kernel_rfl) ?_ _
        clear hHeld
        unfold TailQ
        go_wp2_with fail
        go_meet
        exact ⟨_, _, rfl, rfl, (blk_far (blk_far (blk_far (blk_far (blk_far Y1.out ⟨w2.heap.size, 0, none⟩ (.int .u8 (q.letter : Int)) (by simp)) ⟨w2.heap.size, 1, none⟩ (.int .i64 q.mod) (by simp)) ⟨w2.heap.size, 2, none⟩ (.bool q.nt) (by simp)) ⟨w2.heap.size, 3, none⟩ (.slice FB q.fr.length fd) (by simp)) ⟨w2.heap.size, 4, none⟩ (.slice TB q.to.length td) (by simp)), (((((Y2.out.put 0 (.int .u8 (q.letter : Int))).put 1 (.int .i64 q.mod)).put 2 (.bool q.nt)).put 3 (.slice FB q.fr.length fd)).put 4 (.slice TB q.to.length td)), (((((Y3.out.setCell (by have := HJB.out; simp; try omega) _).setCell (by have := HJB.out; simp; try omega) _).setCell (by have := HJB.out; simp; try omega) _).setCell (by have := HJB.out; simp; try omega) _).setCell (by have := HJB.out; simp; try omega) _)⟩
      case rest =>
        obtain ⟨g1, g2, rfl, rfl, z1, z2, hB⟩ := hcut
        have Z1 := Lib.hid z1
        have Z2 := Lib.hid z2
        have ZB := Lib.hid hB
        have hz1 := z1.lt
        have hz2 := z2.lt
        have e0 := z1.cell 0
        have e1 := z1.cell 1
        have e2 := z1.cell 2
        have e3 := z1.cell 3
        have e4 := z1.cell 4
        have f0 := z2.cell 0
        have f1 := z2.cell 1
        have f2 := z2.cell 2
        have f3 := z2.cell 3
        have f4 := z2.cell 4
        simp only [List.getElem?_cons_zero, List.getElem?_cons_succ] at e0 e1 e2 e3 e4 f0 f1 f2 f3 f4
        clear z1 z2 hB
        have HNE : Hid (p ≠ q → l ≠ l') := fun h e => neq_of HP.out HQ.out h (by have h1 := HX.out; have h2 := HY.out; rw [e, h2] at h1; cases h1; rfl)
        obtain ⟨wc2, rfl⟩ : ∃ wc2 : World, wc2 = wc := ⟨_, rfl⟩
        by_cases h0 : p.letter = q.letter
        case neg =>
          have hI : ((p.letter : Int) != (q.letter : Int)) = true := by simp only [bne, Bool.not_eq_true', beq_eq_false_iff_ne]; omega
          have HD : Hid (p ≠ q) := fun e => h0 (by rw [e])
          go_wp2_with fail
          go_ret
          exact ⟨by rw [decide_eq_false (HNE.out HD.out)]; rfl, ZB.out⟩
        have hI0 : ((p.letter : Int) != (q.letter : Int)) = false := by simp only [bne, Bool.not_eq_false', beq_iff_eq]; omega
        by_cases h1 : p.mod = q.mod
        case neg =>
          have hI : (p.mod != q.mod) = true := by simp only [bne, Bool.not_eq_true', beq_eq_false_iff_ne]; exact h1
          have HD : Hid (p ≠ q) := fun e => h1 (by rw [e])
          go_wp2_with fail
          go_ret
          exact ⟨by rw [decide_eq_false (HNE.out HD.out)]; rfl, ZB.out⟩
        have hI1 : (p.mod != q.mod) = false := by simp only [bne, Bool.not_eq_false', beq_iff_eq]; exact h1
        by_cases h2 : p.nt = q.nt
        case neg =>
          have hI : (p.nt != q.nt) = true := by simp only [bne, Bool.not_eq_true', beq_eq_false_iff_ne]; exact h2
          have HD : Hid (p ≠ q) := fun e => h2 (by rw [e])
          go_wp2_with fail
          go_ret
          exact ⟨by rw [decide_eq_false (HNE.out HD.out)]; rfl, ZB.out⟩
        have hI2 : (p.nt != q.nt) = false := by simp only [bne, Bool.not_eq_false', beq_iff_eq]; exact h2
        by_cases h3 : p.fr.length = q.fr.length
        case neg =>
          have hI : ((p.fr.length : Int) != (q.fr.length : Int)) = true := by simp only [bne, Bool.not_eq_true', beq_eq_false_iff_ne]; omega
          have HD : Hid (p ≠ q) := fun e => h3 (by rw [e])
          go_wp2_with fail
          go_ret
          exact ⟨by rw [decide_eq_false (HNE.out HD.out)]; rfl, ZB.out⟩
        have hI3 : ((p.fr.length : Int) != (q.fr.length : Int)) = false := by simp only [bne, Bool.not_eq_false', beq_iff_eq]; omega
        by_cases h4 : p.to.length = q.to.length
        case neg =>
          have hI : ((p.to.length : Int) != (q.to.length : Int)) = true := by simp only [bne, Bool.not_eq_true', beq_eq_false_iff_ne]; omega
          have HD : Hid (p ≠ q) := fun e => h4 (by rw [e])
          go_wp2_with fail
          go_ret
          exact ⟨by rw [decide_eq_false (HNE.out HD.out)]; rfl, ZB.out⟩
        have hI4 : ((p.to.length : Int) != (q.to.length : Int)) = false := by simp only [bne, Bool.not_eq_false', beq_iff_eq]; omega
        have HE0 := Lib.hid h0
        have HE1 := Lib.hid h1
        have HE2 := Lib.hid h2
        have HE3 := Lib.hid h3
        have HE4 := Lib.hid h4
        clear h0 h1 h2 h3 h4
        go_wp2_with fail
        go_loopw [9] (fun i w3 => EqW wc2 p.fr q.fr i w3) (fun i _ => p.fr.length - (intOf i).toNat)
        case atStart => exact ⟨0, Nat.zero_le _, rfl, rfl, Below.refl _ _⟩
        case round =>
          obtain ⟨rfr, hr, rfl, ht, hb⟩ := hrel
          obtain ⟨wfr, rfl⟩ : ∃ wfr : World, wfr = wr := ⟨_, rfl⟩
          have HTfr := Lib.hid ht
          have HBfr := Lib.hid hb
          have hg1 : wfr.cell? ⟨g1, 3, none⟩ = some (.slice FA p.fr.length fc) := (Z1.out.below hb Z1.out.lt).cell 3
          have hg2 : wfr.cell? ⟨g2, 3, none⟩ = some (.slice FB q.fr.length fd) := (Z2.out.below hb Z2.out.lt).cell 3
          have hpl : p.fr.length ≤ 1000 := HPS.out.nf
          have hplI : (p.fr.length : Int) ≤ 1000 := by omega
          clear ht hb
          by_cases hrl : rfr < p.fr.length
          case neg =>
            have hrI : ¬ (rfr : Int) < (p.fr.length : Int) := by omega
            have he : p.fr = q.fr := by have := HTfr.out; rw [List.take_of_length_le (by omega), List.take_of_length_le (by have := HE3.out; omega)] at this; exact this
            have HEQfr := Lib.hid he
            clear he
            go_wp2_with fail
            go_loopw [10] (fun i w3 => EqW wfr p.to q.to i w3) (fun i _ => p.to.length - (intOf i).toNat)
            case atStart => exact ⟨0, Nat.zero_le _, rfl, rfl, Below.refl _ _⟩
            case round =>
              obtain ⟨rto, hr, rfl, ht, hb⟩ := hrel
              obtain ⟨wto, rfl⟩ : ∃ wto : World, wto = wr := ⟨_, rfl⟩
              have HTto := Lib.hid ht
              have HBto := Lib.hid hb
              have hg1 : wto.cell? ⟨g1, 4, none⟩ = some (.slice TA p.to.length tc) := (Z1.out.below (HBfr.out.trans (hb.mono HBfr.out.size)) Z1.out.lt).cell 4
              have hg2 : wto.cell? ⟨g2, 4, none⟩ = some (.slice TB q.to.length td) := (Z2.out.below (HBfr.out.trans (hb.mono HBfr.out.size)) Z2.out.lt).cell 4
              have hpl : p.to.length ≤ 1000 := HPS.out.nt
              have hplI : (p.to.length : Int) ≤ 1000 := by omega
              clear ht hb
              by_cases hrl : rto < p.to.length
              case neg =>
                have hrI : ¬ (rto : Int) < (p.to.length : Int) := by omega
                have he : p.to = q.to := by have := HTto.out; rw [List.take_of_length_le (by omega), List.take_of_length_le (by have := HE4.out; omega)] at this; exact this
                have HEQto := Lib.hid he
                clear he
                go_wp2_with fail
                have HPQ : Hid (p = q) := cnd_eq.2 ⟨HE0.out, HE1.out, HE2.out, HEQfr.out, HEQto.out⟩
                go_roundw
                case rel => exact ⟨j + 1, by omega, by go_num, (take_eq HP.out HQ.out).2 ⟨HTJ.out, HPQ.out⟩, ZB.out.trans ((HBfr.out.trans (HBto.out.mono HBfr.out.size)).mono ZB.out.size)⟩
                case measure => simp [intOf]; omega
              obtain ⟨ab, ao, hAA, ha⟩ := (HTT.out.below (ZB.out.trans ((HBfr.out.trans (HBto.out.mono HBfr.out.size)).mono ZB.out.size)) (Nat.le_refl _)).at (by omega)
              obtain ⟨bb, bo, hBB, hb⟩ := (HT'.out.below (ZB.out.trans ((HBfr.out.trans (HBto.out.mono HBfr.out.size)).mono ZB.out.size)) (Nat.le_refl _)).at (by have := HE4.out; omega)
              subst hAA
              subst hBB
              obtain ⟨a, haa⟩ : ∃ a, p.to[rto]? = some a := ⟨p.to[rto], List.getElem?_eq_getElem hrl⟩
              obtain ⟨b9, hbb⟩ : ∃ b9, q.to[rto]? = some b9 := ⟨q.to[rto]'(by have := HE4.out; omega), List.getElem?_eq_getElem _⟩
              have m0 := ha rto a haa
              have m1 := hb rto b9 hbb
              have HAA := Lib.hid haa
              have HBB := Lib.hid hbb
              have hrI : (rto : Int) < (p.to.length : Int) := by omega
              have hrJ : (rto : Int) < (q.to.length : Int) := by have := HE4.out; omega
              have hr0 : (0 : Int) ≤ (rto : Int) := by omega
              clear ha hb haa hbb
              by_cases hab : a = b9
              · have habI : (a != b9) = false := by simp only [bne, Bool.not_eq_false', beq_iff_eq]; exact hab
                have HAB := Lib.hid hab
                clear hab
                go_wp2_with fail
                go_quiet (fail)
                go_step
                go_wp2_with fail
                go_roundw
                case rel => exact ⟨rto + 1, by omega, by go_num, (take_eq HAA.out HBB.out).2 ⟨HTto.out, HAB.out⟩, below_drewN HBto.out _⟩
                case measure => simp [intOf]; omega
              · have habI : (a != b9) = true := by simp only [bne, Bool.not_eq_true', beq_eq_false_iff_ne]; exact hab
                have HD : Hid (p ≠ q) := fun e => neq_of HAA.out HBB.out hab (by rw [e])
                clear hab
                go_wp2_with fail
                go_quiet (fail)
                go_step
                go_wp2_with fail
                go_ret
                exact ⟨by rw [decide_eq_false (HNE.out HD.out)]; rfl, below_drewN (ZB.out.trans ((HBfr.out.trans (HBto.out.mono HBfr.out.size)).mono ZB.out.size)) _⟩
          obtain ⟨ab, ao, hAA, ha⟩ := (HF.out.below (ZB.out.trans (HBfr.out.mono ZB.out.size)) (Nat.le_refl _)).at (by omega)
          obtain ⟨bb, bo, hBB, hb⟩ := (HF'.out.below (ZB.out.trans (HBfr.out.mono ZB.out.size)) (Nat.le_refl _)).at (by have := HE3.out; omega)
          subst hAA
          subst hBB
          obtain ⟨a, haa⟩ : ∃ a, p.fr[rfr]? = some a := ⟨p.fr[rfr], List.getElem?_eq_getElem hrl⟩
          obtain ⟨b9, hbb⟩ : ∃ b9, q.fr[rfr]? = some b9 := ⟨q.fr[rfr]'(by have := HE3.out; omega), List.getElem?_eq_getElem _⟩
          have m0 := ha rfr a haa
          have m1 := hb rfr b9 hbb
          have HAA := Lib.hid haa
          have HBB := Lib.hid hbb
          have hrI : (rfr : Int) < (p.fr.length : Int) := by omega
          have hrJ : (rfr : Int) < (q.fr.length : Int) := by have := HE3.out; omega
          have hr0 : (0 : Int) ≤ (rfr : Int) := by omega
          clear ha hb haa hbb
          by_cases hab : a = b9
          · have habI : (a != b9) = false := by simp only [bne, Bool.not_eq_false', beq_iff_eq]; exact hab
            have HAB := Lib.hid hab
            clear hab
            go_wp2_with fail
            go_quiet (fail)
            go_step
            go_wp2_with fail
            go_roundw
            case rel => exact ⟨rfr + 1, by omega, by go_num, (take_eq HAA.out HBB.out).2 ⟨HTfr.out, HAB.out⟩, below_drewN HBfr.out _⟩
            case measure => simp [intOf]; omega
          · have habI : (a != b9) = true := by simp only [bne, Bool.not_eq_true', beq_eq_false_iff_ne]; exact hab
            have HD : Hid (p ≠ q) := fun e => neq_of HAA.out HBB.out hab (by rw [e])
            clear hab
            go_wp2_with fail
            go_quiet (fail)
            go_step
            go_wp2_with fail
            go_ret
            exact ⟨by rw [decide_eq_false (HNE.out HD.out)]; rfl, below_drewN (ZB.out.trans (HBfr.out.mono ZB.out.size)) _⟩
end Go.Proofs.YtdgleeglndcjhaaGreatDoor
