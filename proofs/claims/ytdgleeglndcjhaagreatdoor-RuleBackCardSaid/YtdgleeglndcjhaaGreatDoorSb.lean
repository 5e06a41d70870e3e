/- Package cubitlaw19: ruleOf. -/
import Derived.Test.YtdgleeglndcjhaaGreatDoorGb
namespace Go.Proofs.YtdgleeglndcjhaaGreatDoor
open Go.RowKit
set_option linter.unusedVariables false
set_option linter.unusedSimpArgs false

theorem Tryz_info118 : (Tryz.prog.info? 118).map (fun i => (i.zero, i.size, i.bytes)) = some (some (.agg #[.int .u8 0, .int .i64 0, .bool false, .slice none 0 0, .slice none 0 0]), 5, 72) := by kernel_rfl
theorem Tryz_info121 : (Tryz.prog.info? 121).map (fun i => (i.zero, i.size, i.bytes)) = some (some (.slice none 0 0), 1, 24) := by kernel_rfl

/-- A finished row of conditions whose numbers lie where they lay. -/
structure RowA (W wr : World) (v x : Value) (l : List Cnd) : Prop where
  ex : ∃ es : List E3, es.map (·.1) = l ∧ SlC wr x 5 es.length (cellsC es) ∧ ∀ e ∈ es, IntsV W e.2.1 e.1.fr ∧ IntsV W e.2.2 e.1.to
  ap : ∀ k, x.ownBlock = some k → k < wr.heap.size ∧ v.ownBlock ≠ some k
theorem RowA.step {W wr w' : World} {v v' x : Value} {l : List Cnd} (h : RowA W wr v x l) (hs : wr.heap.size ≤ w'.heap.size) (hk : ∀ b, b < wr.heap.size → some b ≠ v.ownBlock → w'.heap[b]? = wr.heap[b]?)
    (hv : v'.ownBlock = v.ownBlock ∨ ∃ k, v'.ownBlock = some k ∧ wr.heap.size ≤ k) : RowA W w' v' x l := by
  obtain ⟨⟨es, h1, h2, h3⟩, h4⟩ := h
  refine ⟨⟨es, h1, h2.stable fun k hk' hlt => hk k hlt (fun e => (h4 k hk').2 e.symm), h3⟩, fun k hk' => ⟨Nat.lt_of_lt_of_le (h4 k hk').1 hs, fun e => ?_⟩⟩
  rcases hv with hv | ⟨j, hj, hlt⟩
  · exact (h4 k hk').2 (hv ▸ e)
  · rw [hj] at e; cases e; exact absurd (h4 k hk').1 (by omega)
theorem RowA.below {W wr w' : World} {v x : Value} {l : List Cnd} (h : RowA W wr v x l) (hb : Below wr.heap.size wr w') : RowA W w' v x l := h.step hb.size (fun b hlt _ => hb.block b hlt) (.inl rfl)
def InO (W0 W : World) (l : List Cnd) (v i : Value) (wr : World) : Prop :=
  ∃ (k : Nat) (es : List E3), k ≤ l.length ∧ i = .int .i64 k ∧ es.length = k ∧ es.map (·.1) = l.take k ∧ wr.ownsRow W.heap.size 118 5 v es.length (cellsC es) ∧ (∀ e ∈ es, IntsV W0 e.2.1 e.1.fr ∧ IntsV W0 e.2.2 e.1.to) ∧ Below W.heap.size W wr
def OutO (W : World) (r : Rl) (v i : Value) (wr : World) : Prop :=
  ∃ (k : Nat) (xs : List Value), k ≤ r.length ∧ i = .int .i64 k ∧ xs.length = k ∧ wr.ownsRow W.heap.size 121 1 v xs.length xs ∧ F2 (RowA W wr v) xs (r.take k) ∧ Below W.heap.size W wr

set_option maxRecDepth 100000 in
set_option maxHeartbeats 16000000 in
theorem rule_Of (w : World) (A : Option Addr) (n c : Nat) (r : Rl) (h : RuleIs w A n c r) (hs : SmallR r) :
    Calls Tryz.prog 23 #[.agg #[.slice A n c]] w fun e w' => ∃ A' n' c', e = .returned (.slice A' n' c') ∧ RuleIs w' A' n' c' r ∧ Below w.heap.size w w' := by
  obtain rfl : n = r.length := h.len
  obtain ⟨i7, hi7, hz70, hz71, hz72⟩ := info_parts Tryz_info118
  obtain ⟨i8, hi8, hz80, hz81, hz82⟩ := info_parts Tryz_info121
  have HX := Lib.hid h
  have HS := Lib.hid hs
  have hl := hs.1
  have hlI : (r.length : Int) ≤ 1000 := by omega
  have hmx := maxLen_ge
  clear h hs
  go_enter Tryz.func23, Tryz.ntmps23
  go_upto_region 1 with fail
  refine wp_letter (fun W => Blk W w.heap.size 30 [.slice A r.length c] ∧ RuleIs W A r.length c r ∧ Below w.heap.size w W) ⟨Blk.made _ 30 _ _ _ rfl rfl, HX.out.below ((Below.refl _ _).alloc (Nat.le_refl _) _) (Nat.le_refl _), (Below.refl _ _).alloc (Nat.le_refl _) _⟩ ?_
  rintro W ⟨b0, hx, hb⟩
  have B0 := Lib.hid b0
  have RX := Lib.hid hx
  have HB := Lib.hid hb
  clear b0 hx hb HX
  go_wp2_with fail
  go_loopw [3, 4] (fun v i wr => OutO W r v i wr) (fun _ i _ => r.length - (intOf i).toNat)
  case atStart => exact ⟨0, [], Nat.zero_le _, rfl, rfl, World.ownsRow_nil _ _ _ _, .nil, Below.refl _ _⟩
  case round =>
    obtain ⟨k, xs, hk, rfl, hxk, hown, hrows, hbr⟩ := hrel
    subst hxk
    obtain ⟨wo, rfl⟩ : ∃ wo : World, wo = wr := ⟨_, rfl⟩
    have HO := Lib.hid hown
    have HR := Lib.hid hrows
    have HBR := Lib.hid hbr
    have k0 : wo.cell? ⟨w.heap.size, 0, none⟩ = some (.slice A r.length c) := (B0.out.below hbr B0.out.lt).cell 0
    clear hown hrows hbr
    by_cases hlt : xs.length < r.length
    case neg =>
      have hkI : ¬ (xs.length : Int) < (r.length : Int) := by omega
      have hform := SlC.own HO.out
      obtain ⟨A', c', rfl, -⟩ := hform
      go_wp2_with fail
      go_ret
      refine ⟨A', _, c', rfl, ⟨xs, ?_, ?_⟩, HB.out.trans (HBR.out.mono HB.out.size)⟩
      · have h1 := SlC.own HO.out
        have e : xs.length = r.length := by omega
        rw [e] at h1 ⊢; exact h1
      · have h2 := HR.out
        rw [List.take_of_length_le (by omega)] at h2
        refine h2.mono fun x l hx => ?_
        obtain ⟨⟨es, h3, h4, h5⟩, -⟩ := hx
        obtain ⟨A2, c2, rfl, -⟩ := id h4
        exact ⟨A2, _, c2, rfl, es, h3, h4, fun e he => ⟨(h5 e he).1.below HBR.out (Nat.le_refl _), (h5 e he).2.below HBR.out (Nat.le_refl _)⟩⟩
    obtain ⟨b, o, rfl, hc⟩ := RX.out.at (by omega)
    obtain ⟨l, hlx⟩ : ∃ l, r[xs.length]? = some l := ⟨r[xs.length], List.getElem?_eq_getElem hlt⟩
    obtain ⟨LA, ln, lc, m0, hL⟩ := hc xs.length l hlx
    obtain rfl : ln = l.length := hL.len
    have HL := Lib.hid hL
    have HLX := Lib.hid hlx
    have hll := (HS.out.rows l (List.mem_of_getElem? hlx)).1
    have hllI : (l.length : Int) ≤ 1000 := by omega
    have hkI : (xs.length : Int) < (r.length : Int) := by omega
    have hk0 : (0 : Int) ≤ (xs.length : Int) := by omega
    have HM : Hid (∀ w', Below W.heap.size W w' → w'.cell? ⟨w.heap.size, 0, none⟩ = some (.slice (some ⟨b, o, none⟩) r.length c) ∧ w'.cell? ⟨b, o + xs.length, none⟩ = some (.slice LA l.length lc)) := fun w' h => ⟨(B0.out.below h B0.out.lt).cell 0, (h.cell (World.block_lt_of_cell? W _ m0)).trans m0⟩
    clear hc hL hlx m0
    go_wp2_with fail
    go_loopw [5, 6] (fun v i wr => InO W wo l v i wr) (fun _ i _ => l.length - (intOf i).toNat)
    case atStart => exact ⟨0, [], Nat.zero_le _, rfl, rfl, rfl, World.ownsRow_nil _ _ _ _, fun e he => (by cases he), Below.refl _ _⟩
    case round =>
      obtain ⟨j, es, hj, rfl, hel, hes, hown, hints, hbi⟩ := hrel
      subst hel
      obtain ⟨wi, rfl⟩ : ∃ wi : World, wi = wr := ⟨_, rfl⟩
      have HOI := Lib.hid hown
      have HES := Lib.hid hes
      have HIN := Lib.hid hints
      have HBI := Lib.hid hbi
      have HBW := Lib.hid (HBR.out.trans (hbi.mono HBR.out.size))
      have hsz := hbi.size
      have hszW := HBW.out.size
      obtain ⟨m0, m1⟩ := HM.out wi HBW.out
      clear hown hes hints hbi k0
      by_cases hjl : es.length < l.length
      case neg =>
        have hjI : ¬ (es.length : Int) < (l.length : Int) := by omega
        obtain ⟨A', c', e5, -⟩ := SlC.own HOI.out
        subst e5
        have hrow : RowA W wi u3 (.slice A' es.length c') l := by
          have h1 := HES.out
          rw [List.take_of_length_le (by omega)] at h1
          exact ⟨⟨es, h1, SlC.own HOI.out, HIN.out⟩, fun k hk => ⟨(World.ownsRow.lt HOI.out k hk).2, fun e => by have := (World.ownsRow.lt HO.out k e).2; have := (World.ownsRow.lt HOI.out k hk).1; omega⟩⟩
        have HRW := Lib.hid hrow
        have HO2 := Lib.hid (own_kept_below HO.out HBI.out)
        have HR2 := Lib.hid (HR.out.mono fun x l h => h.below HBI.out)
        clear hrow
        go_wp2_with (at_builtin; refine wpList_append_lies _ (by rfl) (.tmp 47) (.tmp 49) 58 (by rfl) W.heap.size 121 i8 (.slice none 0 0) 1 24 Tryz.underlying58 hi8 hz80 hz81 hz82 rfl (by decide) u3 xs.length xs (by rfl) (World.ownsRow.alloc HO2.out _) ⟨wi.heap.size, 0, none⟩ 1 1 [.slice A' es.length c'] (by rfl) rfl (cell_one_new _ _ _) (by simp [Value.oneCell']) (by omega) (by omega) (by omega) (by simp; omega) (wi.heap.size + 1) (by simp) ?_; intro g1 cap1 w7 hown7 hgrow7 hat7 hlt7; have HO7 := Lib.hid hown7; have HG7 := Lib.hid hgrow7; have HAT7 := Lib.hid hat7; clear hown7 hgrow7 hat7)
        go_roundw
        case rel =>
          refine ⟨xs.length + 1, xs ++ [.slice A' es.length c'], by omega, by go_num, by simp, ?_, ?_, ?_⟩
          · rw [List.length_append]; exact HO7.out
          · have hal : Below wi.heap.size wi (wi.alloc (.cells #[.slice A' es.length c'] 121)) := (Below.refl _ _).alloc (Nat.le_refl _) _
            have hst : ∀ x m, RowA W wi u3 x m → RowA W w7 (.slice (some ⟨g1, 0, none⟩) (xs.length + 1) cap1) x m := fun x m hx =>
              (hx.below hal).step HG7.out.size (fun b hb hn => HG7.out.block b hb hn) (by
                rcases HAT7.out with e | e
                · exact .inl e.symm
                · exact .inr ⟨g1, rfl, by rw [e]; simp⟩)
            rw [List.take_add_one, HLX.out]
            exact F2.snoc (HR2.out.mono hst) (hst _ _ HRW.out)
          · exact below_grown (HBW.out.alloc HBW.out.size _) HG7.out (Nat.le_trans HBW.out.size (by simp)) (fun k hk => (World.ownsRow.lt HO2.out k hk).1)
        case measure => simp [intOf]; omega
      obtain ⟨xb, xo, rfl, hc⟩ := HL.out.at (by omega)
      obtain ⟨d, hd⟩ : ∃ d, l[es.length]? = some d := ⟨l[es.length], List.getElem?_eq_getElem hjl⟩
      obtain ⟨FA, fn, fc, TA, tn, tc, hF, hT, c0, c1, c2, c3, c4⟩ := hc es.length d hd
      have HD := Lib.hid hd
      have HF := Lib.hid hF
      have HTT := Lib.hid hT
      have cc : ∀ (a : Addr) u, W.cell? a = some u → wi.cell? a = some u := fun a u e => (HBW.out.cell (World.block_lt_of_cell? W _ e)).trans e
      have q0 := cc _ _ c0
      have q1 := cc _ _ c1
      have q2 := cc _ _ c2
      have q3 := cc _ _ c3
      have q4 := cc _ _ c4
      have hjI : (es.length : Int) < (l.length : Int) := by omega
      have hj0 : (0 : Int) ≤ (es.length : Int) := by omega
      clear hc hd hF hT c0 c1 c2 c3 c4 cc
      go_upto_region 10 with fail
      refine wp_letter (fun wx => Blk wx wi.heap.size 47 [.int .u8 (d.letter : Int), .int .i64 d.mod, .bool d.nt, .slice FA fn fc, .slice TA tn tc] ∧ wx.ownsRow wo.heap.size 118 5 u5 es.length (cellsC es) ∧ Below wo.heap.size wo wx) ⟨Blk.made _ 47 _ _ _ rfl rfl, World.ownsRow.alloc HOI.out _, HBI.out.alloc HBI.out.size _⟩ ?_
      rintro wx ⟨z1, z2, z3⟩
      have Z1 := Lib.hid z1
      have Z2 := Lib.hid z2
      have Z3 := Lib.hid z3
      have hszx := z3.size
      have k0 := z1.cell 0
      have k1 := z1.cell 1
      have k2 := z1.cell 2
      have k3 := z1.cell 3
      have k4 := z1.cell 4
      simp only [List.getElem?_cons_zero, List.getElem?_cons_succ] at k0 k1 k2 k3 k4
      generalize wi.heap.size = gi at *
      clear z1 z2 z3 q0 q1 q2 q3 q4 m0 m1
      go_wp2_with (at_builtin; refine wpList_append_lies _ (by rfl) (.tmp 33) (.tmp 45) 121 (by rfl) wo.heap.size 118 i7 (.agg #[.int .u8 0, .int .i64 0, .bool false, .slice none 0 0, .slice none 0 0]) 5 72 Tryz.underlying121 hi7 hz70 hz71 hz72 rfl (by decide) u5 es.length (cellsC es) (by rfl) (World.ownsRow.alloc Z2.out _) ⟨wx.heap.size, 0, none⟩ 1 1 (five (d, .slice FA fn fc, .slice TA tn tc)) (by rfl) rfl (World.news_of_block (heap_alloc_new wx _)) (five_one _ ⟨⟨_, _, _, rfl⟩, ⟨_, _, _, rfl⟩⟩) (by omega) (by omega) (by omega) (by simp; omega) (wx.heap.size + 1) (by simp) ?_; intro g1 cap1 w7 hown7 hgrow7 hat7 hlt7; have HO7 := Lib.hid hown7; have HG7 := Lib.hid hgrow7; have HAT7 := Lib.hid hat7; clear hown7 hgrow7 hat7)
      go_roundw
      case rel =>
        refine ⟨es.length + 1, es ++ [(d, .slice FA fn fc, .slice TA tn tc)], by omega, by go_num, by simp, ?_, ?_, ?_, ?_⟩
        · rw [List.take_add_one, HD.out, List.map_append, HES.out]; rfl
        · rw [cellsC_snoc, List.length_append]; exact HO7.out
        · intro e he
          rcases List.mem_append.1 he with he | he
          · exact HIN.out e he
          · obtain rfl := List.mem_singleton.1 he
            exact ⟨⟨_, _, _, rfl, HF.out⟩, ⟨_, _, _, rfl, HTT.out⟩⟩
        · exact below_grown (Z3.out.alloc Z3.out.size _) HG7.out (Nat.le_trans Z3.out.size (by simp)) (fun k hk => (World.ownsRow.lt Z2.out k hk).1)
      case measure => simp [intOf]; omega
end Go.Proofs.YtdgleeglndcjhaaGreatDoor
