/- Law: RuleNot. -/
import Derived.Test.YtdgleeglndcjhaaGreatDoorP8
namespace Go.Proofs.YtdgleeglndcjhaaGreatDoor
open Go.RowKit
set_option linter.unusedVariables false
set_option linter.unusedSimpArgs false

set_option exponentiation.threshold 5000 in
theorem decK_lt {b : Bool} {l : List Nat} {sc : Int} (hw : Wd l) (hl : l.length ≤ 10) : decK b l sc < 2 ^ (32 * 10) := by
  unfold decK
  split
  · refine Nat.lt_of_lt_of_le (val_lt l hw) ?_
    rw [show (4294967296 : Nat) = 2 ^ 32 from rfl, ← Nat.pow_mul]
    exact Nat.pow_le_pow_right (by omega) (by omega)
  · exact Nat.pow_pos (by omega)

theorem ruleIs_one {w : World} {g1 g2 : Nat} {d : Cnd} {FA TA : Option Addr} {fn fc tn tc : Nat} (h1 : Blk w g1 47 [.int .u8 (d.letter : Int), .int .i64 d.mod, .bool d.nt, .slice FA fn fc, .slice TA tn tc]) (h2 : Blk w g2 48 [.slice (some ⟨g1, 0, none⟩) 1 1])
    (hF : IntsAre w FA fn fc d.fr) (hT : IntsAre w TA tn tc d.to) : RuleIs w (some ⟨g2, 0, none⟩) 1 1 [[d]] := by
  refine ⟨[.slice (some ⟨g1, 0, none⟩) 1 1], h2.slc 1 1 (by simp) (by omega), .cons ⟨_, _, _, rfl, ⟨[(d, .slice FA fn fc, .slice TA tn tc)], rfl, ⟨_, _, rfl, by simp, rfl, fun _ => ⟨g1, 0, rfl, fun j x hx => ?_⟩⟩, fun e he => ?_⟩⟩ .nil⟩
  · rw [Nat.zero_add, h1.cell j]; exact hx
  · obtain rfl := List.mem_singleton.1 he
    exact ⟨⟨_, _, _, rfl, hF⟩, ⟨_, _, _, rfl, hT⟩⟩

set_option maxRecDepth 100000 in
set_option maxHeartbeats 16000000 in
theorem law_RuleNot (w : World) (s : ByteArray) (b : Bool) (A : Option Addr) (n c : Nat) (l : List Nat) (sc : Int) (hG : GW w) (h : RL w (.slice A n c) l) :
    Calls Tryz.prog 5 #[.string s, .agg #[.bool b, .slice A n c, .int .i64 sc]] w fun e w' => e = .returned (.bool true) ∧ Below w.heap.size w w' := by
  have HG := Lib.hid hG
  have HX := Lib.hid h
  obtain rfl : n = l.length := by obtain ⟨A', c', h1, -⟩ := h.form; exact (Value.slice.inj h1).2.1
  clear hG h
  go_enter Tryz.func5, Tryz.ntmps5
  go_upto_region 1 with fail
  refine wp_letter (fun w1 => Blk w1 w.heap.size 26 [.bool b, .slice A l.length c, .int .i64 sc] ∧ Below w.heap.size w w1) ⟨Blk.made _ 26 _ _ _ rfl rfl, (Below.refl _ _).alloc (Nat.le_refl _) _⟩ ?_
  rintro w1 ⟨b0, hb⟩
  have B1 := Lib.hid b0
  have HB1 := Lib.hid hb
  clear b0 hb
  go_wp2_with fail
  refine (law_awake w1 (HG.out.below HB1.out (Nat.le_refl _))).mono ?_
  rintro e w2 ⟨rfl, hb2⟩
  have B2 := Lib.hid (B1.out.below hb2 B1.out.lt)
  have HB2 := Lib.hid (HB1.out.trans (hb2.mono HB1.out.size))
  clear hb2 B1 HB1
  dsimp only
  go_wp2_with fail
  refine (rule_Parse w2 s (HG.out.below HB2.out (Nat.le_refl _))).mono ?_
  rintro e w3 ⟨RA, rn, rc, rfl, hr, hb3⟩
  obtain ⟨g3, hg3⟩ : ∃ g3, w3.heap.size = g3 := ⟨_, rfl⟩
  have R3 := Lib.hid (RuleIs.below hr.is ((Below.refl w3.heap.size w3).alloc (Nat.le_refl _) (.cells #[.slice RA rn rc] 30)) (Nat.le_refl _))
  have E3 : Hid (Blk (w3.alloc (.cells #[.slice RA rn rc] 30)) g3 30 [.slice RA rn rc]) := by rw [← hg3]; exact Blk.made w3 30 [.slice RA rn rc] w3.heap.size #[.slice RA rn rc] rfl rfl
  have B3 := Lib.hid ((B2.out.below hb3 B2.out.lt).alloc (.cells #[.slice RA rn rc] 30))
  have HB3 := Lib.hid ((HB2.out.trans (hb3.mono HB2.out.size)).alloc (Nat.le_trans HB2.out.size hb3.size) (.cells #[.slice RA rn rc] 30))
  have hlt3 : w.heap.size < g3 := by have := B2.out.lt; have := hb3.size; omega
  clear hr hb3 B2 HB2
  dsimp only
  go_upto_region 4 with fail
  try rw [hg3]
  refine wp_letter (fun w4 => Blk w4 w.heap.size 26 [.bool b, .slice A l.length c, .int .i64 sc] ∧ Blk w4 g3 30 [.slice RA rn rc] ∧ RuleIs w4 RA rn rc (parseR s.data.toList).2 ∧ Below w.heap.size w w4) ⟨B3.out, E3.out, R3.out, HB3.out⟩ ?_
  clear E3 B3 R3 HB3 hg3
  rintro w4 ⟨x0, x1, x2, x3⟩
  have B4 := Lib.hid x0
  have E4 := Lib.hid x1
  have R4 := Lib.hid x2
  have HB4 := Lib.hid x3
  have HG4 := Lib.hid (HG.out.below x3 (Nat.le_refl _))
  have k1 := x0.cell 1
  have e0 := x1.cell 0
  simp only [List.getElem?_cons_zero, List.getElem?_cons_succ] at k1 e0
  have hsl : s.data.toList.length = s.size := (Lib.size_eq s).symm
  clear x0 x1 x2 x3
  by_cases h200 : 200 < s.size
  · have hI : (200 : Int) < (s.size : Int) := by omega
    go_wp2_with fail
    go_ret
    exact ⟨rfl, HB4.out⟩
  have hI : ¬ (200 : Int) < (s.size : Int) := by omega
  by_cases h10 : 10 < l.length
  · have hI2 : (10 : Int) < (l.length : Int) := by omega
    go_wp2_with fail
    go_ret
    exact ⟨rfl, HB4.out⟩
  have hI2 : ¬ (10 : Int) < (l.length : Int) := by omega
  rcases parseR_cases s.data.toList with ⟨x, h1, h2⟩ | ⟨e, h1, h2⟩
  case inr =>
    rw [h1]
    clear h1
    dsimp only
    rcases h2 with rfl | rfl
    · go_wp2_with fail
      go_ret
      exact ⟨rfl, HB4.out⟩
    · go_wp2_with fail
      go_ret
      exact ⟨rfl, HB4.out⟩
  rw [h1] at R4 ⊢
  have H1 := Lib.hid h1
  have HSm := Lib.hid h2
  obtain rfl : rn = x.length := R4.out.len
  have hxl := h2.len
  clear h1 h2
  dsimp only
  by_cases hx1 : x.length = 1
  case neg =>
    have hI3 : ((x.length : Int) != 1) = true := by simp; omega
    go_wp2_with fail
    go_ret
    exact ⟨rfl, HB4.out⟩
  obtain ⟨cs, rfl⟩ := List.length_eq_one_iff.1 hx1
  obtain ⟨rb, ro, rfl, hrow⟩ := R4.out.at (by simp)
  obtain ⟨CA, cn, cc, c0, hC⟩ := hrow 0 cs rfl
  rw [Nat.add_zero] at c0
  obtain rfl : cn = cs.length := hC.len
  have HC := Lib.hid hC
  have hcl := (HSm.out.rows cs (by simp)).1
  clear hC hrow hx1 hxl
  simp only [List.length_singleton] at *
  by_cases hc1 : cs.length = 1
  case neg =>
    have hI3 : ((cs.length : Int) != 1) = true := by simp; omega
    go_wp2_with fail
    go_ret
    exact ⟨rfl, HB4.out⟩
  obtain ⟨d, rfl⟩ := List.length_eq_one_iff.1 hc1
  obtain ⟨cb, co, rfl, hcd⟩ := HC.out.at (by simp)
  obtain ⟨FA, fn, fc, TA, tn, tc, hF, hT, d0, d1, d2, d3, d4⟩ := hcd 0 d rfl
  simp only [Nat.zero_mul, Nat.add_zero] at d0 d1 d2 d3 d4
  have HF := Lib.hid hF
  have HTT := Lib.hid hT
  clear hcd hc1 hcl hF hT
  simp only [List.length_singleton] at *
  go_upto_region 9 with fail
  obtain ⟨d', hd'⟩ : ∃ d' : Cnd, d' = { d with nt := !d.nt } := ⟨_, rfl⟩
  have HD' := Lib.hid hd'
  have h4z := HB4.out.size
  have hba : Below w4.heap.size w4 ((((w4.alloc (.cells #[.int .u8 (d.letter : Int), .int .i64 d.mod, .bool (!d.nt), .slice FA fn fc, .slice TA tn tc] 47)).alloc (.cells #[.int .u8 (d.letter : Int), .int .i64 d.mod, .bool (!d.nt), .slice FA fn fc, .slice TA tn tc] 47)).alloc (.cells #[.slice (some ⟨w4.heap.size + 1, 0, none⟩) 1 1] 48)).alloc (.cells #[.slice (some ⟨w4.heap.size + 1 + 1, 0, none⟩) 1 1] 30)) := ((((Below.refl _ _).alloc (Nat.le_refl _) _).alloc (by simp) _).alloc (by simp; omega) _).alloc (by simp; omega) _
  have q1 : Blk ((((w4.alloc (.cells #[.int .u8 (d.letter : Int), .int .i64 d.mod, .bool (!d.nt), .slice FA fn fc, .slice TA tn tc] 47)).alloc (.cells #[.int .u8 (d.letter : Int), .int .i64 d.mod, .bool (!d.nt), .slice FA fn fc, .slice TA tn tc] 47)).alloc (.cells #[.slice (some ⟨w4.heap.size + 1, 0, none⟩) 1 1] 48)).alloc (.cells #[.slice (some ⟨w4.heap.size + 1 + 1, 0, none⟩) 1 1] 30)) (w4.heap.size + 1) 47 [.int .u8 (d.letter : Int), .int .i64 d.mod, .bool (!d.nt), .slice FA fn fc, .slice TA tn tc] := ((Blk.made (w4.alloc (.cells #[.int .u8 (d.letter : Int), .int .i64 d.mod, .bool (!d.nt), .slice FA fn fc, .slice TA tn tc] 47)) 47 [.int .u8 (d.letter : Int), .int .i64 d.mod, .bool (!d.nt), .slice FA fn fc, .slice TA tn tc] (w4.heap.size + 1) #[.int .u8 (d.letter : Int), .int .i64 d.mod, .bool (!d.nt), .slice FA fn fc, .slice TA tn tc] (by simp) rfl).alloc _).alloc _
  have q2 : Blk ((((w4.alloc (.cells #[.int .u8 (d.letter : Int), .int .i64 d.mod, .bool (!d.nt), .slice FA fn fc, .slice TA tn tc] 47)).alloc (.cells #[.int .u8 (d.letter : Int), .int .i64 d.mod, .bool (!d.nt), .slice FA fn fc, .slice TA tn tc] 47)).alloc (.cells #[.slice (some ⟨w4.heap.size + 1, 0, none⟩) 1 1] 48)).alloc (.cells #[.slice (some ⟨w4.heap.size + 1 + 1, 0, none⟩) 1 1] 30)) (w4.heap.size + 1 + 1) 48 [.slice (some ⟨w4.heap.size + 1, 0, none⟩) 1 1] := (Blk.made _ 48 _ _ _ (by simp) rfl).alloc _
  have q3 : Blk ((((w4.alloc (.cells #[.int .u8 (d.letter : Int), .int .i64 d.mod, .bool (!d.nt), .slice FA fn fc, .slice TA tn tc] 47)).alloc (.cells #[.int .u8 (d.letter : Int), .int .i64 d.mod, .bool (!d.nt), .slice FA fn fc, .slice TA tn tc] 47)).alloc (.cells #[.slice (some ⟨w4.heap.size + 1, 0, none⟩) 1 1] 48)).alloc (.cells #[.slice (some ⟨w4.heap.size + 1 + 1, 0, none⟩) 1 1] 30)) (w4.heap.size + 1 + 1 + 1) 30 [.slice (some ⟨w4.heap.size + 1 + 1, 0, none⟩) 1 1] := Blk.made _ 30 _ _ _ (by simp) rfl
  have q4 := ruleIs_one (d := d') (by rw [hd']; exact q1) q2 (by rw [hd']; exact HF.out.below hba (Nat.le_refl _)) (by rw [hd']; exact HTT.out.below hba (Nat.le_refl _))
  have q5 := B4.out.below hba B4.out.lt
  have q6 := E4.out.below hba E4.out.lt
  have q7 := R4.out.below hba (Nat.le_refl _)
  have q8 := HB4.out.trans (hba.mono h4z)
  clear d0 d1 d2 d3 d4 c0 e0 k1 q1 q2 hd'
  clear hba
  generalize hW : ((((w4.alloc (.cells #[.int .u8 (d.letter : Int), .int .i64 d.mod, .bool (!d.nt), .slice FA fn fc, .slice TA tn tc] 47)).alloc (.cells #[.int .u8 (d.letter : Int), .int .i64 d.mod, .bool (!d.nt), .slice FA fn fc, .slice TA tn tc] 47)).alloc (.cells #[.slice (some ⟨w4.heap.size + 1, 0, none⟩) 1 1] 48)).alloc (.cells #[.slice (some ⟨w4.heap.size + 1 + 1, 0, none⟩) 1 1] 30)) = w5 at *
  clear hW
  have Q3 := Lib.hid q3
  have Q4 := Lib.hid q4
  have B5 := Lib.hid q5
  have E5 := Lib.hid q6
  have R5 := Lib.hid q7
  have HB5 := Lib.hid q8
  have HG5 := Lib.hid (HG.out.below q8 (Nat.le_refl _))
  have k0 := q5.cell 0
  have k1 := q5.cell 1
  have k2 := q5.cell 2
  simp only [List.getElem?_cons_zero, List.getElem?_cons_succ] at k0 k1 k2
  clear q3 q4 q5 q6 q7 q8 HB4 B4 E4 R4 HF HTT HC HG4
  generalize w4.heap.size = g4 at *
  obtain ⟨m, hm⟩ : ∃ m, m = 32 * 10 := ⟨_, rfl⟩
  have HK : Hid (decK b l sc < 2 ^ m) := by rw [hm]; exact decK_lt HX.out.2 (by omega)
  go_wp2_with fail
  refine (oper_Of w5 b A l.length c l sc m HG5.out (HX.out.below HB5.out (Nat.le_refl _)) (by omega) HK.out (by omega) (by omega)).mono ?_
  generalize decK b l sc = k at *
  generalize decS b l sc = S at *
  rintro e w6 ⟨⟨ob, oA, on, oc, oB, om, od, iA, il, ic, fA, fl, fc', tA, tl, tc', rfl, r⟩, hb⟩
  obtain ⟨g6, hg6⟩ : ∃ g6, w6.heap.size = g6 := ⟨_, rfl⟩
  have hba : Below w6.heap.size w6 (w6.alloc (.cells #[.bool ob, .slice oA on oc, .slice oB om od, .slice iA il ic, .int .i64 (S : Nat), .int .i64 ((short k S).2 : Nat), .slice fA fl fc', .slice tA tl tc'] 39)) := (Below.refl _ _).alloc (Nat.le_refl _) _
  have hbb := hb.trans (hba.mono hb.size)
  have q3 := Q3.out.below hbb Q3.out.lt
  have q4 := Q4.out.below hbb (Nat.le_refl _)
  have q6 := E5.out.below hbb E5.out.lt
  have q7 := R5.out.below hbb (Nat.le_refl _)
  have q8 := HB5.out.trans (hbb.mono HB5.out.size)
  have q9 := r.below hba (Nat.le_refl _)
  have q10 : Blk (w6.alloc (.cells #[.bool ob, .slice oA on oc, .slice oB om od, .slice iA il ic, .int .i64 (S : Nat), .int .i64 ((short k S).2 : Nat), .slice fA fl fc', .slice tA tl tc'] 39)) g6 39 [.bool ob, .slice oA on oc, .slice oB om od, .slice iA il ic, .int .i64 (S : Nat), .int .i64 ((short k S).2 : Nat), .slice fA fl fc', .slice tA tl tc'] := by rw [← hg6]; exact Blk.made _ 39 _ _ _ rfl rfl
  have Q3' := Lib.hid q3
  have Q4' := Lib.hid q4
  have E6 := Lib.hid q6
  have R6 := Lib.hid q7
  have HB6 := Lib.hid q8
  have OP6 := Lib.hid q9
  have O6 := Lib.hid q10
  clear q3 q4 q6 q7 q8 q9 q10 hba hbb r hb k0 k1 k2 Q3 Q4 E5 R5 HB5 B5
  dsimp only
  go_upto_region 10 with fail
  try rw [hg6]
  refine wp_letter (fun w7 => Blk w7 (g4 + 1 + 1 + 1) 30 [.slice (some ⟨g4 + 1 + 1, 0, none⟩) 1 1] ∧ RuleIs w7 (some ⟨g4 + 1 + 1, 0, none⟩) 1 1 [[d']] ∧ Blk w7 g3 30 [.slice (some ⟨rb, ro, none⟩) 1 rc] ∧ RuleIs w7 (some ⟨rb, ro, none⟩) 1 rc [[d]] ∧ OpR w7 ob oA on oc oB om od iA il ic fA fl fc' tA tl tc' k (10 ^ S) m (k / 10 ^ S) S (short k S).2 (k % 10 ^ S) ((short k S).1 % 10 ^ (short k S).2) ∧ Blk w7 g6 39 [.bool ob, .slice oA on oc, .slice oB om od, .slice iA il ic, .int .i64 (S : Nat), .int .i64 ((short k S).2 : Nat), .slice fA fl fc', .slice tA tl tc'] ∧ Below w.heap.size w w7) ⟨Q3'.out, Q4'.out, E6.out, R6.out, OP6.out, O6.out, HB6.out⟩ ?_
  clear Q3' Q4' E6 R6 OP6 O6 HB6 hg6
  rintro w7 ⟨x0, x1, x2, x3, x4, x5, x6⟩
  have N7 := Lib.hid x0
  have NR7 := Lib.hid x1
  have E7 := Lib.hid x2
  have R7 := Lib.hid x3
  have OP7 := Lib.hid x4
  have O7 := Lib.hid x5
  have HB7 := Lib.hid x6
  have HG7 := Lib.hid (HG.out.below x6 (Nat.le_refl _))
  clear x0 x1 x2 x3 x4 x5 x6
  have HN : Hid (holdsV (ofVal k S) [[d']] = !holdsV (ofVal k S) [[d]]) := by have := holds_not (ofVal k S) H1.out (by omega); rw [← HD'.out] at this; exact this
  have HSN : Hid (SmallR [[d']]) := by have := smallR_good (good_not H1.out (by omega)); rw [← HD'.out] at this; exact this
  generalize hp : holdsV (ofVal k S) [[d]] = p at *
  have HP := Lib.hid hp
  clear hp
  have HF : Hid (∀ w', Below w7.heap.size w7 w' → w'.cell? ⟨g4 + 1 + 1 + 1, 0, none⟩ = some (.slice (some ⟨g4 + 1 + 1, 0, none⟩) 1 1) ∧ w'.cell? ⟨g3, 0, none⟩ = some (.slice (some ⟨rb, ro, none⟩) 1 rc) ∧ w'.cell? ⟨g6, 0, none⟩ = some (.bool ob) ∧ w'.cell? ⟨g6, 1, none⟩ = some (.slice oA on oc) ∧ w'.cell? ⟨g6, 2, none⟩ = some (.slice oB om od) ∧ w'.cell? ⟨g6, 3, none⟩ = some (.slice iA il ic) ∧ w'.cell? ⟨g6, 4, none⟩ = some (.int .i64 (S : Nat)) ∧ w'.cell? ⟨g6, 5, none⟩ = some (.int .i64 ((short k S).2 : Nat)) ∧ w'.cell? ⟨g6, 6, none⟩ = some (.slice fA fl fc') ∧ w'.cell? ⟨g6, 7, none⟩ = some (.slice tA tl tc')) := fun w' h => by
    have d := O7.out.below h O7.out.lt
    exact ⟨(N7.out.below h N7.out.lt).cell 0, (E7.out.below h E7.out.lt).cell 0, d.cell 0, d.cell 1, d.cell 2, d.cell 3, d.cell 4, d.cell 5, d.cell 6, d.cell 7⟩
  refine wp_region_but (fun w' => Below w7.heap.size w7 w') (by kernel_rfl) (by kernel_rfl) (Below.refl _ _).drew (fun hHeld => ?_)
  simp only [initL, lastL]
  have HB0 := Lib.hid hHeld
  refine takeL (i := 0) (v := ?v1) rfl (by kernel_rfl) (by kernel_rfl) (by kernel_rfl) (fun _ _ _ h => h) (Or.inl ⟨by rfl, ?hy1⟩) (by assumption) ?rest1
  case hy1 => (intro wz hSz; (have hfz := HF.out wz hSz); go_split_ands; (first | (go_simp; done) | (go_simp; with_reducible rfl)))
  try simp only [Act.put, List.setIfInBounds_toArray, List.set_cons_zero, List.set_cons_succ]
  refine takeL (i := 1) (v := ?v2) rfl (by kernel_rfl) (by kernel_rfl) (by kernel_rfl) (fun _ _ _ h => h) (Or.inl ⟨by rfl, ?hy2⟩) (by assumption) ?rest2
  case hy2 => (intro wz hSz; (have hfz := HF.out wz hSz); go_split_ands; (first | (go_simp; done) | (go_simp; with_reducible rfl)))
  try simp only [Act.put, List.setIfInBounds_toArray, List.set_cons_zero, List.set_cons_succ]
  refine takeL (i := 3) (v := ?v3) rfl (by kernel_rfl) (by kernel_rfl) (by kernel_rfl) (fun _ _ _ h => h) (Or.inl ⟨by rfl, ?hy3⟩) (by assumption) ?rest3
  case hy3 => (intro wz hSz; (have hfz := HF.out wz hSz); go_split_ands; (first | (go_simp; done) | (go_simp; with_reducible rfl)))
  try simp only [Act.put, List.setIfInBounds_toArray, List.set_cons_zero, List.set_cons_succ]
  refine takeL (i := 4) (v := ?v4) rfl (by kernel_rfl) (by kernel_rfl) (by kernel_rfl) (fun _ _ _ h => h) (Or.inl ⟨by rfl, ?hy4⟩) (by assumption) ?rest4
  case hy4 => (intro wz hSz; (have hfz := HF.out wz hSz); go_split_ands; (first | (go_simp; done) | (go_simp; with_reducible rfl)))
  try simp only [Act.put, List.setIfInBounds_toArray, List.set_cons_zero, List.set_cons_succ]
  refine wpAnyH_ready (rs := [2]) (by kernel_rfl) (by simp) ?_
  refine consL rfl (fun K hK => ?_) AllReadyH.nil
  go_simp
  refine (rule_Holds _ (some ⟨g4 + 1 + 1, 0, none⟩) 1 1 [[d']] (HG7.out.below HB0.out (Nat.le_refl _)) (NR7.out.below HB0.out (Nat.le_refl _)) HSN.out _ _ _ _ _ _ _ _ _ _ _ _ _ _ _ _ _ _ _ _ _ _ _ _ (OP7.out.below HB0.out (Nat.le_refl _)) (by omega) (by omega)).mono ?_
  rintro e w105 ⟨he, hb⟩
  rw [show holdsV (opVal k (10 ^ S) (k / 10 ^ S) S (short k S).2 (k % 10 ^ S) ((short k S).1 % 10 ^ (short k S).2)) [[d']] = !p from HN.out] at he
  subst he
  have HB5 := Lib.hid (below_on HB0.out (Nat.le_refl _) hb)
  clear hb
  dsimp only
  try clear hHeld
  refine hK.out _ _ (HB5.out) (fun hHeld => ?_)
  clear hK K
  try simp only [Act.put, List.setIfInBounds_toArray, List.set_cons_zero, List.set_cons_succ]
  refine wpAnyH_ready (rs := [5]) (by kernel_rfl) (by simp) ?_
  refine consL rfl (fun K hK => ?_) AllReadyH.nil
  go_simp
  refine (rule_Holds _ (some ⟨rb, ro, none⟩) 1 rc [[d]] (HG7.out.below HB5.out (Nat.le_refl _)) (R7.out.below HB5.out (Nat.le_refl _)) HSm.out _ _ _ _ _ _ _ _ _ _ _ _ _ _ _ _ _ _ _ _ _ _ _ _ (OP7.out.below HB5.out (Nat.le_refl _)) (by omega) (by omega)).mono ?_
  rintro e w106 ⟨he, hb⟩
  rw [show holdsV (opVal k (10 ^ S) (k / 10 ^ S) S (short k S).2 (k % 10 ^ S) ((short k S).1 % 10 ^ (short k S).2)) [[d]] = p from HP.out] at he
  subst he
  have HB6 := Lib.hid (below_on HB5.out (Nat.le_refl _) hb)
  clear hb
  dsimp only
  try clear hHeld
  refine hK.out _ _ (HB6.out) (fun hHeld => ?_)
  clear hK K
  try simp only [Act.put, List.setIfInBounds_toArray, List.set_cons_zero, List.set_cons_succ]
  refine takeL (i := 6) (v := ?v7) rfl (by kernel_rfl) (by kernel_rfl) (by kernel_rfl) (fun _ _ _ h => h) (Or.inl ⟨by rfl, ?hy7⟩) (by assumption) ?rest7
  case hy7 => (intro wz hSz; (have hfz := HF.out wz hSz); go_split_ands; (first | (go_simp; done) | (go_simp; with_reducible rfl)))
  try simp only [Act.put, List.setIfInBounds_toArray, List.set_cons_zero, List.set_cons_succ]
  refine wpAnyH_done (by kernel_rfl) ?_ _
  clear hHeld
  unfold TailQ
  go_wp2_with fail
  go_ret
  exact ⟨by cases p <;> rfl, HB7.out.trans (HB6.out.mono HB7.out.size)⟩
end Go.Proofs.YtdgleeglndcjhaaGreatDoor
