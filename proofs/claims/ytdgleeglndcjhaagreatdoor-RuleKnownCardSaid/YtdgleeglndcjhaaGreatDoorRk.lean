/- Law: RuleKnown; its closed facts. -/
import Derived.Test.YtdgleeglndcjhaaGreatDoorP9
namespace Go.Proofs.YtdgleeglndcjhaaGreatDoor
open Go.RowKit
set_option linter.unusedVariables false
set_option linter.unusedSimpArgs false

def exB : Bs := [110, 32, 37, 32, 49, 48, 32, 61, 32, 51, 46, 46, 52, 44, 57, 32, 97, 110, 100, 32, 110, 32, 37, 32, 49, 48, 48, 32, 33, 61, 32, 49, 48, 46, 46, 49, 57, 32, 111, 114, 32, 118, 32, 33, 61, 32, 48]
def exR : Rl := [[mkC 110 10 false [(3, 4), (9, 9)], mkC 110 100 true [(10, 19)]], [mkC 118 0 true [(0, 0)]]]
theorem parse_exB : parseR exB = (0, exR) := by decide +kernel
theorem good_exR : goodR exR = true := (parse_back parse_exB).1
theorem write_exR : writeR exR = exB := by decide +kernel
theorem hold_x0 : holdsP exB [49, 48, 52] = true := by decide +kernel
theorem hold_x1 : holdsP exB [49, 52] = false := by decide +kernel
theorem hold_x2 : holdsP exB [49, 52, 46, 48] = true := by decide +kernel
theorem hold_x3 : holdsP [110, 32, 61, 32, 49, 46, 46, 50] [49, 46, 53] = false := by decide +kernel
theorem hold_x4 : holdsP [110, 32, 33, 61, 32, 49, 46, 46, 50] [49, 46, 53] = true := by decide +kernel
theorem hold_x5 : holdsP [110, 32, 61, 32, 49] [45, 49] = true := by decide +kernel
theorem hold_x6 : holdsP [101, 32, 61, 32, 48] [55] = true := by decide +kernel
theorem hold_x7 : holdsP [110, 32, 61, 32, 49, 46, 46, 49] [49] = true := by decide +kernel
def badL : List Bs := [[], [110], [110, 32, 61], [110, 32, 61, 32], [110, 32, 61, 32, 48, 49], [110, 32, 32, 61, 32, 49], [32, 110, 32, 61, 32, 49], [110, 32, 61, 32, 49, 32], [110, 32, 61, 32, 49, 32, 97, 110, 100], [110, 32, 61, 32, 50, 46, 46, 49], [110, 32, 61, 32, 49, 44], [110, 32, 61, 32, 49, 46, 46], [110, 32, 37, 32, 48, 32, 61, 32, 49], [110, 32, 37, 32, 49], [120, 32, 61, 32, 49], [110, 32, 61, 61, 32, 49], [110, 32, 61, 32, 49, 32, 120, 111, 114, 32, 118, 32, 61, 32, 48], [110, 32, 61, 32, 49, 50, 51, 52, 53, 54, 55, 56, 57, 48], [110, 32, 61, 32, 49, 46, 46, 50, 46, 46, 51], [110, 110, 32, 61, 32, 49], [110, 32, 37, 32, 49, 48, 32, 49, 48, 32, 61, 32, 49]]
theorem bad_all : ∀ x ∈ badL, parseR x = (2, []) := by decide +kernel
theorem good_nil : goodR [] = false := by decide +kernel
theorem good_nil1 : goodR [[]] = false := by decide +kernel
theorem good_half : goodR [[⟨110, 0, false, [1], []⟩]] = false := by decide +kernel
theorem parse_long {x : Bs} (h : 256 < x.length) : parseR x = (11, []) := by unfold parseR; rw [if_pos h]
theorem strs_made {w : World} {g : Nat} {ws : List Bs} (h : Blk w g 9 (ws.map fun b => Value.string ⟨b.toArray⟩)) : StrsAre w (some ⟨g, 0, none⟩) ws.length ws.length ws := by
  have := h.slc ws.length ws.length (by simp) (Nat.le_refl _)
  rw [List.take_of_length_le (by simp)] at this
  exact this

set_option maxRecDepth 100000 in
set_option maxHeartbeats 8000000 in
theorem rule_HoldsNo (w : World) (RA : Option Addr) (rn rc : Nat) (r : Rl) (hG : GW w) (hr : RuleIs w RA rn rc r) (hs : SmallR r) (hbad : goodR r = false) (b : Bool) (A A' iA fA tA : Option Addr) (n c n' c' il ic fl fc tl tc : Nat) (v u : Int) :
    Calls Tryz.prog 16 #[.agg #[.slice RA rn rc], .agg #[.bool b, .slice A n c, .slice A' n' c', .slice iA il ic, .int .i64 v, .int .i64 u, .slice fA fl fc, .slice tA tl tc]] w fun e w' => e = .returned (.bool false) ∧ Below w.heap.size w w' := by
  have HG := Lib.hid hG
  have HX := Lib.hid hr
  have HS := Lib.hid hs
  have HBAD := Lib.hid hbad
  have hmf : ∀ (fn : Fn) (first cap : Array Value) (w : World), (Instr.makeFunc fn first cap).run Tryz.prog w = .ok (.func fn first cap) w := fun _ _ _ _ => rfl
  clear hG hr hs hbad
  go_enter Tryz.func16, Tryz.ntmps16
  go_upto_region 1 with fail
  refine wp_letter (fun w1 => Blk w1 w.heap.size 30 [.slice RA rn rc] ∧ Below w.heap.size w w1) ⟨(Blk.made _ 30 _ _ _ rfl rfl).alloc _, ((Below.refl _ _).alloc (Nat.le_refl _) _).alloc (by simp) _⟩ ?_
  rintro w1 ⟨b0, hb⟩
  have B0 := Lib.hid b0
  have HB := Lib.hid hb
  have k0 := b0.cell 0
  simp only [List.getElem?_cons_zero] at k0
  clear b0 hb
  go_wp2_with fail
  refine (rule_Good w1 RA rn rc r (HG.out.below HB.out (Nat.le_refl _)) (HX.out.below HB.out (Nat.le_refl _)) HS.out).mono ?_
  rw [HBAD.out]
  rintro e w2 ⟨rfl, hb2⟩
  have HB2 := Lib.hid (HB.out.trans (hb2.mono HB.out.size))
  clear hb2 k0 B0 HB
  dsimp only
  go_wp2_with fail
  go_ret
  exact ⟨rfl, HB2.out⟩
/-- The world with the chapter's rule in block g. -/
def KnW (w : World) (g : Nat) (RA : Option Addr) (c : Nat) (w' : World) : Prop := Blk w' g 30 [.slice RA 2 c] ∧ RuleIs w' RA 2 c exR ∧ Below w.heap.size w w'
theorem KnW.below {w w1 w2 : World} {g c : Nat} {RA : Option Addr} (h : KnW w g RA c w1) (hb : Below w1.heap.size w1 w2) : KnW w g RA c w2 := ⟨h.1.below hb h.1.lt, h.2.1.below hb (Nat.le_refl _), h.2.2.trans (hb.mono h.2.2.size)⟩
theorem KnW.k0 {w w1 : World} {g c : Nat} {RA : Option Addr} (h : KnW w g RA c w1) : w1.cell? ⟨g, 0, none⟩ = some (.slice RA 2 c) := h.1.cell 0
theorem show_exR (w : World) (g c : Nat) (RA : Option Addr) (w1 : World) (hG : GW w) (h : KnW w g RA c w1) : Calls Tryz.prog 19 #[.agg #[.slice RA 2 c]] w1 fun e w' => e = .returned (.string ⟨exB.toArray⟩) ∧ KnW w g RA c w' :=
  (rule_Show w1 RA 2 c exR (hG.below h.2.2 (Nat.le_refl _)) h.2.1 (smallR_good good_exR)).mono fun e w' ⟨he, hb⟩ => ⟨by rw [he, good_exR, if_pos rfl, write_exR], h.below hb⟩
theorem good_exRW (w : World) (g c : Nat) (RA : Option Addr) (w1 : World) (hG : GW w) (h : KnW w g RA c w1) : Calls Tryz.prog 17 #[.agg #[.slice RA 2 c]] w1 fun e w' => e = .returned (.bool true) ∧ KnW w g RA c w' :=
  (rule_Good w1 RA 2 c exR (hG.below h.2.2 (Nat.le_refl _)) h.2.1 (smallR_good good_exR)).mono fun e w' ⟨he, hb⟩ => ⟨by rw [he, good_exR], h.below hb⟩
theorem hold_W (w : World) (g c : Nat) (RA : Option Addr) (w1 : World) (hG : GW w) (h : KnW w g RA c w1) (r d : Bs) (v : Bool) (hv : holdsP r d = v) : Calls Tryz.prog 20 #[.string ⟨r.toArray⟩, .string ⟨d.toArray⟩] w1 fun e w' => e = .returned (.bool v) ∧ KnW w g RA c w' :=
  (law_holds w1 r d (hG.below h.2.2 (Nat.le_refl _))).mono fun e w' ⟨he, hb⟩ => ⟨by rw [he, hv], h.below hb⟩
theorem small_nil1 : SmallR [[]] := ⟨by simp, fun l hl => by obtain rfl := List.mem_singleton.1 hl; exact ⟨by simp, fun c hc => by cases hc⟩⟩
theorem rule_nil (w : World) : RuleIs w none 0 0 [] := ⟨[], SlC.nil _ _ _ _, .nil⟩
theorem rule_nil1 {w : World} {g : Nat} (h : Blk w g 48 [.slice none 0 0]) : RuleIs w (some ⟨g, 0, none⟩) 1 1 [[]] := ⟨[.slice none 0 0], h.slc 1 1 (by simp) (by omega), .cons ⟨none, 0, 0, rfl, [], rfl, SlC.nil _ _ _ _, fun e he => (by cases he)⟩ .nil⟩
theorem small_half : SmallR [[⟨110, 0, false, [1], []⟩]] := ⟨by simp, fun l hl => by
  obtain rfl := List.mem_singleton.1 hl
  refine ⟨by simp, fun d hd => ?_⟩
  obtain rfl := List.mem_singleton.1 hd
  refine ⟨by decide, by unfold In64; decide, fun x hx => ?_, fun x hx => ?_, by decide, by decide⟩
  · obtain rfl : x = 1 := by simpa using hx
    unfold In64; decide
  · cases hx⟩
theorem make_rows (w : World) : (Instr.makeSlice 28 (.int .i64 1) (.int .i64 1)).run Tryz.prog w = .ok (.slice (some ⟨w.heap.size, 0, none⟩) 1 1) (w.alloc (.cells #[.slice none 0 0] 48)) := by
  obtain ⟨i8, hi8, hz80, hz81, hz82⟩ := info_parts Tryz_info48
  have hr := run_make (P := Tryz.prog) w 28 48 i8 (.slice none 0 0) Tryz.underlying28 hi8 hz80 .i64 .i64 1 1 (by omega) (by omega) (by rw [hz82]; omega) (by omega)
  simp only [hz81, show (Value.slice none 0 0).cells = #[.slice none 0 0] from rfl, madeCells_one] at hr
  exact hr

set_option maxRecDepth 100000 in
set_option maxHeartbeats 64000000 in
theorem law_RuleKnown (w : World) (hG : GW w) :
    Calls Tryz.prog 6 #[] w fun e w' => e = .returned (.bool true) ∧ Below w.heap.size w w' := by
  have HG := Lib.hid hG
  clear hG
  go_enter Tryz.func6, Tryz.ntmps6
  go_wp2_with fail
  refine (law_awake w HG.out).mono ?_
  rintro e w2 ⟨rfl, hb2⟩
  have HB2 := Lib.hid hb2
  clear hb2
  dsimp only
  go_upto_region 4 with fail
  refine wp_letter (fun w3 => StrsAre w3 (some ⟨w2.heap.size, 0, none⟩) 21 21 badL ∧ Below w.heap.size w w3) ⟨strs_made (ws := badL) (Blk.made _ 9 _ _ _ rfl rfl), HB2.out.alloc HB2.out.size _⟩ ?_
  rintro w3 ⟨z1, z2⟩
  generalize w2.heap.size = g2 at *
  have HL := Lib.hid z1
  have HB3 := Lib.hid z2
  clear z1 z2 HB2
  go_wp2_with fail
  go_loopw [2] (fun i wr => ∃ k : Nat, k ≤ 21 ∧ i = .int .i64 k ∧ Below w3.heap.size w3 wr) (fun i _ => 21 - (intOf i).toNat)
  case atStart => exact ⟨0, by omega, rfl, Below.refl _ _⟩
  case round =>
    obtain ⟨k, hk, rfl, hb⟩ := hrel
    have HBR := Lib.hid hb
    clear hb
    by_cases hlt : k < 21
    · obtain ⟨x, hx⟩ : ∃ x, badL[k]? = some x := ⟨badL[k], List.getElem?_eq_getElem (by exact hlt)⟩
      obtain ⟨b, o, e0, hc⟩ := (HL.out.below HBR.out (Nat.le_refl _)).at (by decide)
      cases e0
      have k0 := hc k x hx
      simp only [Nat.zero_add] at k0
      have HBAD := Lib.hid (bad_all x (List.mem_of_getElem? hx))
      have hkI : (k : Int) < 21 := by omega
      have hk0 : (0 : Int) ≤ (k : Int) := by omega
      clear hc hx
      obtain ⟨wo, rfl⟩ : ∃ wo : World, wo = wr := ⟨_, rfl⟩
      go_wp2_with fail
      refine (rule_Parse wo ⟨x.toArray⟩ (HG.out.below (HB3.out.trans (HBR.out.mono HB3.out.size)) (Nat.le_refl _))).mono ?_
      rw [show (⟨x.toArray⟩ : ByteArray).data.toList = x from rfl]
      unfold ParsePost
      rw [HBAD.out]
      rintro e w4 ⟨A, n, c, rfl, hr, hb4⟩
      obtain rfl : n = 0 := by have := hr.is.len; simpa using this
      have HB4 := Lib.hid (HBR.out.trans (hb4.mono HBR.out.size))
      clear hr hb4 k0
      dsimp only
      go_wp2_with fail
      go_roundw
      case rel => exact ⟨k + 1, by omega, by go_num, HB4.out.alloc HB4.out.size _⟩
      case measure => simp [intOf]; omega
    · have hkI : ¬ (k : Int) < 21 := by omega
      have HB5 := Lib.hid (HB3.out.trans (HBR.out.mono HB3.out.size))
      obtain ⟨wo, rfl⟩ : ∃ wo : World, wo = wr := ⟨_, rfl⟩
      go_wp2_with fail
      go_loop [5] (fun v => ∃ t : Bs, v = .string ⟨t.toArray⟩ ∧ t.length ≤ 258) (fun v => 300 - (match v with | .string s => s.size | _ => 0))
      case atStart => exact ⟨[110, 32, 61, 32, 49], rfl, by simp⟩
      case round =>
        obtain ⟨t, rfl, ht⟩ := hrel
        by_cases h256 : t.length ≤ 256
        · have hI : (t.length : Int) ≤ 256 := by omega
          go_wp2_with fail
          go_round
          case rel => exact ⟨t ++ [44, 49], by rw [show (⟨#[44, 49]⟩ : ByteArray) = ⟨([44, 49] : Bs).toArray⟩ from rfl, ba_app], by simp; omega⟩
          case measure => simp [Lib.size_eq]; omega
        · have hI : ¬ (t.length : Int) ≤ 256 := by omega
          have HLONG := Lib.hid (parse_long (x := t) (by omega))
          go_wp2_with fail
          refine (rule_Parse wo ⟨t.toArray⟩ (HG.out.below HB5.out (Nat.le_refl _))).mono ?_
          rw [show (⟨t.toArray⟩ : ByteArray).data.toList = t from rfl]
          unfold ParsePost
          rw [HLONG.out]
          rintro e w6 ⟨A6, n6, c6, rfl, hr, hb6⟩
          have HB6 := Lib.hid (HB5.out.trans ((hb6.alloc hb6.size (.cells #[.slice A6 n6 c6] 30)).mono HB5.out.size))
          clear hr hb6
          dsimp only
          go_upto_region 14 with fail
          refine wp_letter (fun w7 => Below w.heap.size w w7) HB6.out ?_
          rintro w7 hb7
          have HB7 := Lib.hid hb7
          clear hb7 HB6
          go_wp2_with fail
          refine (rule_Parse w7 ⟨exB.toArray⟩ (HG.out.below HB7.out (Nat.le_refl _))).mono ?_
          rw [show (⟨exB.toArray⟩ : ByteArray).data.toList = exB from rfl]
          unfold ParsePost
          rw [parse_exB]
          rintro e w8 ⟨RA, n8, c8, rfl, hr, hb8⟩
          obtain rfl : n8 = 2 := hr.is.len
          obtain ⟨g8, hg8⟩ : ∃ g8, w8.heap.size = g8 := ⟨_, rfl⟩
          have hal : Below w8.heap.size w8 (w8.alloc (.cells #[.slice RA 2 c8] 30)) := (Below.refl _ _).alloc (Nat.le_refl _) _
          have HKN : Hid (KnW w g8 RA c8 (w8.alloc (.cells #[.slice RA 2 c8] 30))) := ⟨by rw [← hg8]; exact Blk.made _ 30 _ _ _ rfl rfl, hr.is.below hal (Nat.le_refl _), HB7.out.trans ((hb8.trans (hal.mono hb8.size)).mono HB7.out.size)⟩
          clear hr hb8 hal
          dsimp only
          go_upto_region 15 with fail
          try rw [hg8]
          refine wp_letter (fun w9 => KnW w g8 RA c8 w9) HKN.out ?_
          rintro w9 hk
          have K9 := Lib.hid hk
          clear hk HKN hg8 HB7
          have k9 := K9.out.k0
          obtain ⟨rb, ro, hRA, hrow⟩ := K9.out.2.1.at (by decide)
          subst hRA
          obtain ⟨CA, cn, cc, c0, hC⟩ := hrow 0 _ rfl
          obtain rfl : cn = 2 := hC.len
          obtain ⟨cb, co, hCA, hcd⟩ := hC.at (by decide)
          subst hCA
          obtain ⟨FA, fn, fc, TA, tn, tc, -, -, -, -, d2, -, -⟩ := hcd 1 _ rfl
          rw [Nat.add_zero] at c0
          have d2' : w9.cell? ⟨cb, co + 5 + 2, none⟩ = some (.bool true) := d2
          clear hrow hC hcd d2
          go_wp2_with fail
          refine (show_exR w g8 c8 _ w9 HG.out K9.out).mono ?_
          rintro e w10 ⟨rfl, hk⟩
          have K10 := Lib.hid hk
          clear hk k9 c0 d2'
          have k10 := K10.out.k0
          dsimp only
          go_wp2_with fail
          refine (good_exRW w g8 c8 _ w10 HG.out K10.out).mono ?_
          rintro e w11 ⟨rfl, hk⟩
          have K11 := Lib.hid hk
          clear hk k10
          have k11 := K11.out.k0
          dsimp only
          go_wp2_with fail
          refine (show_exR w g8 c8 _ w11 HG.out K11.out).mono ?_
          rintro e w12 ⟨rfl, hk⟩
          have K12 := Lib.hid hk
          clear hk k11
          have k12 := K12.out.k0
          dsimp only
          go_wp2_with fail
          refine (hold_W w g8 c8 _ w12 HG.out K12.out exB [49, 48, 52] true hold_x0).mono ?_
          rintro e w13 ⟨rfl, hk⟩
          have K13 := Lib.hid hk
          clear hk k12
          have k13 := K13.out.k0
          dsimp only
          go_wp2_with fail
          refine (show_exR w g8 c8 _ w13 HG.out K13.out).mono ?_
          rintro e w14 ⟨rfl, hk⟩
          have K14 := Lib.hid hk
          clear hk k13
          have k14 := K14.out.k0
          dsimp only
          go_wp2_with fail
          refine (hold_W w g8 c8 _ w14 HG.out K14.out exB [49, 52] false hold_x1).mono ?_
          rintro e w15 ⟨rfl, hk⟩
          have K15 := Lib.hid hk
          clear hk k14
          have k15 := K15.out.k0
          dsimp only
          go_wp2_with fail
          refine (show_exR w g8 c8 _ w15 HG.out K15.out).mono ?_
          rintro e w16 ⟨rfl, hk⟩
          have K16 := Lib.hid hk
          clear hk k15
          have k16 := K16.out.k0
          dsimp only
          go_wp2_with fail
          refine (hold_W w g8 c8 _ w16 HG.out K16.out exB [49, 52, 46, 48] true hold_x2).mono ?_
          rintro e w17 ⟨rfl, hk⟩
          have K17 := Lib.hid hk
          clear hk k16
          have k17 := K17.out.k0
          dsimp only
          go_wp2_with fail
          refine (hold_W w g8 c8 _ w17 HG.out K17.out [110, 32, 61, 32, 49, 46, 46, 50] [49, 46, 53] false hold_x3).mono ?_
          rintro e w18 ⟨rfl, hk⟩
          have K18 := Lib.hid hk
          clear hk k17
          have k18 := K18.out.k0
          dsimp only
          go_wp2_with fail
          refine (hold_W w g8 c8 _ w18 HG.out K18.out [110, 32, 33, 61, 32, 49, 46, 46, 50] [49, 46, 53] true hold_x4).mono ?_
          rintro e w19 ⟨rfl, hk⟩
          have K19 := Lib.hid hk
          clear hk k18
          have k19 := K19.out.k0
          dsimp only
          go_wp2_with fail
          refine (hold_W w g8 c8 _ w19 HG.out K19.out [110, 32, 61, 32, 49] [45, 49] true hold_x5).mono ?_
          rintro e w20 ⟨rfl, hk⟩
          have K20 := Lib.hid hk
          clear hk k19
          have k20 := K20.out.k0
          dsimp only
          go_wp2_with fail
          refine (hold_W w g8 c8 _ w20 HG.out K20.out [101, 32, 61, 32, 48] [55] true hold_x6).mono ?_
          rintro e w21 ⟨rfl, hk⟩
          have K21 := Lib.hid hk
          clear hk k20
          have k21 := K21.out.k0
          dsimp only
          go_wp2_with fail
          refine (rule_Good w21 none 0 0 [] (HG.out.below K21.out.2.2 (Nat.le_refl _)) (rule_nil _) smallR_nil).mono ?_
          rw [good_nil]
          rintro e w22 ⟨rfl, hb⟩
          have K22 := Lib.hid (K21.out.below hb)
          clear hb k21
          dsimp only
          have hmk := make_rows w22
          go_wp2_with fail
          refine (rule_HoldsNo _ (some ⟨w22.heap.size, 0, none⟩) 1 1 [[]] (HG.out.below (K22.out.2.2.alloc K22.out.2.2.size _) (Nat.le_refl _)) (rule_nil1 (Blk.made _ 48 _ _ _ rfl rfl)) small_nil1 good_nil1 _ _ _ _ _ _ _ _ _ _ _ _ _ _ _ _ _ _).mono ?_
          rintro e w23 ⟨rfl, hb⟩
          have K23 := Lib.hid (K22.out.below (((Below.refl _ _).alloc (Nat.le_refl _) _).trans (hb.mono (by simp))))
          clear hb hmk
          dsimp only
          go_wp2_with fail
          refine (hold_W w g8 c8 _ w23 HG.out K23.out [110, 32, 61, 32, 49, 46, 46, 49] [49] true hold_x7).mono ?_
          rintro e w24 ⟨rfl, hk⟩
          have K24 := Lib.hid hk
          clear hk
          dsimp only
          go_wp2_with fail
          refine (rule_Good _ (some ⟨w24.heap.size + 1 + 1, 0, none⟩) 1 1 [[⟨110, 0, false, [1], []⟩]] (HG.out.below (((K24.out.2.2.alloc K24.out.2.2.size _).alloc (by have := K24.out.2.2.size; simp; omega) _).alloc (by have := K24.out.2.2.size; simp; omega) _) (Nat.le_refl _)) (ruleIs_one (d := ⟨110, 0, false, [1], []⟩) (g1 := w24.heap.size + 1) (FA := some ⟨w24.heap.size, 0, none⟩) (fn := 1) (fc := 1) (TA := none) (tn := 0) (tc := 0) ((Blk.made _ 47 _ _ _ (by simp) rfl).alloc _) (Blk.made _ 48 _ _ _ (by simp) rfl) ((((Blk.made _ 3 [.int .i64 1] _ _ rfl rfl).alloc _).alloc _).slc 1 1 (by simp) (by omega)) (SlC.nil _ _ _ _)) small_half).mono ?_
          rw [good_half]
          rintro e w25 ⟨rfl, hb⟩
          have KF := Lib.hid ((((K24.out.2.2.alloc K24.out.2.2.size _).alloc (by have := K24.out.2.2.size; simp; omega) _).alloc (by have := K24.out.2.2.size; simp; omega) _).trans (hb.mono (by have := K24.out.2.2.size; simp; omega)))
          clear hb
          dsimp only
          go_wp2_with fail
          go_ret
          exact ⟨rfl, KF.out⟩
end Go.Proofs.YtdgleeglndcjhaaGreatDoor
