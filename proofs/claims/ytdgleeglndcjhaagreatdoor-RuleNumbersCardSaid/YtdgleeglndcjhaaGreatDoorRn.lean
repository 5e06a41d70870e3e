/- Law: RuleNumbers. -/
import Derived.Test.YtdgleeglndcjhaaGreatDoorP9
namespace Go.Proofs.YtdgleeglndcjhaaGreatDoor
open Go.RowKit
set_option linter.unusedVariables false
set_option linter.unusedSimpArgs false

theorem ints_one {w : World} {g : Nat} {x : Int} (h : Blk w g 3 [.int .i64 x]) : IntsAre w (some ⟨g, 0, none⟩) 1 1 [x] := h.slc 1 1 (by simp) (by omega)
theorem smallR_one {c : Cnd} (h : SmallC c) : SmallR [[c]] := ⟨by simp, fun l hl => by
  obtain rfl := List.mem_singleton.1 hl
  exact ⟨by simp, fun d hd => by obtain rfl := List.mem_singleton.1 hd; exact h⟩⟩

theorem oper_Of0 (w : World) (A : Option Addr) (n c k : Nat) (hG : GW w) (h : SN w A n c k) (hk : k < 4294967296) :
    Calls Tryz.prog 15 #[.agg #[.bool false, .slice A n c, .int .i64 0]] w fun e w' => ∃ S, S = 0 ∧ OfR e w' k S 200 ∧ Below w.heap.size w w' :=
  (oper_OfS w false A n c k 0 200 hG h (by omega) (fun h => by cases h) (by omega) (by omega) (by omega)).mono fun e w' ⟨h1, h2⟩ => ⟨0, rfl, h1, h2⟩
theorem small_num {m f t : Nat} (nt : Bool) (hm : m < 65536) (hf : f < 65536) (ht : t < 65536) : SmallC (mkC 110 m nt [(f, t)]) := by
  have e : ∀ k : Nat, k < 65536 → In64 (k : Int) := fun k hk => by unfold In64; omega
  refine ⟨by show 110 < 256; omega, e m hm, fun x hx => ?_, fun x hx => ?_, by simp [mkC], by simp [mkC]⟩
  · obtain rfl : x = (f : Int) := by simpa [mkC] using hx
    exact e f hf
  · obtain rfl : x = (t : Int) := by simpa [mkC] using hx
    exact e t ht

set_option maxRecDepth 100000 in
set_option maxHeartbeats 32000000 in
theorem law_RuleNumbers (w : World) (n m f t : Nat) (nt : Bool) (hn : n < 4294967296) (hm : m < 65536) (hf : f < 65536) (ht : t < 65536) (hG : GW w) :
    Calls Tryz.prog 4 #[.int .u32 n, .int .u16 m, .int .u16 f, .int .u16 t, .bool nt] w fun e w' => e = .returned (.bool true) ∧ Below w.heap.size w w' := by
  have HG := Lib.hid hG
  clear hG
  go_enter Tryz.func4, Tryz.ntmps4
  go_wp2_with fail
  refine (law_awake w HG.out).mono ?_
  rintro e w2 ⟨rfl, hb2⟩
  have HB2 := Lib.hid hb2
  clear hb2
  dsimp only
  go_upto_region 5 with fail
  have q1 : Blk ((((((w2.alloc (.cells #[.int .i64 f] 3)).alloc (.cells #[.int .i64 t] 3)).alloc (.cells #[.int .u8 110, .int .i64 m, .bool nt, .slice (some ⟨w2.heap.size, 0, none⟩) 1 1, .slice (some ⟨w2.heap.size + 1, 0, none⟩) 1 1] 47)).alloc (.cells #[.int .u8 110, .int .i64 m, .bool nt, .slice (some ⟨w2.heap.size, 0, none⟩) 1 1, .slice (some ⟨w2.heap.size + 1, 0, none⟩) 1 1] 47)).alloc (.cells #[.slice (some ⟨w2.heap.size + 1 + 1 + 1, 0, none⟩) 1 1] 48)).alloc (.cells #[.slice (some ⟨w2.heap.size + 1 + 1 + 1 + 1, 0, none⟩) 1 1] 30)) (w2.heap.size + 1 + 1 + 1 + 1 + 1) 30 [.slice (some ⟨w2.heap.size + 1 + 1 + 1 + 1, 0, none⟩) 1 1] := Blk.made _ 30 _ _ _ (by simp) rfl
  refine wp_letter (fun w3 => Blk w3 (w2.heap.size + 1 + 1 + 1 + 1 + 1) 30 [.slice (some ⟨w2.heap.size + 1 + 1 + 1 + 1, 0, none⟩) 1 1] ∧ RuleIs w3 (some ⟨w2.heap.size + 1 + 1 + 1 + 1, 0, none⟩) 1 1 [[mkC 110 m nt [(f, t)]]] ∧ Below w.heap.size w w3)
    ⟨q1, ruleIs_one (g1 := w2.heap.size + 1 + 1 + 1) (FA := some ⟨w2.heap.size, 0, none⟩) (fn := 1) (fc := 1) (TA := some ⟨w2.heap.size + 1, 0, none⟩) (tn := 1) (tc := 1) (((Blk.made _ 47 _ _ _ (by simp) rfl).alloc _).alloc _) ((Blk.made _ 48 _ _ _ (by simp) rfl).alloc _)
      (ints_one ((((((Blk.made _ 3 _ _ _ (by simp) rfl).alloc _).alloc _).alloc _).alloc _).alloc _)) (ints_one (((((Blk.made _ 3 _ _ _ (by simp) rfl).alloc _).alloc _).alloc _).alloc _)),
      ((((((HB2.out.alloc HB2.out.size _).alloc (by have := HB2.out.size; simp; omega) _).alloc (by have := HB2.out.size; simp; omega) _).alloc (by have := HB2.out.size; simp; omega) _).alloc (by have := HB2.out.size; simp; omega) _).alloc (by have := HB2.out.size; simp; omega) _)⟩ ?_
  generalize w2.heap.size + 1 + 1 + 1 + 1 + 1 = g5 at *
  generalize w2.heap.size + 1 + 1 + 1 + 1 = g4 at *
  rintro w3 ⟨b3, r3, hb3⟩
  have B3 := Lib.hid b3
  have R3 := Lib.hid r3
  have HB3 := Lib.hid hb3
  have k0 := b3.cell 0
  simp only [List.getElem?_cons_zero] at k0
  clear q1 b3 r3 hb3 HB2
  have hS : SmallR [[mkC 110 m nt [(f, t)]]] := smallR_one (small_num nt hm hf ht)
  have HS := Lib.hid hS
  clear hS
  by_cases hft : t < f
  · have hI : (t : Int) < (f : Int) := by omega
    have HBAD := Lib.hid (bad_one (l := 110) (m := m) nt hft)
    go_wp2_with fail
    refine (rule_Good w3 (some ⟨g4, 0, none⟩) 1 1 _ (HG.out.below HB3.out (Nat.le_refl _)) R3.out HS.out).mono ?_
    rw [HBAD.out]
    rintro e w4 ⟨rfl, hb4⟩
    have HB4 := Lib.hid (HB3.out.trans (hb4.mono HB3.out.size))
    clear hb4 k0
    dsimp only
    go_wp2_with fail
    go_ret
    exact ⟨rfl, HB4.out⟩
  have hI : ¬ (t : Int) < (f : Int) := by omega
  have HGD := Lib.hid (good_one (l := 110) (m := m) nt ⟨110, by decide, rfl⟩ (by omega) (show f ≤ t by omega) (by omega))
  by_cases hm0 : 0 < m
  · have hmI : (0 : Int) < (m : Int) := by omega
    obtain ⟨x, hx⟩ : ∃ x, x = n % m := ⟨_, rfl⟩
    have hxz : (n : Int) % (m : Int) = (x : Int) := by rw [hx]; simp
    have HX : Hid (x = (if 0 < m then n % m else n)) := by rw [if_pos hm0]; exact hx
    have hx64 : x < 4294967296 := by rw [hx]; exact Nat.lt_of_le_of_lt (Nat.mod_le _ _) hn
    clear hx
    go_upto_region 10 with fail
    rw [hxz]
    obtain ⟨p, hp⟩ : ∃ p, p = ((decide (f ≤ x) && decide (x ≤ t))) := ⟨_, rfl⟩
    have HP : Hid (p = (decide (f ≤ x) && decide (x ≤ t))) := hp
    clear hp
    go_cut [14] (fun s14 wx => s14 = .bool p ∧ wx = w3)
    case first =>
      by_cases h1 : f ≤ x
      · have h1I : (f : Int) ≤ (x : Int) := by omega
        by_cases h2 : x ≤ t
        · have h2I : (x : Int) ≤ (t : Int) := by omega
          go_wp2_with fail
          go_meet
          exact ⟨by rw [HP.out]; simp [h1, h2], rfl⟩
        · have h2I : ¬ (x : Int) ≤ (t : Int) := by omega
          go_wp2_with fail
          go_meet
          exact ⟨by rw [HP.out]; simp [h1, h2], rfl⟩
      · have h1I : ¬ (f : Int) ≤ (x : Int) := by omega
        go_wp2_with fail
        go_meet
        exact ⟨by rw [HP.out]; simp [h1], rfl⟩
    case rest =>
      obtain ⟨rfl, rfl⟩ := hcut
      go_wp2_with fail
      refine (natOf wc n (by omega)).mono ?_
      rintro e w4 ⟨⟨A, k, c, rfl, hx4⟩, hb4⟩
      have HB4 := Lib.hid (HB3.out.trans (hb4.mono HB3.out.size))
      have X4 := Lib.hid hx4
      have B4 := Lib.hid (B3.out.below hb4 B3.out.lt)
      have R4 := Lib.hid (R3.out.below hb4 (Nat.le_refl _))
      clear hx4 hb4 k0 B3 R3 HB3
      dsimp only
      go_wp2_with fail
      refine (oper_Of0 w4 A k c n (HG.out.below HB4.out (Nat.le_refl _)) X4.out (by omega)).mono ?_
      rintro e w5 ⟨S, hS, ⟨ob, oA, on, oc, oB, om, od, iA, il, ic, fA, fl, fc', tA, tl, tc', rfl, r⟩, hb5⟩
      obtain ⟨g6, hg6⟩ : ∃ g6, w5.heap.size = g6 := ⟨_, rfl⟩
      have hba : Below w5.heap.size w5 (w5.alloc (.cells #[.bool ob, .slice oA on oc, .slice oB om od, .slice iA il ic, .int .i64 (S : Nat), .int .i64 ((short n S).2 : Nat), .slice fA fl fc', .slice tA tl tc'] 39)) := (Below.refl _ _).alloc (Nat.le_refl _) _
      have hbb := hb5.trans (hba.mono hb5.size)
      have z1 := B4.out.below hbb B4.out.lt
      have z2 := R4.out.below hbb (Nat.le_refl _)
      have z3 := r.below hba (Nat.le_refl _)
      have z4 : Blk (w5.alloc (.cells #[.bool ob, .slice oA on oc, .slice oB om od, .slice iA il ic, .int .i64 (S : Nat), .int .i64 ((short n S).2 : Nat), .slice fA fl fc', .slice tA tl tc'] 39)) g6 39 [.bool ob, .slice oA on oc, .slice oB om od, .slice iA il ic, .int .i64 (S : Nat), .int .i64 ((short n S).2 : Nat), .slice fA fl fc', .slice tA tl tc'] := by rw [← hg6]; exact Blk.made _ 39 _ _ _ rfl rfl
      have z5 := HB4.out.trans (hbb.mono HB4.out.size)
      have Z1 := Lib.hid z1
      have Z2 := Lib.hid z2
      have Z3 := Lib.hid z3
      have Z4 := Lib.hid z4
      have Z5 := Lib.hid z5
      have HS0 := Lib.hid hS
      clear z1 z2 z3 z4 z5 hbb hba r hb5 hS B4 R4 HB4 X4
      dsimp only
      go_upto_region 12 with fail
      try rw [hg6]
      refine wp_letter (fun w7 => Blk w7 g5 30 [.slice (some ⟨g4, 0, none⟩) 1 1] ∧ RuleIs w7 (some ⟨g4, 0, none⟩) 1 1 [[mkC 110 m nt [(f, t)]]] ∧ OpR w7 ob oA on oc oB om od iA il ic fA fl fc' tA tl tc' n (10 ^ S) 200 (n / 10 ^ S) S (short n S).2 (n % 10 ^ S) ((short n S).1 % 10 ^ (short n S).2) ∧ Blk w7 g6 39 [.bool ob, .slice oA on oc, .slice oB om od, .slice iA il ic, .int .i64 (S : Nat), .int .i64 ((short n S).2 : Nat), .slice fA fl fc', .slice tA tl tc'] ∧ Below w.heap.size w w7) ⟨Z1.out, Z2.out, Z3.out, Z4.out, Z5.out⟩ ?_
      clear Z1 Z2 Z3 Z4 Z5 hg6
      rintro w7 ⟨z1, z2, z3, z4, z5⟩
      have Z1 := Lib.hid z1
      have Z2 := Lib.hid z2
      have Z3 := Lib.hid z3
      have Z4 := Lib.hid z4
      have Z5 := Lib.hid z5
      have k0 := z1.cell 0
      simp only [List.getElem?_cons_zero] at k0
      clear z1 z2 z3 z4 z5
      go_wp2_with fail
      refine (rule_Good w7 (some ⟨g4, 0, none⟩) 1 1 _ (HG.out.below Z5.out (Nat.le_refl _)) Z2.out HS.out).mono ?_
      rw [HGD.out]
      rintro e w8 ⟨rfl, hb8⟩
      have z1 := Z1.out.below hb8 Z1.out.lt
      have z4 := Z4.out.below hb8 Z4.out.lt
      have Z2' := Lib.hid (Z2.out.below hb8 (Nat.le_refl _))
      have Z3' := Lib.hid (Z3.out.below hb8 (Nat.le_refl _))
      have Z5' := Lib.hid (Z5.out.trans (hb8.mono Z5.out.size))
      clear k0 hb8 Z1 Z2 Z3 Z4 Z5
      have k0 := z1.cell 0
      have d0 := z4.cell 0
      have d1 := z4.cell 1
      have d2 := z4.cell 2
      have d3 := z4.cell 3
      have d4 := z4.cell 4
      have d5 := z4.cell 5
      have d6 := z4.cell 6
      have d7 := z4.cell 7
      simp only [List.getElem?_cons_zero, List.getElem?_cons_succ] at k0 d0 d1 d2 d3 d4 d5 d6 d7
      clear z1 z4
      dsimp only
      go_wp2_with fail
      refine (rule_Holds w8 (some ⟨g4, 0, none⟩) 1 1 _ (HG.out.below Z5'.out (Nat.le_refl _)) Z2'.out HS.out _ _ _ _ _ _ _ _ _ _ _ _ _ _ _ _ _ _ _ _ _ _ _ _ Z3'.out (by omega) (by omega)).mono ?_
      have HV : Hid (holdsV (opVal n (10 ^ S) (n / 10 ^ S) S (short n S).2 (n % 10 ^ S) ((short n S).1 % 10 ^ (short n S).2)) [[mkC 110 m nt [(f, t)]]] = (p != nt)) := by
        have h0 := HS0.out
        rw [holds_numbers (n := n) (m := m) _ nt (by rw [h0]; rfl) hm (by omega) ht, ← HX.out, HP.out]
        exact Lib.hid rfl
      rw [HV.out]
      rintro e w9 ⟨rfl, hb9⟩
      have HB9 := Lib.hid (Z5'.out.trans (hb9.mono Z5'.out.size))
      clear hb9
      dsimp only
      go_wp2_with fail
      go_ret
      exact ⟨by cases p <;> cases nt <;> rfl, HB9.out⟩
  · have hmI : ¬ (0 : Int) < (m : Int) := by omega
    obtain ⟨x, hx⟩ : ∃ x, x = n := ⟨_, rfl⟩
    have HX : Hid (x = (if 0 < m then n % m else n)) := by rw [if_neg hm0]; exact hx
    subst hx
    go_upto_region 10 with fail
    obtain ⟨p, hp⟩ : ∃ p, p = ((decide (f ≤ x) && decide (x ≤ t))) := ⟨_, rfl⟩
    have HP : Hid (p = (decide (f ≤ x) && decide (x ≤ t))) := hp
    clear hp
    go_cut [14] (fun s14 wx => s14 = .bool p ∧ wx = w3)
    case first =>
      by_cases h1 : f ≤ x
      · have h1I : (f : Int) ≤ (x : Int) := by omega
        by_cases h2 : x ≤ t
        · have h2I : (x : Int) ≤ (t : Int) := by omega
          go_wp2_with fail
          go_meet
          exact ⟨by rw [HP.out]; simp [h1, h2], rfl⟩
        · have h2I : ¬ (x : Int) ≤ (t : Int) := by omega
          go_wp2_with fail
          go_meet
          exact ⟨by rw [HP.out]; simp [h1, h2], rfl⟩
      · have h1I : ¬ (f : Int) ≤ (x : Int) := by omega
        go_wp2_with fail
        go_meet
        exact ⟨by rw [HP.out]; simp [h1], rfl⟩
    case rest =>
      obtain ⟨rfl, rfl⟩ := hcut
      go_wp2_with fail
      refine (natOf wc x (by omega)).mono ?_
      rintro e w4 ⟨⟨A, k, c, rfl, hx4⟩, hb4⟩
      have HB4 := Lib.hid (HB3.out.trans (hb4.mono HB3.out.size))
      have X4 := Lib.hid hx4
      have B4 := Lib.hid (B3.out.below hb4 B3.out.lt)
      have R4 := Lib.hid (R3.out.below hb4 (Nat.le_refl _))
      clear hx4 hb4 k0 B3 R3 HB3
      dsimp only
      go_wp2_with fail
      refine (oper_Of0 w4 A k c x (HG.out.below HB4.out (Nat.le_refl _)) X4.out (by omega)).mono ?_
      rintro e w5 ⟨S, hS, ⟨ob, oA, on, oc, oB, om, od, iA, il, ic, fA, fl, fc', tA, tl, tc', rfl, r⟩, hb5⟩
      obtain ⟨g6, hg6⟩ : ∃ g6, w5.heap.size = g6 := ⟨_, rfl⟩
      have hba : Below w5.heap.size w5 (w5.alloc (.cells #[.bool ob, .slice oA on oc, .slice oB om od, .slice iA il ic, .int .i64 (S : Nat), .int .i64 ((short x S).2 : Nat), .slice fA fl fc', .slice tA tl tc'] 39)) := (Below.refl _ _).alloc (Nat.le_refl _) _
      have hbb := hb5.trans (hba.mono hb5.size)
      have z1 := B4.out.below hbb B4.out.lt
      have z2 := R4.out.below hbb (Nat.le_refl _)
      have z3 := r.below hba (Nat.le_refl _)
      have z4 : Blk (w5.alloc (.cells #[.bool ob, .slice oA on oc, .slice oB om od, .slice iA il ic, .int .i64 (S : Nat), .int .i64 ((short x S).2 : Nat), .slice fA fl fc', .slice tA tl tc'] 39)) g6 39 [.bool ob, .slice oA on oc, .slice oB om od, .slice iA il ic, .int .i64 (S : Nat), .int .i64 ((short x S).2 : Nat), .slice fA fl fc', .slice tA tl tc'] := by rw [← hg6]; exact Blk.made _ 39 _ _ _ rfl rfl
      have z5 := HB4.out.trans (hbb.mono HB4.out.size)
      have Z1 := Lib.hid z1
      have Z2 := Lib.hid z2
      have Z3 := Lib.hid z3
      have Z4 := Lib.hid z4
      have Z5 := Lib.hid z5
      have HS0 := Lib.hid hS
      clear z1 z2 z3 z4 z5 hbb hba r hb5 hS B4 R4 HB4 X4
      dsimp only
      go_upto_region 12 with fail
      try rw [hg6]
      refine wp_letter (fun w7 => Blk w7 g5 30 [.slice (some ⟨g4, 0, none⟩) 1 1] ∧ RuleIs w7 (some ⟨g4, 0, none⟩) 1 1 [[mkC 110 m nt [(f, t)]]] ∧ OpR w7 ob oA on oc oB om od iA il ic fA fl fc' tA tl tc' x (10 ^ S) 200 (x / 10 ^ S) S (short x S).2 (x % 10 ^ S) ((short x S).1 % 10 ^ (short x S).2) ∧ Blk w7 g6 39 [.bool ob, .slice oA on oc, .slice oB om od, .slice iA il ic, .int .i64 (S : Nat), .int .i64 ((short x S).2 : Nat), .slice fA fl fc', .slice tA tl tc'] ∧ Below w.heap.size w w7) ⟨Z1.out, Z2.out, Z3.out, Z4.out, Z5.out⟩ ?_
      clear Z1 Z2 Z3 Z4 Z5 hg6
      rintro w7 ⟨z1, z2, z3, z4, z5⟩
      have Z1 := Lib.hid z1
      have Z2 := Lib.hid z2
      have Z3 := Lib.hid z3
      have Z4 := Lib.hid z4
      have Z5 := Lib.hid z5
      have k0 := z1.cell 0
      simp only [List.getElem?_cons_zero] at k0
      clear z1 z2 z3 z4 z5
      go_wp2_with fail
      refine (rule_Good w7 (some ⟨g4, 0, none⟩) 1 1 _ (HG.out.below Z5.out (Nat.le_refl _)) Z2.out HS.out).mono ?_
      rw [HGD.out]
      rintro e w8 ⟨rfl, hb8⟩
      have z1 := Z1.out.below hb8 Z1.out.lt
      have z4 := Z4.out.below hb8 Z4.out.lt
      have Z2' := Lib.hid (Z2.out.below hb8 (Nat.le_refl _))
      have Z3' := Lib.hid (Z3.out.below hb8 (Nat.le_refl _))
      have Z5' := Lib.hid (Z5.out.trans (hb8.mono Z5.out.size))
      clear k0 hb8 Z1 Z2 Z3 Z4 Z5
      have k0 := z1.cell 0
      have d0 := z4.cell 0
      have d1 := z4.cell 1
      have d2 := z4.cell 2
      have d3 := z4.cell 3
      have d4 := z4.cell 4
      have d5 := z4.cell 5
      have d6 := z4.cell 6
      have d7 := z4.cell 7
      simp only [List.getElem?_cons_zero, List.getElem?_cons_succ] at k0 d0 d1 d2 d3 d4 d5 d6 d7
      clear z1 z4
      dsimp only
      go_wp2_with fail
      refine (rule_Holds w8 (some ⟨g4, 0, none⟩) 1 1 _ (HG.out.below Z5'.out (Nat.le_refl _)) Z2'.out HS.out _ _ _ _ _ _ _ _ _ _ _ _ _ _ _ _ _ _ _ _ _ _ _ _ Z3'.out (by omega) (by omega)).mono ?_
      have HV : Hid (holdsV (opVal x (10 ^ S) (x / 10 ^ S) S (short x S).2 (x % 10 ^ S) ((short x S).1 % 10 ^ (short x S).2)) [[mkC 110 m nt [(f, t)]]] = (p != nt)) := by
        have h0 := HS0.out
        rw [holds_numbers (n := x) (m := m) _ nt (by rw [h0]; rfl) hm (by omega) ht, ← HX.out, HP.out]
        exact Lib.hid rfl
      rw [HV.out]
      rintro e w9 ⟨rfl, hb9⟩
      have HB9 := Lib.hid (Z5'.out.trans (hb9.mono Z5'.out.size))
      clear hb9
      dsimp only
      go_wp2_with fail
      go_ret
      exact ⟨by cases p <;> cases nt <;> rfl, HB9.out⟩
end Go.Proofs.YtdgleeglndcjhaaGreatDoor
