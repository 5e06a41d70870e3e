/- Law: PluralKnown. -/
import Derived.Test.YtdgleeglndcjhaaGreatDoorLb
namespace Go.Proofs.YtdgleeglndcjhaaGreatDoor
open Go.RowKit
set_option linter.unusedVariables false
set_option linter.unusedSimpArgs false

set_option maxRecDepth 100000 in
set_option maxHeartbeats 8000000 in
theorem law_texts (w : World) (A B : Option Addr) (n c m d : Nat) (l l' : List Bs) (h : StrsAre w A n c l) (h' : StrsAre w B m d l') (hl : l.length ≤ 100000) (hl' : l'.length ≤ 100000) :
    Calls Tryz.prog 34 #[.slice A n c, .slice B m d] w fun e w' => e = .returned (.bool (decide (l = l'))) ∧ Below w.heap.size w w' := by
  obtain rfl : n = l.length := h.len
  obtain rfl : m = l'.length := h'.len
  have HA := Lib.hid h
  have HB := Lib.hid h'
  have hlI : (l.length : Int) ≤ 100000 := by omega
  have hlI' : (l'.length : Int) ≤ 100000 := by omega
  clear h h'
  by_cases hn : l.length = l'.length
  case neg =>
    have hnI : ((l.length : Int) != (l'.length : Int)) = true := by simp only [bne, Bool.not_eq_true', beq_eq_false_iff_ne]; omega
    have hd : decide (l = l') = false := decide_eq_false (fun e => hn (congrArg List.length e))
    rw [hd]
    clear hd hn
    go_enter Tryz.func34, Tryz.ntmps34
    go_wp2_with fail
    go_ret
    exact ⟨rfl, Below.refl _ _⟩
  have HN := Lib.hid hn
  have hnI : ((l.length : Int) != (l'.length : Int)) = false := by rw [hn]; simp
  clear hn
  go_enter Tryz.func34, Tryz.ntmps34
  go_wp2_with fail
  go_loopw [5] (fun i wr => EqW w l l' i wr) (fun i _ => l.length - (intOf i).toNat)
  case atStart => exact ⟨0, Nat.zero_le _, rfl, rfl, Below.refl _ _⟩
  case round =>
    obtain ⟨k, hk, rfl, ht, hb⟩ := hrel
    obtain ⟨wo, rfl⟩ : ∃ wo : World, wo = wr := ⟨_, rfl⟩
    have HT := Lib.hid ht
    have HBR := Lib.hid hb
    clear ht hb
    by_cases hlt : k < l.length
    case neg =>
      have hkI : ¬ (k : Int) < (l.length : Int) := by omega
      have he : l = l' := by have := HT.out; rw [List.take_of_length_le (by omega), List.take_of_length_le (by have := HN.out; omega)] at this; exact this
      have HE := Lib.hid he
      clear he
      go_wp2_with fail
      go_ret
      exact ⟨by rw [decide_eq_true HE.out]; rfl, HBR.out⟩
    obtain ⟨b, o, hA, hc⟩ := (HA.out.below HBR.out (Nat.le_refl _)).at (by omega)
    obtain ⟨b', o', hB, hc'⟩ := (HB.out.below HBR.out (Nat.le_refl _)).at (by have := HN.out; omega)
    subst hA
    subst hB
    obtain ⟨x, hx⟩ : ∃ x, l[k]? = some x := ⟨l[k], List.getElem?_eq_getElem hlt⟩
    obtain ⟨y, hy⟩ : ∃ y, l'[k]? = some y := ⟨l'[k]'(by have := HN.out; omega), List.getElem?_eq_getElem _⟩
    have k0 := hc k x hx
    have k1 := hc' k y hy
    have HX := Lib.hid hx
    have HY := Lib.hid hy
    have hkI : (k : Int) < (l.length : Int) := by omega
    have hkJ : (k : Int) < (l'.length : Int) := by have := HN.out; omega
    have hk0 : (0 : Int) ≤ (k : Int) := by omega
    clear hc hc' hx hy
    by_cases hxy : x = y
    · have hte : (x == y) = true := by simpa using hxy
      have HXY := Lib.hid hxy
      clear hxy
      go_wp2_with fail
      go_quiet (fail)
      go_step
      go_wp2_with fail
      go_roundw
      case rel => exact ⟨k + 1, by omega, by go_num, (take_eq HX.out HY.out).2 ⟨HT.out, HXY.out⟩, below_drewN HBR.out _⟩
      case measure => simp [intOf]; omega
    · have hte : (x == y) = false := by simpa using hxy
      have HXY := Lib.hid hxy
      clear hxy
      go_wp2_with fail
      go_quiet (fail)
      go_step
      go_wp2_with fail
      go_ret
      exact ⟨by rw [decide_eq_false (fun e => HXY.out (by have h1 := HX.out; have h2 := HY.out; rw [e, h2] at h1; cases h1; rfl))]; rfl, below_drewN HBR.out _⟩

set_option maxRecDepth 100000 in
set_option maxHeartbeats 4000000 in
theorem law_refused (w : World) (t : Bs) (s : ByteArray) (ln : Int) (cd : Nat) (hs : s = ⟨t.toArray⟩) (hG : GW w) (ht : goodText t = true) (h1 : (loadAll (rowsP t)).1 = cd) (h2 : cd ≠ 0) (h3 : (loadAll (rowsP t)).2.1 = ln) :
    Calls Tryz.prog 32 #[.string s, .int .i64 ln, .int .i64 (cd : Nat)] w fun e w' => e = .returned (.bool true) ∧ Below w.heap.size w w' := by
  subst hs
  have HG := Lib.hid hG
  have H1 := Lib.hid h1
  have H2 := Lib.hid h2
  have H3 := Lib.hid h3
  clear hG h1 h2 h3
  go_enter Tryz.func32, Tryz.ntmps32
  go_wp2_with fail
  refine (law_load w t HG.out ht).mono ?_
  rintro e w2 ⟨hc, hb⟩
  have HB := Lib.hid hb
  clear hb
  rcases hc with ⟨-, he⟩ | ⟨h0, -⟩
  · rw [H1.out, H3.out] at he
    subst he
    dsimp only
    go_wp2_with fail
    go_ret
    exact ⟨by simp, HB.out⟩
  · exact absurd (H1.out.symm.trans h0) H2.out

def enX : Bs := [120, 10, 112, 108, 117, 114, 97, 108, 32, 101, 110, 32, 111, 110, 101, 32, 105, 32, 61, 32, 49, 32, 97, 110, 100, 32, 118, 32, 61, 32, 48, 10, 112, 108, 117, 114, 97, 108, 32, 114, 117, 32, 111, 110, 101, 32, 118, 32, 61, 32, 48, 32, 97, 110, 100, 32, 105, 32, 37, 32, 49, 48, 32, 61, 32, 49, 32, 97, 110, 100, 32, 105, 32, 37, 32, 49, 48, 48, 32, 33, 61, 32, 49, 49, 10, 112, 108, 117, 114, 97, 108, 32, 114, 117, 32, 102, 101, 119, 32, 118, 32, 61, 32, 48, 32, 97, 110, 100, 32, 105, 32, 37, 32, 49, 48, 32, 61, 32, 50, 46, 46, 52, 32, 97, 110, 100, 32, 105, 32, 37, 32, 49, 48, 48, 32, 33, 61, 32, 49, 50, 46, 46, 49, 52, 10, 112, 108, 117, 114, 97, 108, 32, 114, 117, 32, 109, 97, 110, 121, 32, 118, 32, 61, 32, 48, 10]
theorem good_enX : goodText enX = true := by decide +kernel
theorem enX_code : (loadAll (rowsP enX)).1 = 0 := by decide +kernel
def exM : PMap := (loadAll (rowsP enX)).2.2
def ref0 : Bs := [112, 108, 117, 114, 97, 108, 32, 101, 110, 32, 111, 110, 101]
theorem ref0_ok : goodText ref0 = true ∧ (loadAll (rowsP ref0)).1 = 2 ∧ (loadAll (rowsP ref0)).2.1 = 1 := by decide +kernel
def ref1 : Bs := [112, 108, 117, 114, 97, 108, 32, 69, 78, 32, 111, 110, 101, 32, 110, 32, 61, 32, 49]
theorem ref1_ok : goodText ref1 = true ∧ (loadAll (rowsP ref1)).1 = 2 ∧ (loadAll (rowsP ref1)).2.1 = 1 := by decide +kernel
def ref2 : Bs := [112, 108, 117, 114, 97, 108, 32, 101, 110, 32, 111, 116, 104, 101, 114, 32, 110, 32, 61, 32, 49]
theorem ref2_ok : goodText ref2 = true ∧ (loadAll (rowsP ref2)).1 = 2 ∧ (loadAll (rowsP ref2)).2.1 = 1 := by decide +kernel
def ref3 : Bs := [112, 108, 117, 114, 97, 108, 32, 101, 110, 32, 115, 111, 109, 101, 32, 110, 32, 61, 32, 49]
theorem ref3_ok : goodText ref3 = true ∧ (loadAll (rowsP ref3)).1 = 2 ∧ (loadAll (rowsP ref3)).2.1 = 1 := by decide +kernel
def ref4 : Bs := [112, 108, 117, 114, 97, 108, 32, 101, 110, 32, 111, 110, 101, 32, 110, 32, 61, 61]
theorem ref4_ok : goodText ref4 = true ∧ (loadAll (rowsP ref4)).1 = 2 ∧ (loadAll (rowsP ref4)).2.1 = 1 := by decide +kernel
def ref5 : Bs := [112, 108, 117, 114, 97, 108, 32, 101, 110, 32, 111, 110, 101, 32, 105, 32, 61, 32, 49, 32, 97, 110, 100, 32, 118, 32, 61, 32, 48, 10, 112, 108, 117, 114, 97, 108, 32, 114, 117, 32, 111, 110, 101, 32, 118, 32, 61, 32, 48, 32, 97, 110, 100, 32, 105, 32, 37, 32, 49, 48, 32, 61, 32, 49, 32, 97, 110, 100, 32, 105, 32, 37, 32, 49, 48, 48, 32, 33, 61, 32, 49, 49, 10, 112, 108, 117, 114, 97, 108, 32, 114, 117, 32, 102, 101, 119, 32, 118, 32, 61, 32, 48, 32, 97, 110, 100, 32, 105, 32, 37, 32, 49, 48, 32, 61, 32, 50, 46, 46, 52, 32, 97, 110, 100, 32, 105, 32, 37, 32, 49, 48, 48, 32, 33, 61, 32, 49, 50, 46, 46, 49, 52, 10, 112, 108, 117, 114, 97, 108, 32, 114, 117, 32, 109, 97, 110, 121, 32, 118, 32, 61, 32, 48, 10, 112, 108, 117, 114, 97, 108, 32, 101, 110, 32, 111, 110, 101, 32, 110, 32, 61, 32, 50]
theorem ref5_ok : goodText ref5 = true ∧ (loadAll (rowsP ref5)).1 = 10 ∧ (loadAll (rowsP ref5)).2.1 = 5 := by decide +kernel
theorem sel_x0 : selectP exM [114, 117] (ofVal (parseD [50, 49]).2.2.1 (parseD [50, 49]).2.2.2) = [111, 110, 101] := by decide +kernel
theorem sel_x1 : selectP exM [114, 117] (ofVal (parseD [49, 49]).2.2.1 (parseD [49, 49]).2.2.2) = [109, 97, 110, 121] := by decide +kernel
theorem sel_x2 : selectP exM [114, 117] (ofVal (parseD [49, 46, 48]).2.2.1 (parseD [49, 46, 48]).2.2.2) = [111, 116, 104, 101, 114] := by decide +kernel
theorem sel_x3 : selectP exM [114, 117] (ofVal (parseD [50, 51]).2.2.1 (parseD [50, 51]).2.2.2) = [102, 101, 119] := by decide +kernel
theorem sel_x4 : selectP exM [114, 117] (ofVal (parseD [49, 51]).2.2.1 (parseD [49, 51]).2.2.2) = [109, 97, 110, 121] := by decide +kernel
theorem sel_x5 : selectP exM [100, 101] (ofVal (parseD [49]).2.2.1 (parseD [49]).2.2.2) = [111, 116, 104, 101, 114] := by decide +kernel
theorem sel_x6 : selectP exM [101, 110] (ofVal (parseD [49, 46, 48]).2.2.1 (parseD [49, 46, 48]).2.2.2) = [111, 116, 104, 101, 114] := by decide +kernel
theorem sel_x7 : selectP exM [101, 110] (ofVal (parseD [45, 49]).2.2.1 (parseD [45, 49]).2.2.2) = [111, 110, 101] := by decide +kernel
theorem of_x0 : ofP exM [114, 117] = [[111, 110, 101], [102, 101, 119], [109, 97, 110, 121], [111, 116, 104, 101, 114]] := by decide +kernel
theorem of_x1 : ofP exM [120] = [[111, 116, 104, 101, 114]] := by decide +kernel
theorem cat_x0 : catP [122, 101, 114, 111] = true := by decide +kernel
theorem cat_x1 : catP [111, 116, 104, 101, 114] = true := by decide +kernel
theorem cat_x2 : catP [] = false := by decide +kernel
theorem law_loadS (w : World) (t : Bs) (s : ByteArray) (hG : GW w) (ht : goodText t = true) (hs : s = ⟨t.toArray⟩) : Calls Tryz.prog 29 #[.string s] w (LoadPost w (rowsP t)) := by subst hs; exact law_load w t hG ht

set_option maxRecDepth 100000 in
set_option maxHeartbeats 64000000 in
theorem law_PluralKnown (w : World) (hG : GW w) : Calls Tryz.prog 10 #[] w fun e w' => e = .returned (.bool true) ∧ Below w.heap.size w w' := by
  have HG := Lib.hid hG
  clear hG
  go_enter Tryz.func10, Tryz.ntmps10
  go_wp2_with fail
  refine (law_awake20 w HG.out).mono ?_
  rintro e w1 ⟨rfl, hb1⟩
  have HB1 := Lib.hid hb1
  clear hb1
  dsimp only
  go_wp2_with fail
  refine (law_english w1).mono ?_
  rintro e w2 ⟨rfl, hb2⟩
  have HB2 := Lib.hid (HB1.out.trans (hb2.mono HB1.out.size))
  clear hb2
  dsimp only
  go_wp2_with fail
  refine (law_loadS w2 enX _ (HG.out.below HB2.out (Nat.le_refl _)) good_enX (by rw [show (⟨#[120, 10]⟩ : ByteArray) = ⟨([120, 10] : Bs).toArray⟩ from rfl, ba_app]; rfl)).mono ?_
  rintro e w3 ⟨hc, hb3⟩
  have HB3 := Lib.hid (HB2.out.trans (hb3.mono HB2.out.size))
  clear hb3
  rcases hc with ⟨hne, -⟩ | ⟨-, gp, rfl, hP, -⟩
  · exact absurd enX_code hne
  have HP3 : Hid (PlW w3 gp exM) := hP
  clear hP
  dsimp only
  go_wp2_with fail
  refine (law_refused w3 ref0 _ 1 2 rfl (HG.out.below HB3.out (Nat.le_refl _)) ref0_ok.1 ref0_ok.2.1 (by decide) ref0_ok.2.2).mono ?_
  rintro e w4 ⟨rfl, hb⟩
  have HB4 := Lib.hid (HB3.out.trans (hb.mono HB3.out.size))
  have HP4 := Lib.hid (HP3.out.below hb)
  clear hb
  dsimp only
  go_wp2_with fail
  refine (law_refused w4 ref1 _ 1 2 rfl (HG.out.below HB4.out (Nat.le_refl _)) ref1_ok.1 ref1_ok.2.1 (by decide) ref1_ok.2.2).mono ?_
  rintro e w5 ⟨rfl, hb⟩
  have HB5 := Lib.hid (HB4.out.trans (hb.mono HB4.out.size))
  have HP5 := Lib.hid (HP4.out.below hb)
  clear hb
  dsimp only
  go_wp2_with fail
  refine (law_refused w5 ref2 _ 1 2 rfl (HG.out.below HB5.out (Nat.le_refl _)) ref2_ok.1 ref2_ok.2.1 (by decide) ref2_ok.2.2).mono ?_
  rintro e w6 ⟨rfl, hb⟩
  have HB6 := Lib.hid (HB5.out.trans (hb.mono HB5.out.size))
  have HP6 := Lib.hid (HP5.out.below hb)
  clear hb
  dsimp only
  go_wp2_with fail
  refine (law_refused w6 ref3 _ 1 2 rfl (HG.out.below HB6.out (Nat.le_refl _)) ref3_ok.1 ref3_ok.2.1 (by decide) ref3_ok.2.2).mono ?_
  rintro e w7 ⟨rfl, hb⟩
  have HB7 := Lib.hid (HB6.out.trans (hb.mono HB6.out.size))
  have HP7 := Lib.hid (HP6.out.below hb)
  clear hb
  dsimp only
  go_wp2_with fail
  refine (law_refused w7 ref4 _ 1 2 rfl (HG.out.below HB7.out (Nat.le_refl _)) ref4_ok.1 ref4_ok.2.1 (by decide) ref4_ok.2.2).mono ?_
  rintro e w8 ⟨rfl, hb⟩
  have HB8 := Lib.hid (HB7.out.trans (hb.mono HB7.out.size))
  have HP8 := Lib.hid (HP7.out.below hb)
  clear hb
  dsimp only
  go_wp2_with fail
  refine (law_english w8).mono ?_
  rintro e w9 ⟨rfl, hb⟩
  have HB9 := Lib.hid (HB8.out.trans (hb.mono HB8.out.size))
  have HP9 := Lib.hid (HP8.out.below hb)
  clear hb
  dsimp only
  go_wp2_with fail
  refine (law_refused w9 ref5 _ 5 10 (by rw [show (⟨#[112, 108, 117, 114, 97, 108, 32, 101, 110, 32, 111, 110, 101, 32, 110, 32, 61, 32, 50]⟩ : ByteArray) = ⟨([112, 108, 117, 114, 97, 108, 32, 101, 110, 32, 111, 110, 101, 32, 110, 32, 61, 32, 50] : Bs).toArray⟩ from rfl, ba_app]; rfl) (HG.out.below HB9.out (Nat.le_refl _)) ref5_ok.1 ref5_ok.2.1 (by decide) ref5_ok.2.2).mono ?_
  rintro e w10 ⟨rfl, hb⟩
  have HB10 := Lib.hid (HB9.out.trans (hb.mono HB9.out.size))
  have HP10 := Lib.hid (HP9.out.below hb)
  clear hb
  dsimp only
  go_wp2_with fail
  refine (law_of w10 gp exM [114, 117] [50, 49] (HG.out.below HB10.out (Nat.le_refl _)) HP10.out (goodM_all _) (by decide)).mono ?_
  rw [sel_x0]
  rintro e w11 ⟨rfl, hb⟩
  have HB11 := Lib.hid (HB10.out.trans (hb.mono HB10.out.size))
  have HP11 := Lib.hid (HP10.out.below hb)
  clear hb
  dsimp only
  go_wp2_with fail
  refine (law_of w11 gp exM [114, 117] [49, 49] (HG.out.below HB11.out (Nat.le_refl _)) HP11.out (goodM_all _) (by decide)).mono ?_
  rw [sel_x1]
  rintro e w12 ⟨rfl, hb⟩
  have HB12 := Lib.hid (HB11.out.trans (hb.mono HB11.out.size))
  have HP12 := Lib.hid (HP11.out.below hb)
  clear hb
  dsimp only
  go_wp2_with fail
  refine (law_of w12 gp exM [114, 117] [49, 46, 48] (HG.out.below HB12.out (Nat.le_refl _)) HP12.out (goodM_all _) (by decide)).mono ?_
  rw [sel_x2]
  rintro e w13 ⟨rfl, hb⟩
  have HB13 := Lib.hid (HB12.out.trans (hb.mono HB12.out.size))
  have HP13 := Lib.hid (HP12.out.below hb)
  clear hb
  dsimp only
  go_wp2_with fail
  refine (law_of w13 gp exM [114, 117] [50, 51] (HG.out.below HB13.out (Nat.le_refl _)) HP13.out (goodM_all _) (by decide)).mono ?_
  rw [sel_x3]
  rintro e w14 ⟨rfl, hb⟩
  have HB14 := Lib.hid (HB13.out.trans (hb.mono HB13.out.size))
  have HP14 := Lib.hid (HP13.out.below hb)
  clear hb
  dsimp only
  go_wp2_with fail
  refine (law_of w14 gp exM [114, 117] [49, 51] (HG.out.below HB14.out (Nat.le_refl _)) HP14.out (goodM_all _) (by decide)).mono ?_
  rw [sel_x4]
  rintro e w15 ⟨rfl, hb⟩
  have HB15 := Lib.hid (HB14.out.trans (hb.mono HB14.out.size))
  have HP15 := Lib.hid (HP14.out.below hb)
  clear hb
  dsimp only
  go_wp2_with fail
  refine (law_of w15 gp exM [100, 101] [49] (HG.out.below HB15.out (Nat.le_refl _)) HP15.out (goodM_all _) (by decide)).mono ?_
  rw [sel_x5]
  rintro e w16 ⟨rfl, hb⟩
  have HB16 := Lib.hid (HB15.out.trans (hb.mono HB15.out.size))
  have HP16 := Lib.hid (HP15.out.below hb)
  clear hb
  dsimp only
  go_wp2_with fail
  refine (law_of w16 gp exM [101, 110] [49, 46, 48] (HG.out.below HB16.out (Nat.le_refl _)) HP16.out (goodM_all _) (by decide)).mono ?_
  rw [sel_x6]
  rintro e w17 ⟨rfl, hb⟩
  have HB17 := Lib.hid (HB16.out.trans (hb.mono HB16.out.size))
  have HP17 := Lib.hid (HP16.out.below hb)
  clear hb
  dsimp only
  go_wp2_with fail
  refine (law_of w17 gp exM [101, 110] [45, 49] (HG.out.below HB17.out (Nat.le_refl _)) HP17.out (goodM_all _) (by decide)).mono ?_
  rw [sel_x7]
  rintro e w18 ⟨rfl, hb⟩
  have HB18 := Lib.hid (HB17.out.trans (hb.mono HB17.out.size))
  have HP18 := Lib.hid (HP17.out.below hb)
  clear hb
  dsimp only
  go_wp2_with fail
  refine (plural_Of w18 gp exM [114, 117] HP18.out (by decide)).mono ?_
  rw [of_x0]
  rintro e w19 ⟨v, rfl, hv, hb⟩
  obtain ⟨VA, vn, vc, rfl, hS⟩ := hv.strs
  obtain rfl : vn = 4 := hS.len
  have hal : Below w19.heap.size w19 (w19.alloc (.cells #[.string ⟨#[111, 110, 101]⟩, .string ⟨#[102, 101, 119]⟩, .string ⟨#[109, 97, 110, 121]⟩, .string ⟨#[111, 116, 104, 101, 114]⟩] 9)) := (Below.refl _ _).alloc (Nat.le_refl _) _
  have HB19 := Lib.hid (HB18.out.trans ((hb.trans (hal.mono hb.size)).mono HB18.out.size))
  have HP19 := Lib.hid ((HP18.out.below hb).below hal)
  have HS19 := Lib.hid (hS.below hal (Nat.le_refl _))
  have HT19 : Hid (StrsAre (w19.alloc (.cells #[.string ⟨#[111, 110, 101]⟩, .string ⟨#[102, 101, 119]⟩, .string ⟨#[109, 97, 110, 121]⟩, .string ⟨#[111, 116, 104, 101, 114]⟩] 9)) (some ⟨w19.heap.size, 0, none⟩) 4 4 [[111, 110, 101], [102, 101, 119], [109, 97, 110, 121], [111, 116, 104, 101, 114]]) := (Blk.made w19 9 [.string ⟨#[111, 110, 101]⟩, .string ⟨#[102, 101, 119]⟩, .string ⟨#[109, 97, 110, 121]⟩, .string ⟨#[111, 116, 104, 101, 114]⟩] _ _ rfl rfl).slc 4 4 (by simp) (by omega)
  clear hb hv hS hal
  dsimp only
  go_wp2_with fail
  refine (law_texts _ VA (some ⟨w19.heap.size, 0, none⟩) 4 vc 4 4 _ _ HS19.out HT19.out (by decide) (by decide)).mono ?_
  rw [decide_eq_true rfl]
  rintro e w20 ⟨rfl, hb⟩
  have HB20 := Lib.hid (HB19.out.trans (hb.mono HB19.out.size))
  have HP20 := Lib.hid (HP19.out.below hb)
  clear hb
  dsimp only
  go_wp2_with fail
  refine (plural_Of w20 gp exM [120] HP20.out (by decide)).mono ?_
  rw [of_x1]
  rintro e w21 ⟨v, rfl, hv, hb⟩
  obtain ⟨VA, vn, vc, rfl, hS⟩ := hv.strs
  obtain rfl : vn = 1 := hS.len
  have hal : Below w21.heap.size w21 (w21.alloc (.cells #[.string ⟨#[111, 116, 104, 101, 114]⟩] 9)) := (Below.refl _ _).alloc (Nat.le_refl _) _
  have HB21 := Lib.hid (HB20.out.trans ((hb.trans (hal.mono hb.size)).mono HB20.out.size))
  have HP21 := Lib.hid ((HP20.out.below hb).below hal)
  have HS21 := Lib.hid (hS.below hal (Nat.le_refl _))
  have HT21 : Hid (StrsAre (w21.alloc (.cells #[.string ⟨#[111, 116, 104, 101, 114]⟩] 9)) (some ⟨w21.heap.size, 0, none⟩) 1 1 [[111, 116, 104, 101, 114]]) := (Blk.made w21 9 [.string ⟨#[111, 116, 104, 101, 114]⟩] _ _ rfl rfl).slc 1 1 (by simp) (by omega)
  clear hb hv hS hal
  dsimp only
  go_wp2_with fail
  refine (law_texts _ VA (some ⟨w21.heap.size, 0, none⟩) 1 vc 1 1 _ _ HS21.out HT21.out (by decide) (by decide)).mono ?_
  rw [decide_eq_true rfl]
  rintro e w22 ⟨rfl, hb⟩
  have HB22 := Lib.hid (HB21.out.trans (hb.mono HB21.out.size))
  have HP22 := Lib.hid (HP21.out.below hb)
  clear hb
  dsimp only
  go_wp2_with fail
  refine (plural_Category w22 [122, 101, 114, 111]).mono ?_
  rw [cat_x0]
  rintro e w23 ⟨rfl, hb⟩
  have HB23 := Lib.hid (HB22.out.trans (hb.mono HB22.out.size))
  have HP23 := Lib.hid (HP22.out.below hb)
  clear hb
  dsimp only
  go_wp2_with fail
  refine (plural_Category w23 [111, 116, 104, 101, 114]).mono ?_
  rw [cat_x1]
  rintro e w24 ⟨rfl, hb⟩
  have HB24 := Lib.hid (HB23.out.trans (hb.mono HB23.out.size))
  have HP24 := Lib.hid (HP23.out.below hb)
  clear hb
  dsimp only
  go_wp2_with fail
  refine (plural_Category w24 []).mono ?_
  rw [cat_x2]
  rintro e w25 ⟨rfl, hb⟩
  have HB25 := Lib.hid (HB24.out.trans (hb.mono HB24.out.size))
  have HP25 := Lib.hid (HP24.out.below hb)
  clear hb
  dsimp only
  go_wp2_with fail
  go_ret
  exact ⟨rfl, HB25.out⟩
end Go.Proofs.YtdgleeglndcjhaaGreatDoor
