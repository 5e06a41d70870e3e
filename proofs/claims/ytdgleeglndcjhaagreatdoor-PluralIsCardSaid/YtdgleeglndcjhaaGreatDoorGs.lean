/- Package rule: same; slices.EqualFunc at conditions, at rows. -/
import Derived.Test.YtdgleeglndcjhaaGreatDoorGb
namespace Go.Proofs.YtdgleeglndcjhaaGreatDoor
open Go.RowKit
set_option linter.unusedVariables false
set_option linter.unusedSimpArgs false

theorem ints_equal (w : World) (A A' : Option Addr) (n c n' c' : Nat) (l l' : List Int) (h : IntsAre w A n c l) (h' : IntsAre w A' n' c' l') (hl : l.length ≤ 1000000) (hl' : l'.length ≤ 1000000) :
    Calls Tryz.prog 102 #[.slice A n c, .slice A' n' c'] w fun e w' => e = .returned (.bool (decide (l = l'))) ∧ Below w.heap.size w w' := by
  obtain rfl : n = l.length := h.len
  obtain rfl : n' = l'.length := h'.len
  by_cases hn : l.length = l'.length
  · by_cases h0 : l.length = 0
    · have e1 : l = [] := List.eq_nil_of_length_eq_zero h0
      have e2 : l' = [] := List.eq_nil_of_length_eq_zero (by omega)
      subst e1; subst e2
      refine (Tryz.slices_Equal_int_empty A A' c 0 c' w (by omega)).mono ?_
      rintro e w' ⟨rfl, rfl⟩
      exact ⟨rfl, Below.refl _ _⟩
    · obtain ⟨b, o, rfl, hc⟩ := h.at (by omega)
      obtain ⟨b', o', rfl, hc'⟩ := h'.at (by omega)
      refine (Tryz.slices_Equal_int b o l.length c b' o' l'.length c' l l' w (Nat.le_refl _) (Nat.le_refl _) (by omega) (by omega) (fun j hj => hc j _ (by rw [List.getD_eq_getElem?_getD, List.getElem?_eq_getElem hj]; rfl)) (fun j hj => hc' j _ (by rw [List.getD_eq_getElem?_getD, List.getElem?_eq_getElem hj]; rfl))).mono ?_
      rintro e w' ⟨rfl, q, rfl⟩
      refine ⟨?_, below_drews w q⟩
      rw [List.take_length, List.take_length]
      congr 2
      rw [Bool.eq_iff_iff, beq_iff_eq, decide_eq_true_eq]
  · refine (Tryz.slices_Equal_int_lens A A' l.length c l'.length c' w hn).mono ?_
    rintro e w' ⟨rfl, rfl⟩
    refine ⟨?_, Below.refl _ _⟩
    rw [decide_eq_false (fun e => hn (congrArg List.length e))]

theorem cnd_eq {a b : Cnd} : a = b ↔ a.letter = b.letter ∧ a.mod = b.mod ∧ a.nt = b.nt ∧ a.fr = b.fr ∧ a.to = b.to := by
  cases a; cases b; simp

set_option maxRecDepth 100000 in
set_option maxHeartbeats 4000000 in
theorem rule_same (w : World) (a b : Cnd) (FA TA FB TB : Option Addr) (fn fc tn tc fm fd tm td : Nat) (hfa : IntsAre w FA fn fc a.fr) (hta : IntsAre w TA tn tc a.to) (hfb : IntsAre w FB fm fd b.fr) (htb : IntsAre w TB tm td b.to) (ha : SmallC a) (hb : SmallC b) :
    Calls Tryz.prog 62 #[.agg #[.int .u8 (a.letter : Int), .int .i64 a.mod, .bool a.nt, .slice FA fn fc, .slice TA tn tc], .agg #[.int .u8 (b.letter : Int), .int .i64 b.mod, .bool b.nt, .slice FB fm fd, .slice TB tm td]] w
      fun e w' => e = .returned (.bool (decide (a = b))) ∧ Below w.heap.size w w' := by
  have hba := ((Below.refl w.heap.size w).alloc (Nat.le_refl _) (.cells #[.int .u8 (a.letter : Int), .int .i64 a.mod, .bool a.nt, .slice FA fn fc, .slice TA tn tc] 47)).alloc (by simp) (.cells #[.int .u8 (b.letter : Int), .int .i64 b.mod, .bool b.nt, .slice FB fm fd, .slice TB tm td] 47)
  have HA := Lib.hid hba
  have HFA := Lib.hid (hfa.below hba (Nat.le_refl _))
  have HTA := Lib.hid (hta.below hba (Nat.le_refl _))
  have HFB := Lib.hid (hfb.below hba (Nat.le_refl _))
  have HTB := Lib.hid (htb.below hba (Nat.le_refl _))
  have HSA := Lib.hid ha
  have HSB := Lib.hid hb
  obtain ⟨la, ma, na, fa, ta⟩ := a
  obtain ⟨lb, mb, nb, fb, tb⟩ := b
  simp only at *
  clear hba hfa hta hfb htb ha hb
  by_cases h1 : la = lb
  · subst h1
    by_cases h2 : ma = mb
    · subst h2
      by_cases h3 : na = nb
      · subst h3
        go_enter Tryz.func62, Tryz.ntmps62
        go_wp2_with fail
        refine (ints_equal _ FA FB fn fc fm fd fa fb HFA.out HFB.out (Nat.le_trans HSA.out.nf (by omega)) (Nat.le_trans HSB.out.nf (by omega))).mono ?_
        rintro e w3 ⟨rfl, hb3⟩
        have b0 : Blk ((w.alloc (.cells #[.int .u8 (la : Int), .int .i64 ma, .bool na, .slice FA fn fc, .slice TA tn tc] 47)).alloc (.cells #[.int .u8 (la : Int), .int .i64 ma, .bool na, .slice FB fm fd, .slice TB tm td] 47)) w.heap.size 47 [.int .u8 (la : Int), .int .i64 ma, .bool na, .slice FA fn fc, .slice TA tn tc] := (Blk.made _ 47 _ _ _ rfl rfl).alloc _
        have b1 : Blk ((w.alloc (.cells #[.int .u8 (la : Int), .int .i64 ma, .bool na, .slice FA fn fc, .slice TA tn tc] 47)).alloc (.cells #[.int .u8 (la : Int), .int .i64 ma, .bool na, .slice FB fm fd, .slice TB tm td] 47)) (w.heap.size + 1) 47 [.int .u8 (la : Int), .int .i64 ma, .bool na, .slice FB fm fd, .slice TB tm td] := Blk.made _ 47 _ _ _ (by simp) rfl
        have k0 := (b0.below hb3 b0.lt).cell 4
        have k1 := (b1.below hb3 b1.lt).cell 4
        simp only [List.getElem?_cons_zero, List.getElem?_cons_succ] at k0 k1
        have HB3 := Lib.hid (HA.out.trans (hb3.mono HA.out.size))
        have T1 := Lib.hid (HTA.out.below hb3 (Nat.le_refl _))
        have T2 := Lib.hid (HTB.out.below hb3 (Nat.le_refl _))
        clear b0 b1 hb3
        by_cases hf : fa = fb
        · rw [decide_eq_true hf]
          have HFF := Lib.hid hf
          clear hf
          dsimp only
          go_wp2_with fail
          refine (ints_equal w3 TA TB tn tc tm td ta tb T1.out T2.out (Nat.le_trans HSA.out.nt (by omega)) (Nat.le_trans HSB.out.nt (by omega))).mono ?_
          rintro e w4 ⟨rfl, hb4⟩
          have HB4 := Lib.hid (HB3.out.trans (hb4.mono HB3.out.size))
          clear hb4 k0 k1
          dsimp only
          go_wp2_with fail
          go_ret
          exact ⟨by simp [HFF.out], HB4.out⟩
        · rw [decide_eq_false hf]
          have HFF := Lib.hid hf
          clear hf
          dsimp only
          go_wp2_with fail
          go_ret
          exact ⟨by simp [HFF.out], HB3.out⟩
      · have h3I : (na == nb) = false := by simpa using h3
        go_enter Tryz.func62, Tryz.ntmps62
        go_wp2_with fail
        go_ret
        exact ⟨by simp [h3], HA.out⟩
    · have h2I : (ma == mb) = false := by simpa using h2
      go_enter Tryz.func62, Tryz.ntmps62
      go_wp2_with fail
      go_ret
      exact ⟨by simp [h2], HA.out⟩
  · have h1I : ((la : Int) == (lb : Int)) = false := by rw [beq_eq_false_iff_ne]; omega
    go_enter Tryz.func62, Tryz.ntmps62
    go_wp2_with fail
    go_ret
    exact ⟨by simp [h1], HA.out⟩
end Go.Proofs.YtdgleeglndcjhaaGreatDoor
/- slices.EqualFunc at conditions, at rows; package rule: Good. -/
namespace Go.Proofs.YtdgleeglndcjhaaGreatDoor
open Go.RowKit
set_option linter.unusedVariables false
set_option linter.unusedSimpArgs false

def SmallL (l : List Cnd) : Prop := l.length ≤ 1000 ∧ ∀ c ∈ l, SmallC c
theorem take_eq {α : Type} {l m : List α} {k : Nat} {a b : α} (hl : l[k]? = some a) (hm : m[k]? = some b) : l.take (k + 1) = m.take (k + 1) ↔ l.take k = m.take k ∧ a = b := by
  rw [List.take_add_one, List.take_add_one, hl, hm]
  constructor
  · intro h
    have h2 := List.append_inj' h rfl
    exact ⟨h2.1, by simpa using h2.2⟩
  · rintro ⟨h1, rfl⟩; rw [h1]
def EqW {α : Type} (W : World) (l m : List α) (i : Value) (wr : World) : Prop := ∃ k : Nat, k ≤ l.length ∧ i = .int .i64 k ∧ l.take k = m.take k ∧ Below W.heap.size W wr

set_option maxRecDepth 100000 in
set_option maxHeartbeats 8000000 in
theorem conds_equal (w : World) (A B : Option Addr) (n c m d : Nat) (l l' : List Cnd) (h : CondsIs w A n c l) (h' : CondsIs w B m d l') (hs : SmallL l) (hs' : SmallL l') :
    Calls Tryz.prog 61 #[.slice A n c, .slice B m d, .func (Fn.func 62) #[] #[]] w fun e w' => e = .returned (.bool (decide (l = l'))) ∧ Below w.heap.size w w' := by
  obtain rfl : n = l.length := h.len
  obtain rfl : m = l'.length := h'.len
  have HA := Lib.hid h
  have HB := Lib.hid h'
  have HS := Lib.hid hs
  have HS' := Lib.hid hs'
  have hl := hs.1
  have hl' := hs'.1
  have hlI : (l.length : Int) ≤ 1000 := by omega
  have hlI' : (l'.length : Int) ≤ 1000 := by omega
  clear h h' hs hs'
  by_cases hn : l.length = l'.length
  · have HN := Lib.hid hn
    have hnI : ((l.length : Int) != (l'.length : Int)) = false := by rw [hn]; simp
    clear hn
    go_enter Tryz.func61, Tryz.ntmps61
    go_wp2_with fail
    go_loopw [17] (fun i wr => EqW w l l' i wr) (fun i _ => l.length - (intOf i).toNat)
    case atStart => exact ⟨0, Nat.zero_le _, rfl, rfl, Below.refl _ _⟩
    case round =>
      obtain ⟨k, hk, rfl, ht, hb⟩ := hrel
      have HT := Lib.hid ht
      have HBR := Lib.hid hb
      clear ht hb
      by_cases hlt : k < l.length
      · obtain ⟨b, o, hA, hc⟩ := (HA.out.below HBR.out (Nat.le_refl _)).at (by omega)
        obtain ⟨b', o', hB, hc'⟩ := (HB.out.below HBR.out (Nat.le_refl _)).at (by have := HN.out; omega)
        subst hA
        subst hB
        obtain ⟨x, hx⟩ : ∃ x, l[k]? = some x := ⟨l[k], List.getElem?_eq_getElem hlt⟩
        obtain ⟨y, hy⟩ : ∃ y, l'[k]? = some y := ⟨l'[k]'(by have := HN.out; omega), List.getElem?_eq_getElem _⟩
        obtain ⟨FA, fn, fc, TA, tn, tc, hF, hT, c0, c1, c2, c3, c4⟩ := hc k x hx
        obtain ⟨FB, fm, fd, TB, tm, td, hF', hT', d0, d1, d2, d3, d4⟩ := hc' k y hy
        have HX := Lib.hid hx
        have HY := Lib.hid hy
        have HF := Lib.hid hF
        have HTT := Lib.hid hT
        have HF' := Lib.hid hF'
        have HT' := Lib.hid hT'
        have HXS := Lib.hid (HS.out.2 x (List.mem_of_getElem? hx))
        have HYS := Lib.hid (HS'.out.2 y (List.mem_of_getElem? hy))
        have hkI : (k : Int) < (l.length : Int) := by omega
        have hkJ : (k : Int) < (l'.length : Int) := by have := HN.out; omega
        have hk0 : (0 : Int) ≤ (k : Int) := by omega
        have hzb : b' < wr.heap.size := World.block_lt_of_cell? wr _ d0
        have hzn : ¬ b' = wr.heap.size := by omega
        clear hc hc' hx hy hF hT hF' hT'
        go_wp2_with fail
        have hba := ((Below.refl wr.heap.size wr).alloc (Nat.le_refl _) (.cells #[.int .u8 (x.letter : Int), .int .i64 x.mod, .bool x.nt, .slice FA fn fc, .slice TA tn tc] 47)).alloc (by simp) (.cells #[.int .u8 (y.letter : Int), .int .i64 y.mod, .bool y.nt, .slice FB fm fd, .slice TB tm td] 47)
        refine (rule_same _ x y FA TA FB TB fn fc tn tc fm fd tm td (HF.out.below hba (Nat.le_refl _)) (HTT.out.below hba (Nat.le_refl _)) (HF'.out.below hba (Nat.le_refl _)) (HT'.out.below hba (Nat.le_refl _)) HXS.out HYS.out).mono ?_
        rintro e w5 ⟨rfl, hb5⟩
        have HB5 := Lib.hid (HBR.out.trans ((hba.trans (hb5.mono hba.size)).mono HBR.out.size))
        clear hba hb5 c0 c1 c2 c3 c4 d0 d1 d2 d3 d4 hzb hzn
        by_cases hxy : x = y
        · rw [decide_eq_true hxy]
          have HXY := Lib.hid hxy
          clear hxy
          dsimp only
          go_wp2_with fail
          go_roundw
          case rel => exact ⟨k + 1, by omega, by go_num, (take_eq HX.out HY.out).2 ⟨HT.out, HXY.out⟩, HB5.out⟩
          case measure => simp [intOf]; omega
        · rw [decide_eq_false hxy]
          have HXY := Lib.hid hxy
          clear hxy
          dsimp only
          go_wp2_with fail
          go_ret
          refine ⟨?_, HB5.out⟩
          rw [decide_eq_false (fun e => HXY.out (by have h1 := HX.out; have h2 := HY.out; rw [e, h2] at h1; cases h1; rfl))]
          rfl
      · have hkI : ¬ (k : Int) < (l.length : Int) := by omega
        have he : l = l' := by have := HT.out; rw [List.take_of_length_le (by omega), List.take_of_length_le (by have := HN.out; omega)] at this; exact this
        have HE := Lib.hid he
        clear he
        go_wp2_with fail
        go_ret
        exact ⟨by rw [decide_eq_true HE.out]; rfl, HBR.out⟩
  · have hnI : ((l.length : Int) != (l'.length : Int)) = true := by simp only [bne, Bool.not_eq_true', beq_eq_false_iff_ne]; omega
    have hd : decide (l = l') = false := decide_eq_false (fun e => hn (congrArg List.length e))
    rw [hd]
    clear hd hn
    go_enter Tryz.func61, Tryz.ntmps61
    go_wp2_with fail
    go_ret
    exact ⟨rfl, Below.refl _ _⟩

set_option maxRecDepth 100000 in
set_option maxHeartbeats 4000000 in
theorem good_1 (w : World) (A B : Option Addr) (n c m d : Nat) (l l' : List Cnd) (h : CondsIs w A n c l) (h' : CondsIs w B m d l') (hs : SmallL l) (hs' : SmallL l') :
    Calls Tryz.prog 60 #[.slice A n c, .slice B m d] w fun e w' => e = .returned (.bool (decide (l = l'))) ∧ Below w.heap.size w w' := by
  have HC := Lib.hid (conds_equal w A B n c m d l l' h h' hs hs')
  clear h h' hs hs'
  go_enter Tryz.func60, Tryz.ntmps60
  go_wp2_with fail
  refine HC.out.mono ?_
  rintro e w1 ⟨rfl, hb⟩
  have HB := Lib.hid hb
  clear hb HC
  dsimp only
  go_wp2_with fail
  go_ret
  exact ⟨rfl, HB.out⟩

set_option maxRecDepth 100000 in
set_option maxHeartbeats 8000000 in
theorem rows_equal (w : World) (A B : Option Addr) (n c m d : Nat) (l l' : Rl) (h : RuleIs w A n c l) (h' : RuleIs w B m d l') (hs : SmallR l) (hs' : SmallR l') :
    Calls Tryz.prog 59 #[.slice A n c, .slice B m d, .func (Fn.func 60) #[] #[]] w fun e w' => e = .returned (.bool (decide (l = l'))) ∧ Below w.heap.size w w' := by
  obtain rfl : n = l.length := h.len
  obtain rfl : m = l'.length := h'.len
  have HA := Lib.hid h
  have HB := Lib.hid h'
  have HS := Lib.hid hs
  have HS' := Lib.hid hs'
  have hl := hs.len
  have hl' := hs'.len
  have hlI : (l.length : Int) ≤ 1000 := by omega
  have hlI' : (l'.length : Int) ≤ 1000 := by omega
  clear h h' hs hs'
  by_cases hn : l.length = l'.length
  · have HN := Lib.hid hn
    have hnI : ((l.length : Int) != (l'.length : Int)) = false := by rw [hn]; simp
    clear hn
    go_enter Tryz.func59, Tryz.ntmps59
    go_wp2_with fail
    go_loopw [17] (fun i wr => EqW w l l' i wr) (fun i _ => l.length - (intOf i).toNat)
    case atStart => exact ⟨0, Nat.zero_le _, rfl, rfl, Below.refl _ _⟩
    case round =>
      obtain ⟨k, hk, rfl, ht, hb⟩ := hrel
      have HT := Lib.hid ht
      have HBR := Lib.hid hb
      clear ht hb
      by_cases hlt : k < l.length
      · obtain ⟨b, o, hA, hc⟩ := (HA.out.below HBR.out (Nat.le_refl _)).at (by omega)
        obtain ⟨b', o', hB, hc'⟩ := (HB.out.below HBR.out (Nat.le_refl _)).at (by have := HN.out; omega)
        subst hA
        subst hB
        obtain ⟨x, hx⟩ : ∃ x, l[k]? = some x := ⟨l[k], List.getElem?_eq_getElem hlt⟩
        obtain ⟨y, hy⟩ : ∃ y, l'[k]? = some y := ⟨l'[k]'(by have := HN.out; omega), List.getElem?_eq_getElem _⟩
        obtain ⟨xA, xn, xc, c0, hX⟩ := hc k x hx
        obtain ⟨yA, yn, yc, d0, hY⟩ := hc' k y hy
        have HX := Lib.hid hx
        have HY := Lib.hid hy
        have CX := Lib.hid hX
        have CY := Lib.hid hY
        have HXS := Lib.hid (HS.out.rows x (List.mem_of_getElem? hx))
        have HYS := Lib.hid (HS'.out.rows y (List.mem_of_getElem? hy))
        have hkI : (k : Int) < (l.length : Int) := by omega
        have hkJ : (k : Int) < (l'.length : Int) := by have := HN.out; omega
        have hk0 : (0 : Int) ≤ (k : Int) := by omega
        clear hc hc' hx hy hX hY
        go_wp2_with fail
        refine (good_1 wr xA yA xn xc yn yc x y CX.out CY.out HXS.out HYS.out).mono ?_
        rintro e w5 ⟨rfl, hb5⟩
        have HB5 := Lib.hid (HBR.out.trans (hb5.mono HBR.out.size))
        clear hb5 c0 d0
        by_cases hxy : x = y
        · rw [decide_eq_true hxy]
          have HXY := Lib.hid hxy
          clear hxy
          dsimp only
          go_wp2_with fail
          go_roundw
          case rel => exact ⟨k + 1, by omega, by go_num, (take_eq HX.out HY.out).2 ⟨HT.out, HXY.out⟩, HB5.out⟩
          case measure => simp [intOf]; omega
        · rw [decide_eq_false hxy]
          have HXY := Lib.hid hxy
          clear hxy
          dsimp only
          go_wp2_with fail
          go_ret
          refine ⟨?_, HB5.out⟩
          rw [decide_eq_false (fun e => HXY.out (by have h1 := HX.out; have h2 := HY.out; rw [e, h2] at h1; cases h1; rfl))]
          rfl
      · have hkI : ¬ (k : Int) < (l.length : Int) := by omega
        have he : l = l' := by have := HT.out; rw [List.take_of_length_le (by omega), List.take_of_length_le (by have := HN.out; omega)] at this; exact this
        have HE := Lib.hid he
        clear he
        go_wp2_with fail
        go_ret
        exact ⟨by rw [decide_eq_true HE.out]; rfl, HBR.out⟩
  · have hnI : ((l.length : Int) != (l'.length : Int)) = true := by simp only [bne, Bool.not_eq_true', beq_eq_false_iff_ne]; omega
    have hd : decide (l = l') = false := decide_eq_false (fun e => hn (congrArg List.length e))
    rw [hd]
    clear hd hn
    go_enter Tryz.func59, Tryz.ntmps59
    go_wp2_with fail
    go_ret
    exact ⟨rfl, Below.refl _ _⟩
end Go.Proofs.YtdgleeglndcjhaaGreatDoor
/- Package rule: Good, Show. -/
namespace Go.Proofs.YtdgleeglndcjhaaGreatDoor
open Go.RowKit
set_option linter.unusedVariables false
set_option linter.unusedSimpArgs false

theorem len_le_join (sep : Bs) : ∀ ws : List Bs, ∀ w ∈ ws, w.length ≤ (Lib.join ws sep).length
  | [], w, h => by cases h
  | x :: r, w, h => by
    rw [Lib.join_length]
    have aux : ∀ l : List Bs, ∀ w ∈ l, w.length ≤ Lib.lens l := by
      intro l
      induction l with
      | nil => intro w h; cases h
      | cons a l ih =>
        intro w h
        simp only [Lib.lens, List.map_cons, List.sum_cons] at ih ⊢
        rcases List.mem_cons.1 h with rfl | h
        · omega
        · have := ih w h; omega
    have := aux _ w h; omega
theorem many_le_join (b : UInt8) (sep : Bs) : ∀ ws : List Bs, ws.length ≤ (Lib.join ws (b :: sep)).length + 1
  | [] => by simp
  | x :: r => by
    rw [Lib.join_length]
    have : r.length ≤ (b :: sep).length * r.length := Nat.le_mul_of_pos_left _ (by simp)
    simp only [List.length_cons] at *
    omega
theorem smallC_of {c : Cnd} (h : Valid c) (hl : (writeC c).length ≤ 256) : SmallC c := by
  obtain ⟨⟨l, hl1, h1⟩, ⟨m, h2, hm⟩, ⟨L, h0, h3, h4, h5⟩⟩ := h
  have hj : (Lib.join (items c.fr c.to) [44]).length ≤ 256 := by
    unfold writeC at hl
    simp only [List.length_append] at hl
    omega
  have hm2 := many_le_join 44 [] (items c.fr c.to)
  rw [items_len] at hm2
  have e1 : c.fr.length = L.length := by rw [h3]; simp
  have e2 : c.to.length = L.length := by rw [h4]; simp
  refine ⟨by rw [h1]; exact l.toNat_lt, by rw [h2]; constructor <;> omega, fun x hx => ?_, fun x hx => ?_, by omega, by omega⟩
  · rw [h3] at hx
    obtain ⟨e, he, rfl⟩ := List.mem_map.1 hx
    have := h5 e he
    constructor <;> omega
  · rw [h4] at hx
    obtain ⟨e, he, rfl⟩ := List.mem_map.1 hx
    have := h5 e he
    constructor <;> omega
theorem smallR_of {r : Rl} (h : ValidR r) (hl : (writeR r).length ≤ 256) : SmallR r := by
  have h1 := many_le_join 32 [111, 114, 32] (r.map writeL)
  have e1 : (Lib.join (r.map writeL) [32, 111, 114, 32]).length ≤ 256 := hl
  refine ⟨by simp at h1; omega, fun l hll => ?_⟩
  have h2 := len_le_join [32, 111, 114, 32] (r.map writeL) (writeL l) (List.mem_map_of_mem hll)
  have h3 := many_le_join 32 [97, 110, 100, 32] (l.map writeC)
  have e2 : (Lib.join (l.map writeC) [32, 97, 110, 100, 32]).length ≤ 256 := by show (writeL l).length ≤ 256; omega
  refine ⟨by simp at h3; omega, fun c hc => smallC_of ((h.rows l hll).2 c hc) ?_⟩
  have h4 := len_le_join [32, 97, 110, 100, 32] (l.map writeC) (writeC c) (List.mem_map_of_mem hc)
  omega
theorem smallR_good {r : Rl} (h : goodR r = true) : SmallR r := by
  have e : parseR (writeR r) = (0, r) := of_decide_eq_true h
  exact smallR_of (goodR_valid h) (parseR_ok e).1
theorem smallR_nil : SmallR [] := ⟨by simp, fun l h => by cases h⟩
theorem parseR_cases (s : Bs) : (∃ r, parseR s = (0, r) ∧ SmallR r) ∨ ∃ e, parseR s = (e, []) ∧ (e = 2 ∨ e = 11) := by
  unfold parseR
  split
  · exact .inr ⟨11, rfl, .inr rfl⟩
  · rename_i hl
    split
    · exact .inr ⟨2, rfl, .inl rfl⟩
    · rename_i r hr
      have := rule?_some hr
      exact .inl ⟨r, rfl, smallR_of this.1 (by omega)⟩

set_option maxRecDepth 100000 in
set_option maxHeartbeats 8000000 in
theorem rule_Good (w : World) (A : Option Addr) (n c : Nat) (r : Rl) (hG : GW w) (h : RuleIs w A n c r) (hs : SmallR r) :
    Calls Tryz.prog 17 #[.agg #[.slice A n c]] w fun e w' => e = .returned (.bool (goodR r)) ∧ Below w.heap.size w w' := by
  have HG := Lib.hid hG
  have HX := Lib.hid h
  have HS := Lib.hid hs
  clear hG h hs
  go_enter Tryz.func17, Tryz.ntmps17
  go_upto_region 1 with fail
  refine wp_letter (fun w1 => Blk w1 w.heap.size 30 [.slice A n c] ∧ Below w.heap.size w w1) ⟨Blk.made _ 30 _ _ _ rfl rfl, (Below.refl _ _).alloc (Nat.le_refl _) _⟩ ?_
  rintro w1 ⟨b0, hb⟩
  have B0 := Lib.hid b0
  have HB := Lib.hid hb
  have k0 := b0.cell 0
  simp only [List.getElem?_cons_zero] at k0
  clear b0 hb
  go_wp2_with fail
  refine (rule_write w1 A n c r (HG.out.below HB.out (Nat.le_refl _)) (HX.out.below HB.out (Nat.le_refl _)) HS.out).mono ?_
  rintro e w2 ⟨rfl, hb2⟩
  have HB2 := Lib.hid (HB.out.trans (hb2.mono HB.out.size))
  have B2 := Lib.hid (B0.out.below hb2 B0.out.lt)
  clear hb2 k0 B0 HB
  dsimp only
  go_wp2_with fail
  refine (rule_Parse w2 ⟨(writeR r).toArray⟩ (HG.out.below HB2.out (Nat.le_refl _))).mono ?_
  rintro e w3 ⟨A3, n3, c3, rfl, hr3, hb3⟩
  have hpe : (⟨(writeR r).toArray⟩ : ByteArray).data.toList = writeR r := rfl
  rw [hpe] at hr3 ⊢
  have HB3 := Lib.hid (HB2.out.trans (hb3.mono HB2.out.size))
  have B3 := Lib.hid (B2.out.below hb3 B2.out.lt)
  have HR3 := Lib.hid hr3
  clear hb3 hr3 B2 HB2 hpe
  rcases parseR_cases (writeR r) with ⟨r', hp, hs'⟩ | ⟨e0, hp, he0⟩
  · have HP := Lib.hid hp
    have HS' := Lib.hid hs'
    rw [hp]
    have HR4 : Hid (RuleAre w3 A3 n3 c3 r') := by have := HR3.out; rw [hp] at this; exact this.are
    have hgr : goodR r = decide (r = r') := by
      unfold goodR
      rw [hp]
      rw [decide_eq_decide]
      constructor
      · intro h; exact (Prod.mk.inj h).2.symm
      · intro h; rw [h]
    have HGR := Lib.hid hgr
    have k3 := B3.out.cell 0
    have hz3 := B3.out.lt
    simp only [List.getElem?_cons_zero] at k3
    clear hp hs' hgr HR3
    dsimp only
    go_wp2_with fail
    have hba := (Below.refl w3.heap.size w3).alloc (Nat.le_refl _) (.cells #[.slice A3 n3 c3] 30)
    refine (rows_equal _ A A3 n c n3 c3 r r' ((HX.out.below HB3.out (Nat.le_refl _)).below hba (Nat.le_refl _)) (HR4.out.is.below hba (Nat.le_refl _)) HS.out HS'.out).mono ?_
    rintro e w5 ⟨rfl, hb5⟩
    have HB5 := Lib.hid (HB3.out.trans ((hba.trans (hb5.mono hba.size)).mono HB3.out.size))
    clear hba hb5 k3
    dsimp only
    go_wp2_with fail
    go_ret
    exact ⟨by rw [HGR.out]; rfl, HB5.out⟩
  · have hgr : goodR r = false := by
      unfold goodR
      rw [hp]
      refine decide_eq_false fun h => ?_
      have := (Prod.mk.inj h).1
      omega
    rw [hp]
    have HGR := Lib.hid hgr
    have heI : ((e0 : Int) == 0) = false := by rw [beq_eq_false_iff_ne]; omega
    have k3 := B3.out.cell 0
    have hz3 := B3.out.lt
    simp only [List.getElem?_cons_zero] at k3
    clear hp hgr HR3
    dsimp only
    go_wp2_with fail
    go_ret
    exact ⟨by rw [HGR.out]; rfl, HB3.out.alloc HB3.out.size _⟩

set_option maxRecDepth 100000 in
set_option maxHeartbeats 8000000 in
theorem rule_Show (w : World) (A : Option Addr) (n c : Nat) (r : Rl) (hG : GW w) (h : RuleIs w A n c r) (hs : SmallR r) :
    Calls Tryz.prog 19 #[.agg #[.slice A n c]] w fun e w' => e = .returned (.string ⟨(if goodR r then writeR r else []).toArray⟩) ∧ Below w.heap.size w w' := by
  have HG := Lib.hid hG
  have HX := Lib.hid h
  have HS := Lib.hid hs
  clear hG h hs
  go_enter Tryz.func19, Tryz.ntmps19
  go_upto_region 1 with fail
  refine wp_letter (fun w1 => Blk w1 w.heap.size 30 [.slice A n c] ∧ Below w.heap.size w w1) ⟨Blk.made _ 30 _ _ _ rfl rfl, (Below.refl _ _).alloc (Nat.le_refl _) _⟩ ?_
  rintro w1 ⟨b0, hb⟩
  have B0 := Lib.hid b0
  have HB := Lib.hid hb
  have k0 := b0.cell 0
  simp only [List.getElem?_cons_zero] at k0
  clear b0 hb
  go_wp2_with fail
  refine (rule_Good w1 A n c r (HG.out.below HB.out (Nat.le_refl _)) (HX.out.below HB.out (Nat.le_refl _)) HS.out).mono ?_
  rintro e w2 ⟨rfl, hb2⟩
  have HB2 := Lib.hid (HB.out.trans (hb2.mono HB.out.size))
  have B2 := Lib.hid (B0.out.below hb2 B0.out.lt)
  have k2 := B2.out.cell 0
  simp only [List.getElem?_cons_zero] at k2
  clear hb2 k0 B0 HB
  cases hg : goodR r
  · dsimp only
    go_wp2_with fail
    all_goals
      go_ret
      exact ⟨rfl, HB2.out⟩
  · dsimp only
    go_wp2_with fail
    refine (rule_write w2 A n c r (HG.out.below HB2.out (Nat.le_refl _)) (HX.out.below HB2.out (Nat.le_refl _)) HS.out).mono ?_
    rintro e w3 ⟨rfl, hb3⟩
    have HB3 := Lib.hid (HB2.out.trans (hb3.mono HB2.out.size))
    clear hb3 k2
    dsimp only
    go_wp2_with fail
    go_ret
    exact ⟨rfl, HB3.out⟩
end Go.Proofs.YtdgleeglndcjhaaGreatDoor
