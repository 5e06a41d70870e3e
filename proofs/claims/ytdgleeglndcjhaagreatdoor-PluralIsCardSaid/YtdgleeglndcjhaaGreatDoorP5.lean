/- Package oper: Of. -/
import Derived.Test.YtdgleeglndcjhaaGreatDoorP4
namespace Go.Proofs.YtdgleeglndcjhaaGreatDoor
open Go.RowKit
set_option linter.unusedVariables false
set_option linter.unusedSimpArgs false

theorem list8 {α : Type} {l : List α} (h : l.length = 8) : ∃ a b c d e f g i, l = [a, b, c, d, e, f, g, i] := by
  match l, h with
  | [a, b, c, d, e, f, g, i], _ => exact ⟨a, b, c, d, e, f, g, i, rfl⟩
theorem Hold.fill8 {W w : World} {g : Nat} {t : TypeId} (hh : Hold W g t 8 w) (a b c d e f h i : Value) : Blk ((((((((w.setCell ⟨g, 0, none⟩ a).setCell ⟨g, 1, none⟩ b).setCell ⟨g, 2, none⟩ c).setCell ⟨g, 3, none⟩ d).setCell ⟨g, 4, none⟩ e).setCell ⟨g, 5, none⟩ f).setCell ⟨g, 6, none⟩ h).setCell ⟨g, 7, none⟩ i) g t [a, b, c, d, e, f, h, i] := by
  obtain ⟨-, -, ⟨l, h3, h4, -⟩, -⟩ := hh
  obtain ⟨x0, x1, x2, x3, x4, x5, x6, x7, rfl⟩ := list8 h3
  have q := (((((((h4.put 0 a).put 1 b).put 2 c).put 3 d).put 4 e).put 5 f).put 6 h).put 7 i
  simpa only [List.set_cons_zero, List.set_cons_succ] using q

theorem short_le : ∀ (s k : Nat), (short k s).2 ≤ s ∧ (short k s).1 ≤ k
  | 0, k => ⟨Nat.le_refl _, Nat.le_refl _⟩
  | s + 1, k => by
    unfold short
    split
    · have := short_le s (k / 10)
      exact ⟨by omega, Nat.le_trans this.2 (Nat.div_le_self _ _)⟩
    · exact ⟨Nat.le_refl _, Nat.le_refl _⟩
theorem nval_padD {j r : Nat} (h : r < 10 ^ j) : nval (padD j r) = r := by
  rcases Nat.eq_zero_or_pos j with h0 | h0
  · subst h0
    have : r = 0 := by simpa using h
    subst this; rfl
  · have hd : isNum (padD j r) = true := by
      unfold isNum
      refine decide_eq_true ⟨fun e => ?_, ?_⟩
      · have := padD_len j r; rw [e] at this; simp at this; omega
      · rw [(padD_eq j r h h0).2]
        intro b hb
        rcases List.mem_append.1 hb with hb | hb
        · rw [List.mem_replicate] at hb; rw [hb.2]; rfl
        · exact decDigits_dig r b hb
    unfold nval
    rw [if_pos hd, decFrom_padD j r 0 h]; simp
/-- The numeral that the law takes: the one given, if it is good, else nought. -/
def decK (b : Bool) (l : List Nat) (sc : Int) : Nat := if goodD b l sc then val l else 0
def decS (b : Bool) (l : List Nat) (sc : Int) : Nat := if goodD b l sc then sc.toNat else 0
/-- The operand of a numeral is returned. -/
def OfR (e : Ending) (w' : World) (k s m : Nat) : Prop :=
  ∃ b A n c A' n' c' iA il ic fA fl fc tA tl tc, e = .returned (.agg #[.bool b, .slice A n c, .slice A' n' c', .slice iA il ic, .int .i64 (s : Nat), .int .i64 ((short k s).2 : Nat), .slice fA fl fc, .slice tA tl tc]) ∧
    OpR w' b A n c A' n' c' iA il ic fA fl fc tA tl tc k (10 ^ s) m (k / 10 ^ s) s (short k s).2 (k % 10 ^ s) ((short k s).1 % 10 ^ (short k s).2)
def ofVal (k s : Nat) : Nat → Nat × Nat := opVal k (10 ^ s) (k / 10 ^ s) s (short k s).2 (k % 10 ^ s) ((short k s).1 % 10 ^ (short k s).2)
def OfI (W : World) (g : Nat) (K S : Nat) (wx : World) : Prop :=
  ∃ b A n c, Blk wx g 26 [.bool b, .slice A n c, .int .i64 (S : Nat)] ∧ Blk wx (g + 1) 39 [.bool false, .slice none 0 0, .slice none 0 0, .slice none 0 0, .int .i64 0, .int .i64 0, .slice none 0 0, .slice none 0 0] ∧ SN wx A n c K ∧ Below g W wx

set_option maxRecDepth 100000 in
set_option maxHeartbeats 16000000 in
theorem oper_Of (w : World) (b : Bool) (A : Option Addr) (n c : Nat) (l : List Nat) (sc : Int) (m : Nat) (hG : GW w) (h : RL w (.slice A n c) l) (hl : l.length ≤ 1000000) (hk : decK b l sc < 2 ^ m) (hm : 200 ≤ m) (hm2 : m ≤ 40000) :
    Calls Tryz.prog 15 #[.agg #[.bool b, .slice A n c, .int .i64 sc]] w fun e w' => OfR e w' (decK b l sc) (decS b l sc) m ∧ Below w.heap.size w w' := by
  have HG := Lib.hid hG
  have HX := Lib.hid h
  have HK := Lib.hid hk
  have HM := Lib.hid hm
  have HM2 := Lib.hid hm2
  have HS : Hid (decS b l sc ≤ 60) := by
    show decS b l sc ≤ 60
    unfold decS goodD
    split
    · rename_i hg
      simp at hg
      omega
    · omega
  have HC : Hid (goodD b l sc = true → (sc = (decS b l sc : Nat)) ∧ SN w A n c (decK b l sc)) := fun hg => by
    unfold decS decK
    rw [if_pos hg, if_pos hg]
    have hg' := hg
    unfold goodD at hg'
    simp at hg'
    refine ⟨by omega, ?_⟩
    unfold SN RN; rw [goodL_words h.2 hg'.1]; exact h
  have HD : Hid (goodD b l sc = false → decS b l sc = 0 ∧ decK b l sc = 0) := fun hg => by unfold decS decK; rw [hg]; exact ⟨rfl, rfl⟩
  clear h hk hm hm2 hG
  generalize hKe : decK b l sc = KN at *
  generalize hSe : decS b l sc = S at *
  clear hKe hSe
  go_enter Tryz.func15, Tryz.ntmps15
  go_upto_region 1 with fail
  refine wp_letter (fun w1 => Blk w1 w.heap.size 26 [.bool b, .slice A n c, .int .i64 sc] ∧ Blk w1 (w.heap.size + 1) 39 [.bool false, .slice none 0 0, .slice none 0 0, .slice none 0 0, .int .i64 0, .int .i64 0, .slice none 0 0, .slice none 0 0] ∧ Below w.heap.size w w1) ⟨(Blk.made _ 26 _ _ _ rfl rfl).alloc _, Blk.made _ 39 _ _ _ (by simp) rfl, ((Below.refl _ _).alloc (Nat.le_refl _) _).alloc (by simp) _⟩ ?_
  rintro w1 ⟨b0, b1, hb⟩
  have B0 := Lib.hid b0
  have B1 := Lib.hid b1
  have HB := Lib.hid hb
  have k0 := b0.cell 0
  have k1 := b0.cell 1
  have k2 := b0.cell 2
  simp only [List.getElem?_cons_zero, List.getElem?_cons_succ] at k0 k1 k2
  clear b0 b1 hb
  go_wp2_with fail
  refine (dec_Good w1 b A n c l sc (HX.out.below HB.out (Nat.le_refl _)) hl).mono ?_
  rintro e w2 ⟨rfl, hb2⟩
  have C0 := Lib.hid (B0.out.below hb2 B0.out.lt)
  have C1 := Lib.hid (B1.out.below hb2 B1.out.lt)
  have HB2 := Lib.hid (HB.out.trans (hb2.mono HB.out.size))
  clear hb2 k0 k1 k2 B0 B1
  dsimp only
  go_upto_if 7 with fail
  go_cut [] (fun wx => OfI w w.heap.size KN S wx)
  case first =>
    rcases Bool.eq_false_or_eq_true (goodD b l sc) with hg | hg
    · obtain ⟨h1, h2⟩ := HC.out hg
      rw [hg]
      have hx := Lib.hid (h2.below HB2.out (Nat.le_refl _))
      clear hg h2
      go_wp2_with fail
      go_meet
      exact ⟨b, A, n, c, by rw [← h1]; exact C0.out, C1.out, hx.out, HB2.out⟩
    · obtain ⟨h1, h2⟩ := HD.out hg
      rw [hg]
      have H1 := Lib.hid h1
      have H2 := Lib.hid h2
      have f0 := C0.out.frozen 0
      have f1 := C0.out.frozen 1
      have f2 := C0.out.frozen 2
      have k0 := C0.out.cell 0
      have k1 := C0.out.cell 1
      have k2 := C0.out.cell 2
      simp only [List.getElem?_cons_zero, List.getElem?_cons_succ] at k0 k1 k2
      have hh : Hold w2 w.heap.size 26 3 w2 := Hold.start C0.out (by simp [No32])
      have q := hh.fill3 (.bool false) (.slice none 0 0) (.int .i64 0)
      have q1 := ((C1.out.far ⟨w.heap.size, 0, none⟩ (.bool false) (by simp)).far ⟨w.heap.size, 1, none⟩ (.slice none 0 0) (by simp)).far ⟨w.heap.size, 2, none⟩ (.int .i64 0) (by simp)
      have q2 := below_set (below_set (below_set HB2.out w.heap.size 0 (Nat.le_refl _) (.bool false)) w.heap.size 1 (Nat.le_refl _) (.slice none 0 0)) w.heap.size 2 (Nat.le_refl _) (.int .i64 0)
      have Q := Lib.hid q
      have Q1 := Lib.hid q1
      have Q2 := Lib.hid q2
      clear hg h1 h2 q q1 q2 hh
      go_wp2_with fail
      go_meet
      exact ⟨false, none, 0, 0, by rw [H1.out]; exact Q.out, Q1.out, by rw [H2.out]; show RL _ _ (wordsOf 0); rw [wordsOf_zero]; exact ⟨SlC.nil _ _ _ _, Wd.nil⟩, Q2.out⟩
  case rest =>
    obtain ⟨b1, A1, n1, c1, d0, d1, hx, hb⟩ := hcut
    have f0 := d0.frozen 0
    have k0 := d0.cell 0
    simp only [List.getElem?_cons_zero, List.getElem?_cons_succ] at k0
    have q := d0.put 0 (.bool false)
    have q1 := d1.far ⟨w.heap.size, 0, none⟩ (.bool false) (by simp)
    have hh : Hold wc w.heap.size 26 3 wc := Hold.start d0 (by simp [No32])
    have q2 := hx.hset hh 0 (.bool false)
    have q3 := below_set hb w.heap.size 0 (Nat.le_refl _) (.bool false)
    simp only [List.set_cons_zero] at q
    have Q0 := Lib.hid q
    have Q1 := Lib.hid q1
    have Q2 := Lib.hid q2
    have Q3 := Lib.hid q3
    clear d0 d1 hx hb q q1 q2 q3 hh C0 C1 HB2 HC HD
    go_step
    go_upto_region 4 with fail
    refine wp_letter (fun w3 => Blk w3 w.heap.size 26 [.bool false, .slice A1 n1 c1, .int .i64 (S : Nat)] ∧ Blk w3 (w.heap.size + 1) 39 [.bool false, .slice none 0 0, .slice none 0 0, .slice none 0 0, .int .i64 0, .int .i64 0, .slice none 0 0, .slice none 0 0] ∧ SN w3 A1 n1 c1 KN ∧ Below w.heap.size w w3) ⟨Q0.out, Q1.out, Q2.out, Q3.out⟩ ?_
    clear Q0 Q1 Q2 Q3 f0 k0
    rintro w3 ⟨d0, d1, hx, hb⟩
    have D0 := Lib.hid d0
    have D1 := Lib.hid d1
    have HX3 := Lib.hid hx
    have HB3 := Lib.hid hb
    have HG3 := Lib.hid (HG.out.below hb (Nat.le_refl _))
    have k0 := d0.cell 0
    have k1 := d0.cell 1
    have k2 := d0.cell 2
    simp only [List.getElem?_cons_zero, List.getElem?_cons_succ] at k0 k1 k2
    clear d0 d1 hx hb
    have hm2 := HM2.out
    have hSS := HS.out
    go_wp2_with fail
    refine (dec_Part w3 A1 n1 c1 KN S m HG3.out HX3.out HK.out (by omega) hSS).mono ?_
    rintro e w4 ⟨rfl, hb4⟩
    have D0' := Lib.hid (D0.out.below hb4 D0.out.lt)
    have D1' := Lib.hid (D1.out.below hb4 D1.out.lt)
    have HX4 := Lib.hid (HX3.out.below hb4 (Nat.le_refl _))
    have HB4 := Lib.hid (HB3.out.trans (hb4.mono HB3.out.size))
    have HG4 := Lib.hid (HG3.out.below hb4 (Nat.le_refl _))
    clear k0 k1 k2 hb4 D0 D1 HX3 HB3 HG3
    have k0 := D0'.out.cell 0
    have k1 := D0'.out.cell 1
    have k2 := D0'.out.cell 2
    simp only [List.getElem?_cons_zero, List.getElem?_cons_succ] at k0 k1 k2
    have hpl := padD_len S (KN % 10 ^ S)
    generalize hPP : padD S (KN % 10 ^ S) = P1 at *
    have HP1 := Lib.hid hPP
    clear hPP
    dsimp only
    go_wp2_with fail
    refine (dec_Short w4 A1 n1 c1 KN S HX4.out m HK.out HM.out (by omega) hSS).mono ?_
    rintro e w5 ⟨⟨A5, n5, c5, rfl, hx5⟩, hb5⟩
    have D0 := Lib.hid (D0'.out.below hb5 D0'.out.lt)
    have D1 := Lib.hid (D1'.out.below hb5 D1'.out.lt)
    have HX5 := Lib.hid (HX4.out.below hb5 (Nat.le_refl _))
    have HS5 := Lib.hid hx5
    have HB5 := Lib.hid (HB4.out.trans (hb5.mono HB4.out.size))
    have HG5 := Lib.hid (HG4.out.below hb5 (Nat.le_refl _))
    clear k0 k1 k2 hx5 hb5 D0' D1' HX4 HB4 HG4
    have hsl := short_le S KN
    have HSL := Lib.hid hsl
    dsimp only
    generalize hK2 : (short KN S).1 = K2 at *
    generalize hS2 : (short KN S).2 = S2 at *
    have HK2 := Lib.hid hK2
    have HS2 := Lib.hid hS2
    have hs2 : S2 ≤ 60 := by omega
    clear hK2 hS2 hsl
    go_wp2_with fail
    refine (dec_Part w5 A5 n5 c5 K2 S2 m HG5.out HS5.out (Nat.lt_of_le_of_lt HSL.out.2 HK.out) (by omega) hs2).mono ?_
    rintro e w6 ⟨rfl, hb6⟩
    have E0 := Lib.hid (D0.out.below hb6 D0.out.lt)
    have E1 := Lib.hid (D1.out.below hb6 D1.out.lt)
    have HX6 := Lib.hid (HX5.out.below hb6 (Nat.le_refl _))
    have HB6 := Lib.hid (HB5.out.trans (hb6.mono HB5.out.size))
    have HG6 := Lib.hid (HG5.out.below hb6 (Nat.le_refl _))
    have hpl2 := padD_len S2 (K2 % 10 ^ S2)
    generalize hPP : padD S2 (K2 % 10 ^ S2) = P2 at *
    have HP2 := Lib.hid hPP
    clear hPP hb6 D0 D1 HX5 HB5 HG5 HS5
    dsimp only
    go_upto_region 6 with fail
    have HF : Hid (∀ w', Below w6.heap.size w6 w' → w'.cell? ⟨w.heap.size, 0, none⟩ = some (.bool false) ∧ w'.cell? ⟨w.heap.size, 1, none⟩ = some (.slice A1 n1 c1) ∧ w'.cell? ⟨w.heap.size, 2, none⟩ = some (.int .i64 (S : Nat))) := fun w' h => by
      have d := E0.out.below h E0.out.lt
      exact ⟨d.cell 0, d.cell 1, d.cell 2⟩
    refine wp_region_but (fun w' => Below w6.heap.size w6 w') (by kernel_rfl) (by kernel_rfl) (Below.refl _ _).drew (fun hHeld => ?_)
    simp only [initL, lastL]
    have HB0 := Lib.hid hHeld
    refine takeL (i := 0) (v := ?v1) rfl (by kernel_rfl) (by kernel_rfl) (by kernel_rfl) (fun _ _ _ h => h) (Or.inl ⟨by rfl, ?hy1⟩) (by assumption) ?rest1
    case hy1 => (intro wz hSz; (have hfz := HF.out wz hSz); go_split_ands; (first | (go_simp; done) | (go_simp; with_reducible rfl)))
    try simp only [Act.put, List.setIfInBounds_toArray, List.set_cons_zero, List.set_cons_succ]
    refine takeL (i := 2) (v := ?v2) rfl (by kernel_rfl) (by kernel_rfl) (by kernel_rfl) (fun _ _ _ h => h) (Or.inl ⟨by rfl, ?hy2⟩) (by assumption) ?rest2
    case hy2 => (intro wz hSz; (have hfz := HF.out wz hSz); go_split_ands; (first | (go_simp; done) | (go_simp; with_reducible rfl)))
    try simp only [Act.put, List.setIfInBounds_toArray, List.set_cons_zero, List.set_cons_succ]
    refine takeL (i := 4) (v := ?v3) rfl (by kernel_rfl) (by kernel_rfl) (by kernel_rfl) (fun _ _ _ h => h) (Or.inl ⟨by rfl, ?hy3⟩) (by assumption) ?rest3
    case hy3 => (intro wz hSz; (have hfz := HF.out wz hSz); go_split_ands; (first | (go_simp; done) | (go_simp; with_reducible rfl)))
    try simp only [Act.put, List.setIfInBounds_toArray, List.set_cons_zero, List.set_cons_succ]
    refine takeL (i := 5) (v := ?v4) rfl (by kernel_rfl) (by kernel_rfl) (by kernel_rfl) (fun _ _ _ h => h) (Or.inl ⟨by rfl, ?hy4⟩) (by assumption) ?rest4
    case hy4 => (intro wz hSz; (have hfz := HF.out wz hSz); go_split_ands; (first | (go_simp; done) | (go_simp; with_reducible rfl)))
    try simp only [Act.put, List.setIfInBounds_toArray, List.set_cons_zero, List.set_cons_succ]
    refine takeL (i := 6) (v := ?v5) rfl (by kernel_rfl) (by kernel_rfl) (by kernel_rfl) (fun _ _ _ h => h) (Or.inl ⟨by rfl, ?hy5⟩) (by assumption) ?rest5
    case hy5 => (intro wz hSz; (have hfz := HF.out wz hSz); go_split_ands; (first | (go_simp; done) | (go_simp; with_reducible rfl)))
    try simp only [Act.put, List.setIfInBounds_toArray, List.set_cons_zero, List.set_cons_succ]
    refine takeL (i := 7) (v := ?v6) rfl (by kernel_rfl) (by kernel_rfl) (by kernel_rfl) (fun _ _ _ h => h) (Or.inl ⟨by rfl, ?hy6⟩) (by assumption) ?rest6
    case hy6 => (intro wz hSz; (have hfz := HF.out wz hSz); go_split_ands; (first | (go_simp; done) | (go_simp; with_reducible rfl)))
    try simp only [Act.put, List.setIfInBounds_toArray, List.set_cons_zero, List.set_cons_succ]
    refine takeL (i := 8) (v := ?v7) rfl (by kernel_rfl) (by kernel_rfl) (by kernel_rfl) (fun _ _ _ h => h) (Or.inl ⟨by rfl, ?hy7⟩) (by assumption) ?rest7
    case hy7 => (intro wz hSz; (have hfz := HF.out wz hSz); go_split_ands; (first | (go_simp; done) | (go_simp; with_reducible rfl)))
    try simp only [Act.put, List.setIfInBounds_toArray, List.set_cons_zero, List.set_cons_succ]
    refine takeL (i := 10) (v := ?v8) rfl (by kernel_rfl) (by kernel_rfl) (by kernel_rfl) (fun _ _ _ h => h) (Or.inl ⟨by rfl, ?hy8⟩) (by assumption) ?rest8
    case hy8 => (intro wz hSz; (have hfz := HF.out wz hSz); go_split_ands; (first | (go_simp; done) | (go_simp; with_reducible rfl)))
    try simp only [Act.put, List.setIfInBounds_toArray, List.set_cons_zero, List.set_cons_succ]
    refine wpAnyH_ready (rs := [1]) (by kernel_rfl) (by simp) ?_
    refine consL rfl (fun K hK => ?_) AllReadyH.nil
    go_simp
    refine (dec_Rat _ A1 n1 c1 KN S (HX6.out.below HB0.out (Nat.le_refl _)) m HK.out HM.out (by omega) hSS).mono ?_
    rintro e w109 ⟨⟨b9, A9, n9, c9, B9, m9, d9, rfl, r⟩, hb⟩
    have HB9 := Lib.hid (below_on HB0.out (Nat.le_refl _) hb)
    have RR9 := Lib.hid r
    clear r hb
    dsimp only
    try clear hHeld
    refine hK.out _ _ (HB9.out) (fun hHeld => ?_)
    clear hK K
    try simp only [Act.put, List.setIfInBounds_toArray, List.set_cons_zero, List.set_cons_succ]
    refine wpAnyH_ready (rs := [3]) (by kernel_rfl) (by simp) ?_
    refine consL rfl (fun K hK => ?_) AllReadyH.nil
    go_simp
    refine (dec_Whole _ A1 n1 c1 KN S (HX6.out.below HB9.out (Nat.le_refl _)) m HK.out HM.out (by omega) hSS).mono ?_
    rintro e w110 ⟨⟨A10, n10, c10, rfl, r⟩, hb⟩
    have HB10 := Lib.hid (below_on HB9.out (Nat.le_refl _) hb)
    have RRx10 := Lib.hid (RR9.out.below hb (Nat.le_refl _))
    have nn10 := Lib.hid r
    clear r hb
    dsimp only
    try clear hHeld
    refine hK.out _ _ (HB10.out) (fun hHeld => ?_)
    clear hK K
    try simp only [Act.put, List.setIfInBounds_toArray, List.set_cons_zero, List.set_cons_succ]
    refine wpAnyH_ready (rs := [9]) (by kernel_rfl) (by simp) ?_
    refine consL rfl (fun K hK => ?_) AllReadyH.nil
    go_simp
    refine (oper_number _ P1 (HG6.out.below HB10.out (Nat.le_refl _)) (by omega)).mono ?_
    rintro e w111 ⟨⟨A11, n11, c11, rfl, r⟩, hb⟩
    have HB11 := Lib.hid (below_on HB10.out (Nat.le_refl _) hb)
    have RRx11 := Lib.hid (RRx10.out.below hb (Nat.le_refl _))
    have nn11 := Lib.hid (nn10.out.below hb (Nat.le_refl _))
    have ff11 := Lib.hid r
    clear r hb
    dsimp only
    try clear hHeld
    refine hK.out _ _ (HB11.out) (fun hHeld => ?_)
    clear hK K
    try simp only [Act.put, List.setIfInBounds_toArray, List.set_cons_zero, List.set_cons_succ]
    refine wpAnyH_ready (rs := [11]) (by kernel_rfl) (by simp) ?_
    refine consL rfl (fun K hK => ?_) AllReadyH.nil
    go_simp
    refine (oper_number _ P2 (HG6.out.below HB11.out (Nat.le_refl _)) (by omega)).mono ?_
    rintro e w112 ⟨⟨A12, n12, c12, rfl, r⟩, hb⟩
    have HB12 := Lib.hid (below_on HB11.out (Nat.le_refl _) hb)
    have RRx12 := Lib.hid (RRx11.out.below hb (Nat.le_refl _))
    have nn12 := Lib.hid (nn11.out.below hb (Nat.le_refl _))
    have ff12 := Lib.hid (ff11.out.below hb (Nat.le_refl _))
    have tt12 := Lib.hid r
    clear r hb
    dsimp only
    try clear hHeld
    refine hK.out _ _ (HB12.out) (fun hHeld => ?_)
    clear hK K
    try simp only [Act.put, List.setIfInBounds_toArray, List.set_cons_zero, List.set_cons_succ]
    refine takeL (i := 12) (v := ?v13) rfl (by kernel_rfl) (by kernel_rfl) (by kernel_rfl) (fun _ _ _ h => h) (Or.inl ⟨by rfl, ?hy13⟩) (by assumption) ?rest13
    case hy13 => (intro wz hSz; (have hfz := HF.out wz hSz); go_split_ands; (first | (go_simp; done) | (go_simp; with_reducible rfl)))
    try simp only [Act.put, List.setIfInBounds_toArray, List.set_cons_zero, List.set_cons_succ]
    refine wpAnyH_done (by kernel_rfl) ?_ _
    have G1 := Lib.hid (E1.out.below HB12.out E1.out.lt)
    have HBZ := Lib.hid (HB6.out.trans (HB12.out.mono HB6.out.size))
    have k0 := G1.out.cell 0
    have k1 := G1.out.cell 1
    have k2 := G1.out.cell 2
    have k3 := G1.out.cell 3
    have k4 := G1.out.cell 4
    have k5 := G1.out.cell 5
    have k6 := G1.out.cell 6
    have k7 := G1.out.cell 7
    have f0 := G1.out.frozen 0
    have f1 := G1.out.frozen 1
    have f2 := G1.out.frozen 2
    have f3 := G1.out.frozen 3
    have f4 := G1.out.frozen 4
    have f5 := G1.out.frozen 5
    have f6 := G1.out.frozen 6
    have f7 := G1.out.frozen 7
    simp only [List.getElem?_cons_zero, List.getElem?_cons_succ] at k0 k1 k2 k3 k4 k5 k6 k7
    clear hHeld
    unfold TailQ
    go_wp2_with fail
    have hm200 := HM.out
    have hh := (Hold.start G1.out (by simp [No32]))
    have hf := hh.fill8 (.bool b9) (.slice A9 n9 c9) (.slice B9 m9 d9) (.slice A10 n10 c10) (.int .i64 (S : Nat)) (.int .i64 (S2 : Nat)) (.slice A11 n11 c11) (.slice A12 n12 c12)
    have hg := ((((((((hh.set 0 (.bool b9) (by simp)).set 1 (.slice A9 n9 c9) (by simp)).set 2 (.slice B9 m9 d9) (by simp)).set 3 (.slice A10 n10 c10) (by simp)).set 4 (.int .i64 (S : Nat)) (by simp)).set 5 (.int .i64 (S2 : Nat)) (by simp)).set 6 (.slice A11 n11 c11) (by simp)).set 7 (.slice A12 n12 c12) (by simp))
    have hnn := ((((((((nn12.out.hset hh 0 (.bool b9)).hset (hh.set 0 (.bool b9) (by simp)) 1 (.slice A9 n9 c9)).hset ((hh.set 0 (.bool b9) (by simp)).set 1 (.slice A9 n9 c9) (by simp)) 2 (.slice B9 m9 d9)).hset (((hh.set 0 (.bool b9) (by simp)).set 1 (.slice A9 n9 c9) (by simp)).set 2 (.slice B9 m9 d9) (by simp)) 3 (.slice A10 n10 c10)).hset ((((hh.set 0 (.bool b9) (by simp)).set 1 (.slice A9 n9 c9) (by simp)).set 2 (.slice B9 m9 d9) (by simp)).set 3 (.slice A10 n10 c10) (by simp)) 4 (.int .i64 (S : Nat))).hset (((((hh.set 0 (.bool b9) (by simp)).set 1 (.slice A9 n9 c9) (by simp)).set 2 (.slice B9 m9 d9) (by simp)).set 3 (.slice A10 n10 c10) (by simp)).set 4 (.int .i64 (S : Nat)) (by simp)) 5 (.int .i64 (S2 : Nat))).hset ((((((hh.set 0 (.bool b9) (by simp)).set 1 (.slice A9 n9 c9) (by simp)).set 2 (.slice B9 m9 d9) (by simp)).set 3 (.slice A10 n10 c10) (by simp)).set 4 (.int .i64 (S : Nat)) (by simp)).set 5 (.int .i64 (S2 : Nat)) (by simp)) 6 (.slice A11 n11 c11)).hset (((((((hh.set 0 (.bool b9) (by simp)).set 1 (.slice A9 n9 c9) (by simp)).set 2 (.slice B9 m9 d9) (by simp)).set 3 (.slice A10 n10 c10) (by simp)).set 4 (.int .i64 (S : Nat)) (by simp)).set 5 (.int .i64 (S2 : Nat)) (by simp)).set 6 (.slice A11 n11 c11) (by simp)) 7 (.slice A12 n12 c12))
    have hff := ((((((((ff12.out.hset hh 0 (.bool b9)).hset (hh.set 0 (.bool b9) (by simp)) 1 (.slice A9 n9 c9)).hset ((hh.set 0 (.bool b9) (by simp)).set 1 (.slice A9 n9 c9) (by simp)) 2 (.slice B9 m9 d9)).hset (((hh.set 0 (.bool b9) (by simp)).set 1 (.slice A9 n9 c9) (by simp)).set 2 (.slice B9 m9 d9) (by simp)) 3 (.slice A10 n10 c10)).hset ((((hh.set 0 (.bool b9) (by simp)).set 1 (.slice A9 n9 c9) (by simp)).set 2 (.slice B9 m9 d9) (by simp)).set 3 (.slice A10 n10 c10) (by simp)) 4 (.int .i64 (S : Nat))).hset (((((hh.set 0 (.bool b9) (by simp)).set 1 (.slice A9 n9 c9) (by simp)).set 2 (.slice B9 m9 d9) (by simp)).set 3 (.slice A10 n10 c10) (by simp)).set 4 (.int .i64 (S : Nat)) (by simp)) 5 (.int .i64 (S2 : Nat))).hset ((((((hh.set 0 (.bool b9) (by simp)).set 1 (.slice A9 n9 c9) (by simp)).set 2 (.slice B9 m9 d9) (by simp)).set 3 (.slice A10 n10 c10) (by simp)).set 4 (.int .i64 (S : Nat)) (by simp)).set 5 (.int .i64 (S2 : Nat)) (by simp)) 6 (.slice A11 n11 c11)).hset (((((((hh.set 0 (.bool b9) (by simp)).set 1 (.slice A9 n9 c9) (by simp)).set 2 (.slice B9 m9 d9) (by simp)).set 3 (.slice A10 n10 c10) (by simp)).set 4 (.int .i64 (S : Nat)) (by simp)).set 5 (.int .i64 (S2 : Nat)) (by simp)).set 6 (.slice A11 n11 c11) (by simp)) 7 (.slice A12 n12 c12))
    have htt := ((((((((tt12.out.hset hh 0 (.bool b9)).hset (hh.set 0 (.bool b9) (by simp)) 1 (.slice A9 n9 c9)).hset ((hh.set 0 (.bool b9) (by simp)).set 1 (.slice A9 n9 c9) (by simp)) 2 (.slice B9 m9 d9)).hset (((hh.set 0 (.bool b9) (by simp)).set 1 (.slice A9 n9 c9) (by simp)).set 2 (.slice B9 m9 d9) (by simp)) 3 (.slice A10 n10 c10)).hset ((((hh.set 0 (.bool b9) (by simp)).set 1 (.slice A9 n9 c9) (by simp)).set 2 (.slice B9 m9 d9) (by simp)).set 3 (.slice A10 n10 c10) (by simp)) 4 (.int .i64 (S : Nat))).hset (((((hh.set 0 (.bool b9) (by simp)).set 1 (.slice A9 n9 c9) (by simp)).set 2 (.slice B9 m9 d9) (by simp)).set 3 (.slice A10 n10 c10) (by simp)).set 4 (.int .i64 (S : Nat)) (by simp)) 5 (.int .i64 (S2 : Nat))).hset ((((((hh.set 0 (.bool b9) (by simp)).set 1 (.slice A9 n9 c9) (by simp)).set 2 (.slice B9 m9 d9) (by simp)).set 3 (.slice A10 n10 c10) (by simp)).set 4 (.int .i64 (S : Nat)) (by simp)).set 5 (.int .i64 (S2 : Nat)) (by simp)) 6 (.slice A11 n11 c11)).hset (((((((hh.set 0 (.bool b9) (by simp)).set 1 (.slice A9 n9 c9) (by simp)).set 2 (.slice B9 m9 d9) (by simp)).set 3 (.slice A10 n10 c10) (by simp)).set 4 (.int .i64 (S : Nat)) (by simp)).set 5 (.int .i64 (S2 : Nat)) (by simp)).set 6 (.slice A11 n11 c11) (by simp)) 7 (.slice A12 n12 c12))
    have T : ∀ {A0 : Option Addr} {m0 c0 k0 : Nat}, SN w112 A0 m0 c0 k0 → SN ((((((((w112.setCell ⟨w.heap.size + 1, 0, none⟩ (.bool b9)).setCell ⟨w.heap.size + 1, 1, none⟩ (.slice A9 n9 c9)).setCell ⟨w.heap.size + 1, 2, none⟩ (.slice B9 m9 d9)).setCell ⟨w.heap.size + 1, 3, none⟩ (.slice A10 n10 c10)).setCell ⟨w.heap.size + 1, 4, none⟩ (.int .i64 (S : Nat))).setCell ⟨w.heap.size + 1, 5, none⟩ (.int .i64 (S2 : Nat))).setCell ⟨w.heap.size + 1, 6, none⟩ (.slice A11 n11 c11)).setCell ⟨w.heap.size + 1, 7, none⟩ (.slice A12 n12 c12)) A0 m0 c0 k0 := fun hs => ((((((((hs.hset hh 0 (.bool b9)).hset (hh.set 0 (.bool b9) (by simp)) 1 (.slice A9 n9 c9)).hset ((hh.set 0 (.bool b9) (by simp)).set 1 (.slice A9 n9 c9) (by simp)) 2 (.slice B9 m9 d9)).hset (((hh.set 0 (.bool b9) (by simp)).set 1 (.slice A9 n9 c9) (by simp)).set 2 (.slice B9 m9 d9) (by simp)) 3 (.slice A10 n10 c10)).hset ((((hh.set 0 (.bool b9) (by simp)).set 1 (.slice A9 n9 c9) (by simp)).set 2 (.slice B9 m9 d9) (by simp)).set 3 (.slice A10 n10 c10) (by simp)) 4 (.int .i64 (S : Nat))).hset (((((hh.set 0 (.bool b9) (by simp)).set 1 (.slice A9 n9 c9) (by simp)).set 2 (.slice B9 m9 d9) (by simp)).set 3 (.slice A10 n10 c10) (by simp)).set 4 (.int .i64 (S : Nat)) (by simp)) 5 (.int .i64 (S2 : Nat))).hset ((((((hh.set 0 (.bool b9) (by simp)).set 1 (.slice A9 n9 c9) (by simp)).set 2 (.slice B9 m9 d9) (by simp)).set 3 (.slice A10 n10 c10) (by simp)).set 4 (.int .i64 (S : Nat)) (by simp)).set 5 (.int .i64 (S2 : Nat)) (by simp)) 6 (.slice A11 n11 c11)).hset (((((((hh.set 0 (.bool b9) (by simp)).set 1 (.slice A9 n9 c9) (by simp)).set 2 (.slice B9 m9 d9) (by simp)).set 3 (.slice A10 n10 c10) (by simp)).set 4 (.int .i64 (S : Nat)) (by simp)).set 5 (.int .i64 (S2 : Nat)) (by simp)).set 6 (.slice A11 n11 c11) (by simp)) 7 (.slice A12 n12 c12))
    have r0 := hf.cell 0
    have r1 := hf.cell 1
    have r2 := hf.cell 2
    have r3 := hf.cell 3
    have r4 := hf.cell 4
    have r5 := hf.cell 5
    have r6 := hf.cell 6
    have r7 := hf.cell 7
    have hrr := RRx12.out.map T
    clear T
    generalize ((((((((w112.setCell ⟨w.heap.size + 1, 0, none⟩ (.bool b9)).setCell ⟨w.heap.size + 1, 1, none⟩ (.slice A9 n9 c9)).setCell ⟨w.heap.size + 1, 2, none⟩ (.slice B9 m9 d9)).setCell ⟨w.heap.size + 1, 3, none⟩ (.slice A10 n10 c10)).setCell ⟨w.heap.size + 1, 4, none⟩ (.int .i64 (S : Nat))).setCell ⟨w.heap.size + 1, 5, none⟩ (.int .i64 (S2 : Nat))).setCell ⟨w.heap.size + 1, 6, none⟩ (.slice A11 n11 c11)).setCell ⟨w.heap.size + 1, 7, none⟩ (.slice A12 n12 c12)) = wf at *
    simp only [List.getElem?_cons_zero, List.getElem?_cons_succ] at r0 r1 r2 r3 r4 r5 r6 r7
    refine bodyPost_ret (v := .agg #[.bool b9, .slice A9 n9 c9, .slice B9 m9 d9, .slice A10 n10 c10, .int .i64 (S : Nat), .int .i64 (S2 : Nat), .slice A11 n11 c11, .slice A12 n12 c12]) (by simp [results, Tryz.results15, go_sem, r0, r1, r2, r3, r4, r5, r6, r7]; try rfl) rfl ?_
    exact by unfold OfR; rw [HK2.out, HS2.out]; exact ⟨⟨b9, A9, n9, c9, B9, m9, d9, A10, n10, c10, A11, n11, c11, A12, n12, c12, rfl, ⟨hrr, hnn, by rw [← HP1.out, nval_padD (Nat.mod_lt _ (Nat.pow_pos (by omega)))] at hff; exact hff, by rw [← HP2.out, nval_padD (Nat.mod_lt _ (Nat.pow_pos (by omega)))] at htt; exact htt, Nat.lt_of_le_of_lt (Nat.div_le_self _ _) HK.out, Nat.lt_of_le_of_lt (Nat.mod_le _ _) HK.out, Nat.lt_of_le_of_lt (Nat.le_trans (Nat.mod_le _ _) HSL.out.2) HK.out, by omega, by omega⟩⟩, HBZ.out.trans (hg.below (by omega))⟩
end Go.Proofs.YtdgleeglndcjhaaGreatDoor
