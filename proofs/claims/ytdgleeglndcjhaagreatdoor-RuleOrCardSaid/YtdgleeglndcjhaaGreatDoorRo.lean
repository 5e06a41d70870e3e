/- Law: RuleOr. -/
import Derived.Test.YtdgleeglndcjhaaGreatDoorP9
namespace Go.Proofs.YtdgleeglndcjhaaGreatDoor
open Go.RowKit
set_option linter.unusedVariables false
set_option linter.unusedSimpArgs false

theorem and_of {a b : Bs} {x y : Rl} (ha : parseR a = (0, x)) (hb : parseR b = (0, y)) (h1 : a.length ≤ 100) (h2 : b.length ≤ 100) (hx : x.length ≤ 1) (hy : y.length ≤ 1) :
    ∃ v, parseR (a ++ [32, 97, 110, 100, 32] ++ b) = (0, v) ∧ ∀ val, holdsV val v = (holdsV val x && holdsV val y) := by
  obtain ⟨l, m, rfl, rfl, h⟩ := parse_and ha hb h1 h2 hx hy
  exact ⟨_, h, fun val => holds_and val (parse_back ha).1 (parse_back hb).1 (parse_back h).1⟩
theorem parse_cat (w : World) (p m q : Bs) (ms : ByteArray) (hm : ms = ⟨m.toArray⟩) {z : Rl} (h : parseR (p ++ m ++ q) = (0, z)) (hG : GW w) :
    Calls Tryz.prog 14 #[.string (⟨p.toArray⟩ ++ ms ++ ⟨q.toArray⟩)] w fun e w' => ∃ A n c, e = .returned (.tuple #[.agg #[.slice A n c], .int .i64 0]) ∧ RuleAre w' A n c z ∧ Below w.heap.size w w' := by
  subst hm
  rw [ba_app, ba_app]
  refine (rule_Parse w ⟨(p ++ m ++ q).toArray⟩ hG).mono ?_
  rintro e w' ⟨A, n, c, rfl, hr, hb⟩
  rw [show (⟨(p ++ m ++ q).toArray⟩ : ByteArray).data.toList = p ++ m ++ q from rfl, h] at *
  exact ⟨A, n, c, rfl, hr, hb⟩

set_option maxRecDepth 100000 in
set_option maxHeartbeats 32000000 in
theorem law_RuleOr (w : World) (s t : ByteArray) (b : Bool) (A : Option Addr) (n c : Nat) (l : List Nat) (sc : Int) (hG : GW w) (h : RL w (.slice A n c) l) :
    Calls Tryz.prog 3 #[.string s, .string t, .agg #[.bool b, .slice A n c, .int .i64 sc]] w fun e w' => e = .returned (.bool true) ∧ Below w.heap.size w w' := by
  have HG := Lib.hid hG
  have HX := Lib.hid h
  obtain rfl : n = l.length := by obtain ⟨A', c', h1, -⟩ := h.form; exact (Value.slice.inj h1).2.1
  obtain ⟨p, rfl⟩ : ∃ p : Bs, s = ⟨p.toArray⟩ := ⟨s.data.toList, by cases s; simp⟩
  obtain ⟨q, rfl⟩ : ∃ q : Bs, t = ⟨q.toArray⟩ := ⟨t.data.toList, by cases t; simp⟩
  clear hG h
  go_enter Tryz.func3, Tryz.ntmps3
  go_upto_region 1 with fail
  refine wp_letter (fun w1 => Blk w1 w.heap.size 26 [.bool b, .slice A l.length c, .int .i64 sc] ∧ Below w.heap.size w w1) ⟨Blk.made _ 26 _ _ _ rfl rfl, (Below.refl _ _).alloc (Nat.le_refl _) _⟩ ?_
  rintro w1 ⟨x0, x1⟩
  have B0 := Lib.hid x0
  have HB := Lib.hid x1
  have HGW := Lib.hid (HG.out.below HB.out (Nat.le_refl _))
  clear x0 x1
  go_wp2_with fail
  refine (law_awake w1 HGW.out).mono ?_
  rintro e wq ⟨rfl, hb⟩
  have hbb := hb
  have yB0 := B0.out.below hbb B0.out.lt
  have YB0 := Lib.hid yB0
  have yHB := HB.out.trans (hbb.mono HB.out.size)
  have YHB := Lib.hid yHB
  clear hbb yB0 yHB hb  B0 HB HGW
  dsimp only
  go_upto_region 3 with fail
  refine wp_letter (fun w2 => Blk w2 w.heap.size 26 [.bool b, .slice A l.length c, .int .i64 sc] ∧ Below w.heap.size w w2) ⟨YB0.out, YHB.out⟩ ?_
  clear YB0 YHB
  rintro w2 ⟨x0, x1⟩
  have B0 := Lib.hid x0
  have HB := Lib.hid x1
  have HGW := Lib.hid (HG.out.below HB.out (Nat.le_refl _))
  clear x0 x1
  go_wp2_with fail
  refine (rule_Parse w2 ⟨(p).toArray⟩ HGW.out).mono ?_
  rw [show (⟨(p).toArray⟩ : ByteArray).data.toList = p from rfl]
  rintro e wq ⟨XA, xn, xc, rfl, hr, hb⟩
  obtain ⟨g7, hg7⟩ : ∃ g7, wq.heap.size = g7 := ⟨_, rfl⟩
  have hba : Below wq.heap.size wq (wq.alloc (.cells #[.slice XA xn xc] 30)) := (Below.refl _ _).alloc (Nat.le_refl _) _
  have hbb := hb.trans (hba.mono hb.size)
  have yB0 := B0.out.below hbb B0.out.lt
  have YB0 := Lib.hid yB0
  have yHB := HB.out.trans (hbb.mono HB.out.size)
  have YHB := Lib.hid yHB
  have yRX := RuleIs.below hr.is hba (Nat.le_refl _)
  have YRX := Lib.hid yRX
  have ynb : Blk (wq.alloc (.cells #[.slice XA xn xc] 30)) g7 30 [.slice XA xn xc] := by rw [← hg7]; exact Blk.made _ 30 _ _ _ rfl rfl
  have Ynb := Lib.hid ynb
  clear hbb hba ynb yB0 yHB yRX hb hr B0 HB HGW
  dsimp only
  go_upto_region 4 with fail
  try rw [hg7]
  refine wp_letter (fun w3 => Blk w3 w.heap.size 26 [.bool b, .slice A l.length c, .int .i64 sc] ∧ Below w.heap.size w w3 ∧ RuleIs w3 XA xn xc (parseR (p)).2 ∧ Blk w3 g7 30 [.slice XA xn xc]) ⟨YB0.out, YHB.out, YRX.out, Ynb.out⟩ ?_
  clear YB0 YHB YRX Ynb hg7
  rintro w3 ⟨x0, x1, x2, x3⟩
  have B0 := Lib.hid x0
  have HB := Lib.hid x1
  have RX := Lib.hid x2
  have Bg7 := Lib.hid x3
  have HGW := Lib.hid (HG.out.below HB.out (Nat.le_refl _))
  clear x0 x1 x2 x3
  go_wp2_with fail
  refine (rule_Parse w3 ⟨(q).toArray⟩ HGW.out).mono ?_
  rw [show (⟨(q).toArray⟩ : ByteArray).data.toList = q from rfl]
  rintro e wq ⟨YA, yn, yc, rfl, hr, hb⟩
  obtain ⟨g9, hg9⟩ : ∃ g9, wq.heap.size = g9 := ⟨_, rfl⟩
  have hba : Below wq.heap.size wq (wq.alloc (.cells #[.slice YA yn yc] 30)) := (Below.refl _ _).alloc (Nat.le_refl _) _
  have hbb := hb.trans (hba.mono hb.size)
  have yB0 := B0.out.below hbb B0.out.lt
  have YB0 := Lib.hid yB0
  have yHB := HB.out.trans (hbb.mono HB.out.size)
  have YHB := Lib.hid yHB
  have yRX := RX.out.below hbb (Nat.le_refl _)
  have YRX := Lib.hid yRX
  have yBg7 := Bg7.out.below hbb Bg7.out.lt
  have YBg7 := Lib.hid yBg7
  have yRY := RuleIs.below hr.is hba (Nat.le_refl _)
  have YRY := Lib.hid yRY
  have ynb : Blk (wq.alloc (.cells #[.slice YA yn yc] 30)) g9 30 [.slice YA yn yc] := by rw [← hg9]; exact Blk.made _ 30 _ _ _ rfl rfl
  have Ynb := Lib.hid ynb
  clear hbb hba ynb yB0 yHB yRX yBg7 yRY hb hr B0 HB RX Bg7 HGW
  dsimp only
  go_upto_region 5 with fail
  try rw [hg9]
  refine wp_letter (fun w4 => Blk w4 w.heap.size 26 [.bool b, .slice A l.length c, .int .i64 sc] ∧ Below w.heap.size w w4 ∧ RuleIs w4 XA xn xc (parseR (p)).2 ∧ Blk w4 g7 30 [.slice XA xn xc] ∧ RuleIs w4 YA yn yc (parseR (q)).2 ∧ Blk w4 g9 30 [.slice YA yn yc]) ⟨YB0.out, YHB.out, YRX.out, YBg7.out, YRY.out, Ynb.out⟩ ?_
  clear YB0 YHB YRX YBg7 YRY Ynb hg9
  rintro w4 ⟨x0, x1, x2, x3, x4, x5⟩
  have B0 := Lib.hid x0
  have HB := Lib.hid x1
  have RX := Lib.hid x2
  have Bg7 := Lib.hid x3
  have RY := Lib.hid x4
  have Bg9 := Lib.hid x5
  have HGW := Lib.hid (HG.out.below HB.out (Nat.le_refl _))
  clear x0 x1 x2 x3 x4 x5
  have k1 := B0.out.cell 1
  simp only [List.getElem?_cons_zero, List.getElem?_cons_succ] at k1
  by_cases hp100 : 100 < p.length
  · have hI : (100 : Int) < (p.length : Int) := by omega
    go_wp2_with fail
    go_ret
    exact ⟨rfl, HB.out⟩
  have hI : ¬ (100 : Int) < (p.length : Int) := by omega
  by_cases hq100 : 100 < q.length
  · have hI2 : (100 : Int) < (q.length : Int) := by omega
    go_wp2_with fail
    go_ret
    exact ⟨rfl, HB.out⟩
  have hI2 : ¬ (100 : Int) < (q.length : Int) := by omega
  by_cases h10 : 10 < l.length
  · have hI3 : (10 : Int) < (l.length : Int) := by omega
    go_wp2_with fail
    go_ret
    exact ⟨rfl, HB.out⟩
  have hI3 : ¬ (10 : Int) < (l.length : Int) := by omega
  rcases parseR_cases p with ⟨x, h1, h2⟩ | ⟨e, h1, h2⟩
  case inr =>
    rw [h1]
    clear h1
    dsimp only
    rcases h2 with rfl | rfl
    · skip
      go_wp2_with fail
      go_ret
      exact ⟨rfl, HB.out⟩
    · skip
      go_wp2_with fail
      go_ret
      exact ⟨rfl, HB.out⟩
  rcases parseR_cases q with ⟨y, h3, h4⟩ | ⟨e, h3, h4⟩
  case inr =>
    rw [h1, h3]
    clear h1 h3
    dsimp only
    rcases h4 with rfl | rfl
    · skip
      go_wp2_with fail
      go_ret
      exact ⟨rfl, HB.out⟩
    · skip
      go_wp2_with fail
      go_ret
      exact ⟨rfl, HB.out⟩
  rw [h1] at RX ⊢
  rw [h3] at RY ⊢
  have H1 := Lib.hid h1
  have H3 := Lib.hid h3
  have SX := Lib.hid h2
  have SY := Lib.hid h4
  obtain rfl : xn = x.length := RX.out.len
  obtain rfl : yn = y.length := RY.out.len
  obtain ⟨z, hz⟩ : ∃ z, x ++ y = z := ⟨_, rfl⟩
  have hor := parse_or h1 h3 (by omega) (by omega)
  rw [hz] at hor
  have HOR := Lib.hid hor
  have HXY := Lib.hid hz
  clear hor hz
  have hxl := h2.len
  have hyl := h4.len
  clear h1 h2 h3 h4
  obtain ⟨m, hm⟩ : ∃ m, m = 32 * 10 := ⟨_, rfl⟩
  have HK : Hid (decK b l sc < 2 ^ m) := by rw [hm]; exact decK_lt HX.out.2 (by omega)
  have k0 := B0.out.cell 0
  have k2 := B0.out.cell 2
  simp only [List.getElem?_cons_zero, List.getElem?_cons_succ] at k0 k2
  dsimp only
  go_wp2_with fail
  refine (oper_Of w4 b A l.length c l sc m HGW.out (HX.out.below HB.out (Nat.le_refl _)) (by omega) HK.out (by omega) (by omega)).mono ?_
  generalize decK b l sc = k at *
  generalize decS b l sc = S at *
  rintro e wq ⟨⟨ob, oA, on, oc, oB, om, od, iA, il, ic, fA, fl, fc', tA, tl, tc', rfl, r⟩, hb⟩
  obtain ⟨g11, hg11⟩ : ∃ g11, wq.heap.size = g11 := ⟨_, rfl⟩
  have hba : Below wq.heap.size wq (wq.alloc (.cells #[.bool ob, .slice oA on oc, .slice oB om od, .slice iA il ic, .int .i64 (S : Nat), .int .i64 ((short k S).2 : Nat), .slice fA fl fc', .slice tA tl tc'] 39)) := (Below.refl _ _).alloc (Nat.le_refl _) _
  have hbb := hb.trans (hba.mono hb.size)
  have yB0 := B0.out.below hbb B0.out.lt
  have YB0 := Lib.hid yB0
  have yHB := HB.out.trans (hbb.mono HB.out.size)
  have YHB := Lib.hid yHB
  have yRX := RX.out.below hbb (Nat.le_refl _)
  have YRX := Lib.hid yRX
  have yBg7 := Bg7.out.below hbb Bg7.out.lt
  have YBg7 := Lib.hid yBg7
  have yRY := RY.out.below hbb (Nat.le_refl _)
  have YRY := Lib.hid yRY
  have yBg9 := Bg9.out.below hbb Bg9.out.lt
  have YBg9 := Lib.hid yBg9
  have yOP := r.below hba (Nat.le_refl _)
  have YOP := Lib.hid yOP
  have ynb : Blk (wq.alloc (.cells #[.bool ob, .slice oA on oc, .slice oB om od, .slice iA il ic, .int .i64 (S : Nat), .int .i64 ((short k S).2 : Nat), .slice fA fl fc', .slice tA tl tc'] 39)) g11 39 [.bool ob, .slice oA on oc, .slice oB om od, .slice iA il ic, .int .i64 (S : Nat), .int .i64 ((short k S).2 : Nat), .slice fA fl fc', .slice tA tl tc'] := by rw [← hg11]; exact Blk.made _ 39 _ _ _ rfl rfl
  have Ynb := Lib.hid ynb
  clear hbb hba ynb yB0 yHB yRX yBg7 yRY yBg9 yOP hb k0 k1 k2 r B0 HB RX Bg7 RY Bg9 HGW
  dsimp only
  go_upto_region 8 with fail
  try rw [hg11]
  refine wp_letter (fun w5 => Blk w5 w.heap.size 26 [.bool b, .slice A l.length c, .int .i64 sc] ∧ Below w.heap.size w w5 ∧ RuleIs w5 XA x.length xc x ∧ Blk w5 g7 30 [.slice XA x.length xc] ∧ RuleIs w5 YA y.length yc y ∧ Blk w5 g9 30 [.slice YA y.length yc] ∧ OpR w5 ob oA on oc oB om od iA il ic fA fl fc' tA tl tc' k (10 ^ S) m (k / 10 ^ S) S (short k S).2 (k % 10 ^ S) ((short k S).1 % 10 ^ (short k S).2) ∧ Blk w5 g11 39 [.bool ob, .slice oA on oc, .slice oB om od, .slice iA il ic, .int .i64 (S : Nat), .int .i64 ((short k S).2 : Nat), .slice fA fl fc', .slice tA tl tc']) ⟨YB0.out, YHB.out, YRX.out, YBg7.out, YRY.out, YBg9.out, YOP.out, Ynb.out⟩ ?_
  clear YB0 YHB YRX YBg7 YRY YBg9 YOP Ynb hg11
  rintro w5 ⟨x0, x1, x2, x3, x4, x5, x6, x7⟩
  have B0 := Lib.hid x0
  have HB := Lib.hid x1
  have RX := Lib.hid x2
  have Bg7 := Lib.hid x3
  have RY := Lib.hid x4
  have Bg9 := Lib.hid x5
  have OP := Lib.hid x6
  have Bg11 := Lib.hid x7
  have HGW := Lib.hid (HG.out.below HB.out (Nat.le_refl _))
  clear x0 x1 x2 x3 x4 x5 x6 x7
  go_wp2_with fail
  refine (parse_cat w5 p [32, 111, 114, 32] q _ rfl HOR.out HGW.out).mono ?_
  rintro e wq ⟨ZA, zn, zc, rfl, hr, hb⟩
  obtain ⟨g12, hg12⟩ : ∃ g12, wq.heap.size = g12 := ⟨_, rfl⟩
  have hba : Below wq.heap.size wq (wq.alloc (.cells #[.slice ZA zn zc] 30)) := (Below.refl _ _).alloc (Nat.le_refl _) _
  have hbb := hb.trans (hba.mono hb.size)
  have yB0 := B0.out.below hbb B0.out.lt
  have YB0 := Lib.hid yB0
  have yHB := HB.out.trans (hbb.mono HB.out.size)
  have YHB := Lib.hid yHB
  have yRX := RX.out.below hbb (Nat.le_refl _)
  have YRX := Lib.hid yRX
  have yBg7 := Bg7.out.below hbb Bg7.out.lt
  have YBg7 := Lib.hid yBg7
  have yRY := RY.out.below hbb (Nat.le_refl _)
  have YRY := Lib.hid yRY
  have yBg9 := Bg9.out.below hbb Bg9.out.lt
  have YBg9 := Lib.hid yBg9
  have yOP := OP.out.below hbb (Nat.le_refl _)
  have YOP := Lib.hid yOP
  have yBg11 := Bg11.out.below hbb Bg11.out.lt
  have YBg11 := Lib.hid yBg11
  have yRZ := RuleIs.below hr.is hba (Nat.le_refl _)
  have YRZ := Lib.hid yRZ
  have ynb : Blk (wq.alloc (.cells #[.slice ZA zn zc] 30)) g12 30 [.slice ZA zn zc] := by rw [← hg12]; exact Blk.made _ 30 _ _ _ rfl rfl
  have Ynb := Lib.hid ynb
  clear hbb hba ynb yB0 yHB yRX yBg7 yRY yBg9 yOP yBg11 yRZ hb hr B0 HB RX Bg7 RY Bg9 OP Bg11 HGW
  dsimp only
  go_upto_region 9 with fail
  try rw [hg12]
  refine wp_letter (fun w6 => Blk w6 w.heap.size 26 [.bool b, .slice A l.length c, .int .i64 sc] ∧ Below w.heap.size w w6 ∧ RuleIs w6 XA x.length xc x ∧ Blk w6 g7 30 [.slice XA x.length xc] ∧ RuleIs w6 YA y.length yc y ∧ Blk w6 g9 30 [.slice YA y.length yc] ∧ OpR w6 ob oA on oc oB om od iA il ic fA fl fc' tA tl tc' k (10 ^ S) m (k / 10 ^ S) S (short k S).2 (k % 10 ^ S) ((short k S).1 % 10 ^ (short k S).2) ∧ Blk w6 g11 39 [.bool ob, .slice oA on oc, .slice oB om od, .slice iA il ic, .int .i64 (S : Nat), .int .i64 ((short k S).2 : Nat), .slice fA fl fc', .slice tA tl tc'] ∧ RuleIs w6 ZA zn zc z ∧ Blk w6 g12 30 [.slice ZA zn zc]) ⟨YB0.out, YHB.out, YRX.out, YBg7.out, YRY.out, YBg9.out, YOP.out, YBg11.out, YRZ.out, Ynb.out⟩ ?_
  clear YB0 YHB YRX YBg7 YRY YBg9 YOP YBg11 YRZ Ynb hg12
  rintro w6 ⟨x0, x1, x2, x3, x4, x5, x6, x7, x8, x9⟩
  have B0 := Lib.hid x0
  have HB := Lib.hid x1
  have RX := Lib.hid x2
  have Bg7 := Lib.hid x3
  have RY := Lib.hid x4
  have Bg9 := Lib.hid x5
  have OP := Lib.hid x6
  have Bg11 := Lib.hid x7
  have RZ := Lib.hid x8
  have Bg12 := Lib.hid x9
  have HGW := Lib.hid (HG.out.below HB.out (Nat.le_refl _))
  clear x0 x1 x2 x3 x4 x5 x6 x7 x8 x9
  obtain rfl : zn = z.length := RZ.out.len
  have GX := Lib.hid (parse_back H1.out).1
  have GY := Lib.hid (parse_back H3.out).1
  have GZ := Lib.hid (parse_back HOR.out).1
  have SZ := Lib.hid (smallR_good GZ.out)
  have hzz : holdsV (ofVal k S) z = (holdsV (ofVal k S) x || holdsV (ofVal k S) y) := by
    have h := GZ.out
    rw [← HXY.out] at h ⊢
    exact holds_or (ofVal k S) GX.out GY.out h
  have HZ := Lib.hid hzz
  clear hzz
  obtain ⟨hx, hhx⟩ : ∃ hx, holdsV (ofVal k S) x = hx := ⟨_, rfl⟩
  obtain ⟨hy, hhy⟩ : ∃ hy, holdsV (ofVal k S) y = hy := ⟨_, rfl⟩
  rw [hhx, hhy] at HZ
  have HHX := Lib.hid hhx
  have HHY := Lib.hid hhy
  clear hhx hhy
  have HF : Hid (∀ w', Below w6.heap.size w6 w' → w'.cell? ⟨g12, 0, none⟩ = some (.slice ZA z.length zc) ∧ w'.cell? ⟨g11, 0, none⟩ = some (.bool ob) ∧ w'.cell? ⟨g11, 1, none⟩ = some (.slice oA on oc) ∧ w'.cell? ⟨g11, 2, none⟩ = some (.slice oB om od) ∧ w'.cell? ⟨g11, 3, none⟩ = some (.slice iA il ic) ∧ w'.cell? ⟨g11, 4, none⟩ = some (.int .i64 (S : Nat)) ∧ w'.cell? ⟨g11, 5, none⟩ = some (.int .i64 ((short k S).2 : Nat)) ∧ w'.cell? ⟨g11, 6, none⟩ = some (.slice fA fl fc') ∧ w'.cell? ⟨g11, 7, none⟩ = some (.slice tA tl tc') ∧ w'.cell? ⟨g7, 0, none⟩ = some (.slice XA x.length xc) ∧ w'.cell? ⟨g9, 0, none⟩ = some (.slice YA y.length yc)) := fun w' h => by
    have dBg12 := Bg12.out.below h Bg12.out.lt
    have dBg11 := Bg11.out.below h Bg11.out.lt
    have dBg7 := Bg7.out.below h Bg7.out.lt
    have dBg9 := Bg9.out.below h Bg9.out.lt
    exact ⟨dBg12.cell 0, dBg11.cell 0, dBg11.cell 1, dBg11.cell 2, dBg11.cell 3, dBg11.cell 4, dBg11.cell 5, dBg11.cell 6, dBg11.cell 7, dBg7.cell 0, dBg9.cell 0⟩
  go_cut [76] (fun s76 wx => s76 = .bool false ∧ Below w6.heap.size w6 wx)
  case first =>
    cases hx <;> cases hy
    · skip
      refine wp_region_but (fun w' => Below w6.heap.size w6 w') (by kernel_rfl) (by kernel_rfl) (Below.refl _ _).drew (fun hHeld => ?_)
      simp only [initL, lastL]
      have HB0 := Lib.hid hHeld
      refine takeL (i := 0) (v := ?v1) rfl (by kernel_rfl) (by kernel_rfl) (by kernel_rfl) (fun _ _ _ h => h) (Or.inl ⟨by rfl, ?hy1⟩) (by assumption) ?rest1
      case hy1 => (intro wz hSz; (have hfz := HF.out wz hSz); go_split_ands; (first | (go_simp; done) | (go_simp; with_reducible rfl)))
      try simp only [Act.put, List.setIfInBounds_toArray, List.set_cons_zero, List.set_cons_succ]
      refine takeL (i := 1) (v := ?v2) rfl (by kernel_rfl) (by kernel_rfl) (by kernel_rfl) (fun _ _ _ h => h) (Or.inl ⟨by rfl, ?hy2⟩) (by assumption) ?rest2
      case hy2 => (intro wz hSz; (have hfz := HF.out wz hSz); go_split_ands; (first | (go_simp; done) | (go_simp; with_reducible rfl)))
      try simp only [Act.put, List.setIfInBounds_toArray, List.set_cons_zero, List.set_cons_succ]
      refine takeL (i := 2) (v := ?v3) rfl (by kernel_rfl) (by kernel_rfl) (by kernel_rfl) (fun _ _ _ h => h) (Or.inl ⟨by rfl, ?hy3⟩) (by assumption) ?rest3
      case hy3 => (intro wz hSz; (have hfz := HF.out wz hSz); go_split_ands; (first | (go_simp; done) | (go_simp; with_reducible rfl)))
      try simp only [Act.put, List.setIfInBounds_toArray, List.set_cons_zero, List.set_cons_succ]
      refine takeL (i := 3) (v := ?v4) rfl (by kernel_rfl) (by kernel_rfl) (by kernel_rfl) (fun _ _ _ h => h) (Or.inl ⟨by rfl, ?hy4⟩) (by assumption) ?rest4
      case hy4 => (intro wz hSz; (have hfz := HF.out wz hSz); go_split_ands; (first | (go_simp; done) | (go_simp; with_reducible rfl)))
      try simp only [Act.put, List.setIfInBounds_toArray, List.set_cons_zero, List.set_cons_succ]
      refine takeL (i := 4) (v := ?v5) rfl (by kernel_rfl) (by kernel_rfl) (by kernel_rfl) (fun _ _ _ h => h) (Or.inl ⟨by rfl, ?hy5⟩) (by assumption) ?rest5
      case hy5 => (intro wz hSz; (have hfz := HF.out wz hSz); go_split_ands; (first | (go_simp; done) | (go_simp; with_reducible rfl)))
      try simp only [Act.put, List.setIfInBounds_toArray, List.set_cons_zero, List.set_cons_succ]
      refine takeL (i := 6) (v := ?v6) rfl (by kernel_rfl) (by kernel_rfl) (by kernel_rfl) (fun _ _ _ h => h) (Or.inl ⟨by rfl, ?hy6⟩) (by assumption) ?rest6
      case hy6 => (intro wz hSz; (have hfz := HF.out wz hSz); go_split_ands; (first | (go_simp; done) | (go_simp; with_reducible rfl)))
      try simp only [Act.put, List.setIfInBounds_toArray, List.set_cons_zero, List.set_cons_succ]
      refine takeL (i := 7) (v := ?v7) rfl (by kernel_rfl) (by kernel_rfl) (by kernel_rfl) (fun _ _ _ h => h) (Or.inl ⟨by rfl, ?hy7⟩) (by assumption) ?rest7
      case hy7 => (intro wz hSz; (have hfz := HF.out wz hSz); go_split_ands; (first | (go_simp; done) | (go_simp; with_reducible rfl)))
      try simp only [Act.put, List.setIfInBounds_toArray, List.set_cons_zero, List.set_cons_succ]
      refine wpAnyH_ready (rs := [5]) (by kernel_rfl) (by simp) ?_
      refine consL rfl (fun K hK => ?_) AllReadyH.nil
      go_simp
      refine (rule_Holds _ ZA z.length zc z (HGW.out.below HB0.out (Nat.le_refl _)) (RZ.out.below HB0.out (Nat.le_refl _)) SZ.out _ _ _ _ _ _ _ _ _ _ _ _ _ _ _ _ _ _ _ _ _ _ _ _ (OP.out.below HB0.out (Nat.le_refl _)) (by omega) (by omega)).mono ?_
      rintro e w108 ⟨he, hb⟩
      rw [show holdsV (opVal k (10 ^ S) (k / 10 ^ S) S (short k S).2 (k % 10 ^ S) ((short k S).1 % 10 ^ (short k S).2)) z = (false || false) from HZ.out] at he
      subst he
      have HB8 := Lib.hid (below_on HB0.out (Nat.le_refl _) hb)
      clear hb
      dsimp only
      try clear hHeld
      refine hK.out _ _ (HB8.out) (fun hHeld => ?_)
      clear hK K
      try simp only [Act.put, List.setIfInBounds_toArray, List.set_cons_zero, List.set_cons_succ]
      refine wpAnyH_ready (rs := [8]) (by kernel_rfl) (by simp) ?_
      refine consL rfl (fun K hK => ?_) AllReadyH.nil
      go_simp
      refine (rule_Holds _ XA x.length xc x (HGW.out.below HB8.out (Nat.le_refl _)) (RX.out.below HB8.out (Nat.le_refl _)) SX.out _ _ _ _ _ _ _ _ _ _ _ _ _ _ _ _ _ _ _ _ _ _ _ _ (OP.out.below HB8.out (Nat.le_refl _)) (by omega) (by omega)).mono ?_
      rintro e w109 ⟨he, hb⟩
      rw [show holdsV (opVal k (10 ^ S) (k / 10 ^ S) S (short k S).2 (k % 10 ^ S) ((short k S).1 % 10 ^ (short k S).2)) x = false from HHX.out] at he
      subst he
      have HB9 := Lib.hid (below_on HB8.out (Nat.le_refl _) hb)
      clear hb
      dsimp only
      try clear hHeld
      refine hK.out _ _ (HB9.out) (fun hHeld => ?_)
      clear hK K
      try simp only [Act.put, List.setIfInBounds_toArray, List.set_cons_zero, List.set_cons_succ]
      refine takeL (i := 9) (v := ?v10) rfl (by kernel_rfl) (by kernel_rfl) (by kernel_rfl) (fun _ _ _ h => h) (Or.inl ⟨by rfl, ?hy10⟩) (by assumption) ?rest10
      case hy10 => (intro wz hSz; (have hfz := HF.out wz hSz); go_split_ands; (first | (go_simp; done) | (go_simp; with_reducible rfl)))
      try simp only [Act.put, List.setIfInBounds_toArray, List.set_cons_zero, List.set_cons_succ]
      refine takeL (i := 10) (v := ?v11) rfl (by kernel_rfl) (by kernel_rfl) (by kernel_rfl) (fun _ _ _ h => h) (Or.inl ⟨by rfl, ?hy11⟩) (by assumption) ?rest11
      case hy11 => (intro wz hSz; (have hfz := HF.out wz hSz); go_split_ands; (first | (go_simp; done) | (go_simp; with_reducible rfl)))
      try simp only [Act.put, List.setIfInBounds_toArray, List.set_cons_zero, List.set_cons_succ]
      refine takeL (i := 11) (v := ?v12) rfl (by kernel_rfl) (by kernel_rfl) (by kernel_rfl) (fun _ _ _ h => h) (Or.inl ⟨by rfl, ?hy12⟩) (by assumption) ?rest12
      case hy12 => (intro wz hSz; (have hfz := HF.out wz hSz); go_split_ands; (first | (go_simp; done) | (go_simp; with_reducible rfl)))
      try simp only [Act.put, List.setIfInBounds_toArray, List.set_cons_zero, List.set_cons_succ]
      refine wpAnyH_ready (rs := [12]) (by kernel_rfl) (by simp) ?_
      refine consL rfl (fun K hK => ?_) AllReadyH.nil
      go_simp
      refine (rule_Holds _ YA y.length yc y (HGW.out.below HB9.out (Nat.le_refl _)) (RY.out.below HB9.out (Nat.le_refl _)) SY.out _ _ _ _ _ _ _ _ _ _ _ _ _ _ _ _ _ _ _ _ _ _ _ _ (OP.out.below HB9.out (Nat.le_refl _)) (by omega) (by omega)).mono ?_
      rintro e w113 ⟨he, hb⟩
      rw [show holdsV (opVal k (10 ^ S) (k / 10 ^ S) S (short k S).2 (k % 10 ^ S) ((short k S).1 % 10 ^ (short k S).2)) y = false from HHY.out] at he
      subst he
      have HB13 := Lib.hid (below_on HB9.out (Nat.le_refl _) hb)
      clear hb
      dsimp only
      try clear hHeld
      refine hK.out _ _ (HB13.out) (fun hHeld => ?_)
      clear hK K
      try simp only [Act.put, List.setIfInBounds_toArray, List.set_cons_zero, List.set_cons_succ]
      refine takeL (i := 13) (v := ?v14) rfl (by kernel_rfl) (by kernel_rfl) (by kernel_rfl) (fun _ _ _ h => h) (Or.inl ⟨by rfl, ?hy14⟩) (by assumption) ?rest14
      case hy14 => (intro wz hSz; (have hfz := HF.out wz hSz); go_split_ands; (first | (go_simp; done) | (go_simp; with_reducible rfl)))
      try simp only [Act.put, List.setIfInBounds_toArray, List.set_cons_zero, List.set_cons_succ]
      refine takeL (i := 14) (v := ?v15) rfl (by kernel_rfl) (by kernel_rfl) (by kernel_rfl) (fun _ _ _ h => h) (Or.inl ⟨by rfl, ?hy15⟩) (by assumption) ?rest15
      case hy15 => (intro wz hSz; (have hfz := HF.out wz hSz); go_split_ands; (first | (go_simp; done) | (go_simp; with_reducible rfl)))
      try simp only [Act.put, List.setIfInBounds_toArray, List.set_cons_zero, List.set_cons_succ]
      refine wpAnyH_done (by kernel_rfl) ?_ _
      clear hHeld
      unfold TailQ
      go_wp2_with fail
      go_meet
      exact ⟨rfl, HB13.out⟩
    · skip
      refine wp_region_but (fun w' => Below w6.heap.size w6 w') (by kernel_rfl) (by kernel_rfl) (Below.refl _ _).drew (fun hHeld => ?_)
      simp only [initL, lastL]
      have HB0 := Lib.hid hHeld
      refine takeL (i := 0) (v := ?v16) rfl (by kernel_rfl) (by kernel_rfl) (by kernel_rfl) (fun _ _ _ h => h) (Or.inl ⟨by rfl, ?hy16⟩) (by assumption) ?rest16
      case hy16 => (intro wz hSz; (have hfz := HF.out wz hSz); go_split_ands; (first | (go_simp; done) | (go_simp; with_reducible rfl)))
      try simp only [Act.put, List.setIfInBounds_toArray, List.set_cons_zero, List.set_cons_succ]
      refine takeL (i := 1) (v := ?v17) rfl (by kernel_rfl) (by kernel_rfl) (by kernel_rfl) (fun _ _ _ h => h) (Or.inl ⟨by rfl, ?hy17⟩) (by assumption) ?rest17
      case hy17 => (intro wz hSz; (have hfz := HF.out wz hSz); go_split_ands; (first | (go_simp; done) | (go_simp; with_reducible rfl)))
      try simp only [Act.put, List.setIfInBounds_toArray, List.set_cons_zero, List.set_cons_succ]
      refine takeL (i := 2) (v := ?v18) rfl (by kernel_rfl) (by kernel_rfl) (by kernel_rfl) (fun _ _ _ h => h) (Or.inl ⟨by rfl, ?hy18⟩) (by assumption) ?rest18
      case hy18 => (intro wz hSz; (have hfz := HF.out wz hSz); go_split_ands; (first | (go_simp; done) | (go_simp; with_reducible rfl)))
      try simp only [Act.put, List.setIfInBounds_toArray, List.set_cons_zero, List.set_cons_succ]
      refine takeL (i := 3) (v := ?v19) rfl (by kernel_rfl) (by kernel_rfl) (by kernel_rfl) (fun _ _ _ h => h) (Or.inl ⟨by rfl, ?hy19⟩) (by assumption) ?rest19
      case hy19 => (intro wz hSz; (have hfz := HF.out wz hSz); go_split_ands; (first | (go_simp; done) | (go_simp; with_reducible rfl)))
      try simp only [Act.put, List.setIfInBounds_toArray, List.set_cons_zero, List.set_cons_succ]
      refine takeL (i := 4) (v := ?v20) rfl (by kernel_rfl) (by kernel_rfl) (by kernel_rfl) (fun _ _ _ h => h) (Or.inl ⟨by rfl, ?hy20⟩) (by assumption) ?rest20
      case hy20 => (intro wz hSz; (have hfz := HF.out wz hSz); go_split_ands; (first | (go_simp; done) | (go_simp; with_reducible rfl)))
      try simp only [Act.put, List.setIfInBounds_toArray, List.set_cons_zero, List.set_cons_succ]
      refine takeL (i := 6) (v := ?v21) rfl (by kernel_rfl) (by kernel_rfl) (by kernel_rfl) (fun _ _ _ h => h) (Or.inl ⟨by rfl, ?hy21⟩) (by assumption) ?rest21
      case hy21 => (intro wz hSz; (have hfz := HF.out wz hSz); go_split_ands; (first | (go_simp; done) | (go_simp; with_reducible rfl)))
      try simp only [Act.put, List.setIfInBounds_toArray, List.set_cons_zero, List.set_cons_succ]
      refine takeL (i := 7) (v := ?v22) rfl (by kernel_rfl) (by kernel_rfl) (by kernel_rfl) (fun _ _ _ h => h) (Or.inl ⟨by rfl, ?hy22⟩) (by assumption) ?rest22
      case hy22 => (intro wz hSz; (have hfz := HF.out wz hSz); go_split_ands; (first | (go_simp; done) | (go_simp; with_reducible rfl)))
      try simp only [Act.put, List.setIfInBounds_toArray, List.set_cons_zero, List.set_cons_succ]
      refine wpAnyH_ready (rs := [5]) (by kernel_rfl) (by simp) ?_
      refine consL rfl (fun K hK => ?_) AllReadyH.nil
      go_simp
      refine (rule_Holds _ ZA z.length zc z (HGW.out.below HB0.out (Nat.le_refl _)) (RZ.out.below HB0.out (Nat.le_refl _)) SZ.out _ _ _ _ _ _ _ _ _ _ _ _ _ _ _ _ _ _ _ _ _ _ _ _ (OP.out.below HB0.out (Nat.le_refl _)) (by omega) (by omega)).mono ?_
      rintro e w123 ⟨he, hb⟩
      rw [show holdsV (opVal k (10 ^ S) (k / 10 ^ S) S (short k S).2 (k % 10 ^ S) ((short k S).1 % 10 ^ (short k S).2)) z = (false || true) from HZ.out] at he
      subst he
      have HB23 := Lib.hid (below_on HB0.out (Nat.le_refl _) hb)
      clear hb
      dsimp only
      try clear hHeld
      refine hK.out _ _ (HB23.out) (fun hHeld => ?_)
      clear hK K
      try simp only [Act.put, List.setIfInBounds_toArray, List.set_cons_zero, List.set_cons_succ]
      refine wpAnyH_ready (rs := [8]) (by kernel_rfl) (by simp) ?_
      refine consL rfl (fun K hK => ?_) AllReadyH.nil
      go_simp
      refine (rule_Holds _ XA x.length xc x (HGW.out.below HB23.out (Nat.le_refl _)) (RX.out.below HB23.out (Nat.le_refl _)) SX.out _ _ _ _ _ _ _ _ _ _ _ _ _ _ _ _ _ _ _ _ _ _ _ _ (OP.out.below HB23.out (Nat.le_refl _)) (by omega) (by omega)).mono ?_
      rintro e w124 ⟨he, hb⟩
      rw [show holdsV (opVal k (10 ^ S) (k / 10 ^ S) S (short k S).2 (k % 10 ^ S) ((short k S).1 % 10 ^ (short k S).2)) x = false from HHX.out] at he
      subst he
      have HB24 := Lib.hid (below_on HB23.out (Nat.le_refl _) hb)
      clear hb
      dsimp only
      try clear hHeld
      refine hK.out _ _ (HB24.out) (fun hHeld => ?_)
      clear hK K
      try simp only [Act.put, List.setIfInBounds_toArray, List.set_cons_zero, List.set_cons_succ]
      refine takeL (i := 9) (v := ?v25) rfl (by kernel_rfl) (by kernel_rfl) (by kernel_rfl) (fun _ _ _ h => h) (Or.inl ⟨by rfl, ?hy25⟩) (by assumption) ?rest25
      case hy25 => (intro wz hSz; (have hfz := HF.out wz hSz); go_split_ands; (first | (go_simp; done) | (go_simp; with_reducible rfl)))
      try simp only [Act.put, List.setIfInBounds_toArray, List.set_cons_zero, List.set_cons_succ]
      refine takeL (i := 10) (v := ?v26) rfl (by kernel_rfl) (by kernel_rfl) (by kernel_rfl) (fun _ _ _ h => h) (Or.inl ⟨by rfl, ?hy26⟩) (by assumption) ?rest26
      case hy26 => (intro wz hSz; (have hfz := HF.out wz hSz); go_split_ands; (first | (go_simp; done) | (go_simp; with_reducible rfl)))
      try simp only [Act.put, List.setIfInBounds_toArray, List.set_cons_zero, List.set_cons_succ]
      refine takeL (i := 11) (v := ?v27) rfl (by kernel_rfl) (by kernel_rfl) (by kernel_rfl) (fun _ _ _ h => h) (Or.inl ⟨by rfl, ?hy27⟩) (by assumption) ?rest27
      case hy27 => (intro wz hSz; (have hfz := HF.out wz hSz); go_split_ands; (first | (go_simp; done) | (go_simp; with_reducible rfl)))
      try simp only [Act.put, List.setIfInBounds_toArray, List.set_cons_zero, List.set_cons_succ]
      refine wpAnyH_ready (rs := [12]) (by kernel_rfl) (by simp) ?_
      refine consL rfl (fun K hK => ?_) AllReadyH.nil
      go_simp
      refine (rule_Holds _ YA y.length yc y (HGW.out.below HB24.out (Nat.le_refl _)) (RY.out.below HB24.out (Nat.le_refl _)) SY.out _ _ _ _ _ _ _ _ _ _ _ _ _ _ _ _ _ _ _ _ _ _ _ _ (OP.out.below HB24.out (Nat.le_refl _)) (by omega) (by omega)).mono ?_
      rintro e w128 ⟨he, hb⟩
      rw [show holdsV (opVal k (10 ^ S) (k / 10 ^ S) S (short k S).2 (k % 10 ^ S) ((short k S).1 % 10 ^ (short k S).2)) y = true from HHY.out] at he
      subst he
      have HB28 := Lib.hid (below_on HB24.out (Nat.le_refl _) hb)
      clear hb
      dsimp only
      try clear hHeld
      refine hK.out _ _ (HB28.out) (fun hHeld => ?_)
      clear hK K
      try simp only [Act.put, List.setIfInBounds_toArray, List.set_cons_zero, List.set_cons_succ]
      refine takeL (i := 13) (v := ?v29) rfl (by kernel_rfl) (by kernel_rfl) (by kernel_rfl) (fun _ _ _ h => h) (Or.inl ⟨by rfl, ?hy29⟩) (by assumption) ?rest29
      case hy29 => (intro wz hSz; (have hfz := HF.out wz hSz); go_split_ands; (first | (go_simp; done) | (go_simp; with_reducible rfl)))
      try simp only [Act.put, List.setIfInBounds_toArray, List.set_cons_zero, List.set_cons_succ]
      refine takeL (i := 14) (v := ?v30) rfl (by kernel_rfl) (by kernel_rfl) (by kernel_rfl) (fun _ _ _ h => h) (Or.inl ⟨by rfl, ?hy30⟩) (by assumption) ?rest30
      case hy30 => (intro wz hSz; (have hfz := HF.out wz hSz); go_split_ands; (first | (go_simp; done) | (go_simp; with_reducible rfl)))
      try simp only [Act.put, List.setIfInBounds_toArray, List.set_cons_zero, List.set_cons_succ]
      refine wpAnyH_done (by kernel_rfl) ?_ _
      clear hHeld
      unfold TailQ
      go_wp2_with fail
      go_meet
      exact ⟨rfl, HB28.out⟩
    · skip
      refine wp_region_but (fun w' => Below w6.heap.size w6 w') (by kernel_rfl) (by kernel_rfl) (Below.refl _ _).drew (fun hHeld => ?_)
      simp only [initL, lastL]
      have HB0 := Lib.hid hHeld
      refine takeL (i := 0) (v := ?v31) rfl (by kernel_rfl) (by kernel_rfl) (by kernel_rfl) (fun _ _ _ h => h) (Or.inl ⟨by rfl, ?hy31⟩) (by assumption) ?rest31
      case hy31 => (intro wz hSz; (have hfz := HF.out wz hSz); go_split_ands; (first | (go_simp; done) | (go_simp; with_reducible rfl)))
      try simp only [Act.put, List.setIfInBounds_toArray, List.set_cons_zero, List.set_cons_succ]
      refine takeL (i := 1) (v := ?v32) rfl (by kernel_rfl) (by kernel_rfl) (by kernel_rfl) (fun _ _ _ h => h) (Or.inl ⟨by rfl, ?hy32⟩) (by assumption) ?rest32
      case hy32 => (intro wz hSz; (have hfz := HF.out wz hSz); go_split_ands; (first | (go_simp; done) | (go_simp; with_reducible rfl)))
      try simp only [Act.put, List.setIfInBounds_toArray, List.set_cons_zero, List.set_cons_succ]
      refine takeL (i := 2) (v := ?v33) rfl (by kernel_rfl) (by kernel_rfl) (by kernel_rfl) (fun _ _ _ h => h) (Or.inl ⟨by rfl, ?hy33⟩) (by assumption) ?rest33
      case hy33 => (intro wz hSz; (have hfz := HF.out wz hSz); go_split_ands; (first | (go_simp; done) | (go_simp; with_reducible rfl)))
      try simp only [Act.put, List.setIfInBounds_toArray, List.set_cons_zero, List.set_cons_succ]
      refine takeL (i := 3) (v := ?v34) rfl (by kernel_rfl) (by kernel_rfl) (by kernel_rfl) (fun _ _ _ h => h) (Or.inl ⟨by rfl, ?hy34⟩) (by assumption) ?rest34
      case hy34 => (intro wz hSz; (have hfz := HF.out wz hSz); go_split_ands; (first | (go_simp; done) | (go_simp; with_reducible rfl)))
      try simp only [Act.put, List.setIfInBounds_toArray, List.set_cons_zero, List.set_cons_succ]
      refine takeL (i := 4) (v := ?v35) rfl (by kernel_rfl) (by kernel_rfl) (by kernel_rfl) (fun _ _ _ h => h) (Or.inl ⟨by rfl, ?hy35⟩) (by assumption) ?rest35
      case hy35 => (intro wz hSz; (have hfz := HF.out wz hSz); go_split_ands; (first | (go_simp; done) | (go_simp; with_reducible rfl)))
      try simp only [Act.put, List.setIfInBounds_toArray, List.set_cons_zero, List.set_cons_succ]
      refine takeL (i := 6) (v := ?v36) rfl (by kernel_rfl) (by kernel_rfl) (by kernel_rfl) (fun _ _ _ h => h) (Or.inl ⟨by rfl, ?hy36⟩) (by assumption) ?rest36
      case hy36 => (intro wz hSz; (have hfz := HF.out wz hSz); go_split_ands; (first | (go_simp; done) | (go_simp; with_reducible rfl)))
      try simp only [Act.put, List.setIfInBounds_toArray, List.set_cons_zero, List.set_cons_succ]
      refine takeL (i := 7) (v := ?v37) rfl (by kernel_rfl) (by kernel_rfl) (by kernel_rfl) (fun _ _ _ h => h) (Or.inl ⟨by rfl, ?hy37⟩) (by assumption) ?rest37
      case hy37 => (intro wz hSz; (have hfz := HF.out wz hSz); go_split_ands; (first | (go_simp; done) | (go_simp; with_reducible rfl)))
      try simp only [Act.put, List.setIfInBounds_toArray, List.set_cons_zero, List.set_cons_succ]
      refine wpAnyH_ready (rs := [5]) (by kernel_rfl) (by simp) ?_
      refine consL rfl (fun K hK => ?_) AllReadyH.nil
      go_simp
      refine (rule_Holds _ ZA z.length zc z (HGW.out.below HB0.out (Nat.le_refl _)) (RZ.out.below HB0.out (Nat.le_refl _)) SZ.out _ _ _ _ _ _ _ _ _ _ _ _ _ _ _ _ _ _ _ _ _ _ _ _ (OP.out.below HB0.out (Nat.le_refl _)) (by omega) (by omega)).mono ?_
      rintro e w138 ⟨he, hb⟩
      rw [show holdsV (opVal k (10 ^ S) (k / 10 ^ S) S (short k S).2 (k % 10 ^ S) ((short k S).1 % 10 ^ (short k S).2)) z = (true || false) from HZ.out] at he
      subst he
      have HB38 := Lib.hid (below_on HB0.out (Nat.le_refl _) hb)
      clear hb
      dsimp only
      try clear hHeld
      refine hK.out _ _ (HB38.out) (fun hHeld => ?_)
      clear hK K
      try simp only [Act.put, List.setIfInBounds_toArray, List.set_cons_zero, List.set_cons_succ]
      refine wpAnyH_ready (rs := [8]) (by kernel_rfl) (by simp) ?_
      refine consL rfl (fun K hK => ?_) AllReadyH.nil
      go_simp
      refine (rule_Holds _ XA x.length xc x (HGW.out.below HB38.out (Nat.le_refl _)) (RX.out.below HB38.out (Nat.le_refl _)) SX.out _ _ _ _ _ _ _ _ _ _ _ _ _ _ _ _ _ _ _ _ _ _ _ _ (OP.out.below HB38.out (Nat.le_refl _)) (by omega) (by omega)).mono ?_
      rintro e w139 ⟨he, hb⟩
      rw [show holdsV (opVal k (10 ^ S) (k / 10 ^ S) S (short k S).2 (k % 10 ^ S) ((short k S).1 % 10 ^ (short k S).2)) x = true from HHX.out] at he
      subst he
      have HB39 := Lib.hid (below_on HB38.out (Nat.le_refl _) hb)
      clear hb
      dsimp only
      try clear hHeld
      refine hK.out _ _ (HB39.out) (fun hHeld => ?_)
      clear hK K
      try simp only [Act.put, List.setIfInBounds_toArray, List.set_cons_zero, List.set_cons_succ]
      refine takeL (i := 9) (v := ?v40) rfl (by kernel_rfl) (by kernel_rfl) (by kernel_rfl) (fun _ _ _ h => h) (Or.inl ⟨by rfl, ?hy40⟩) (by assumption) ?rest40
      case hy40 => (intro wz hSz; (have hfz := HF.out wz hSz); go_split_ands; (first | (go_simp; done) | (go_simp; with_reducible rfl)))
      try simp only [Act.put, List.setIfInBounds_toArray, List.set_cons_zero, List.set_cons_succ]
      refine takeL (i := 10) (v := _) rfl (by kernel_rfl) (by kernel_rfl) (by kernel_rfl) (fun _ _ _ h => h) (Or.inr ⟨by rfl, rfl⟩) (by assumption) ?rest41
      try simp only [Act.put, List.setIfInBounds_toArray, List.set_cons_zero, List.set_cons_succ]
      refine takeL (i := 11) (v := _) rfl (by kernel_rfl) (by kernel_rfl) (by kernel_rfl) (fun _ _ _ h => h) (Or.inr ⟨by rfl, rfl⟩) (by assumption) ?rest42
      try simp only [Act.put, List.setIfInBounds_toArray, List.set_cons_zero, List.set_cons_succ]
      refine takeL (i := 12) (v := _) rfl (by kernel_rfl) (by kernel_rfl) (by kernel_rfl) (fun _ _ _ h => h) (Or.inr ⟨by rfl, rfl⟩) (by assumption) ?rest43
      try simp only [Act.put, List.setIfInBounds_toArray, List.set_cons_zero, List.set_cons_succ]
      refine takeL (i := 13) (v := ?v44) rfl (by kernel_rfl) (by kernel_rfl) (by kernel_rfl) (fun _ _ _ h => h) (Or.inl ⟨by rfl, ?hy44⟩) (by assumption) ?rest44
      case hy44 => (intro wz hSz; (have hfz := HF.out wz hSz); go_split_ands; (first | (go_simp; done) | (go_simp; with_reducible rfl)))
      try simp only [Act.put, List.setIfInBounds_toArray, List.set_cons_zero, List.set_cons_succ]
      refine takeL (i := 14) (v := ?v45) rfl (by kernel_rfl) (by kernel_rfl) (by kernel_rfl) (fun _ _ _ h => h) (Or.inl ⟨by rfl, ?hy45⟩) (by assumption) ?rest45
      case hy45 => (intro wz hSz; (have hfz := HF.out wz hSz); go_split_ands; (first | (go_simp; done) | (go_simp; with_reducible rfl)))
      try simp only [Act.put, List.setIfInBounds_toArray, List.set_cons_zero, List.set_cons_succ]
      refine wpAnyH_done (by kernel_rfl) ?_ _
      clear hHeld
      unfold TailQ
      go_wp2_with fail
      go_meet
      exact ⟨rfl, HB39.out⟩
    · skip
      refine wp_region_but (fun w' => Below w6.heap.size w6 w') (by kernel_rfl) (by kernel_rfl) (Below.refl _ _).drew (fun hHeld => ?_)
      simp only [initL, lastL]
      have HB0 := Lib.hid hHeld
      refine takeL (i := 0) (v := ?v46) rfl (by kernel_rfl) (by kernel_rfl) (by kernel_rfl) (fun _ _ _ h => h) (Or.inl ⟨by rfl, ?hy46⟩) (by assumption) ?rest46
      case hy46 => (intro wz hSz; (have hfz := HF.out wz hSz); go_split_ands; (first | (go_simp; done) | (go_simp; with_reducible rfl)))
      try simp only [Act.put, List.setIfInBounds_toArray, List.set_cons_zero, List.set_cons_succ]
      refine takeL (i := 1) (v := ?v47) rfl (by kernel_rfl) (by kernel_rfl) (by kernel_rfl) (fun _ _ _ h => h) (Or.inl ⟨by rfl, ?hy47⟩) (by assumption) ?rest47
      case hy47 => (intro wz hSz; (have hfz := HF.out wz hSz); go_split_ands; (first | (go_simp; done) | (go_simp; with_reducible rfl)))
      try simp only [Act.put, List.setIfInBounds_toArray, List.set_cons_zero, List.set_cons_succ]
      refine takeL (i := 2) (v := ?v48) rfl (by kernel_rfl) (by kernel_rfl) (by kernel_rfl) (fun _ _ _ h => h) (Or.inl ⟨by rfl, ?hy48⟩) (by assumption) ?rest48
      case hy48 => (intro wz hSz; (have hfz := HF.out wz hSz); go_split_ands; (first | (go_simp; done) | (go_simp; with_reducible rfl)))
      try simp only [Act.put, List.setIfInBounds_toArray, List.set_cons_zero, List.set_cons_succ]
      refine takeL (i := 3) (v := ?v49) rfl (by kernel_rfl) (by kernel_rfl) (by kernel_rfl) (fun _ _ _ h => h) (Or.inl ⟨by rfl, ?hy49⟩) (by assumption) ?rest49
      case hy49 => (intro wz hSz; (have hfz := HF.out wz hSz); go_split_ands; (first | (go_simp; done) | (go_simp; with_reducible rfl)))
      try simp only [Act.put, List.setIfInBounds_toArray, List.set_cons_zero, List.set_cons_succ]
      refine takeL (i := 4) (v := ?v50) rfl (by kernel_rfl) (by kernel_rfl) (by kernel_rfl) (fun _ _ _ h => h) (Or.inl ⟨by rfl, ?hy50⟩) (by assumption) ?rest50
      case hy50 => (intro wz hSz; (have hfz := HF.out wz hSz); go_split_ands; (first | (go_simp; done) | (go_simp; with_reducible rfl)))
      try simp only [Act.put, List.setIfInBounds_toArray, List.set_cons_zero, List.set_cons_succ]
      refine takeL (i := 6) (v := ?v51) rfl (by kernel_rfl) (by kernel_rfl) (by kernel_rfl) (fun _ _ _ h => h) (Or.inl ⟨by rfl, ?hy51⟩) (by assumption) ?rest51
      case hy51 => (intro wz hSz; (have hfz := HF.out wz hSz); go_split_ands; (first | (go_simp; done) | (go_simp; with_reducible rfl)))
      try simp only [Act.put, List.setIfInBounds_toArray, List.set_cons_zero, List.set_cons_succ]
      refine takeL (i := 7) (v := ?v52) rfl (by kernel_rfl) (by kernel_rfl) (by kernel_rfl) (fun _ _ _ h => h) (Or.inl ⟨by rfl, ?hy52⟩) (by assumption) ?rest52
      case hy52 => (intro wz hSz; (have hfz := HF.out wz hSz); go_split_ands; (first | (go_simp; done) | (go_simp; with_reducible rfl)))
      try simp only [Act.put, List.setIfInBounds_toArray, List.set_cons_zero, List.set_cons_succ]
      refine wpAnyH_ready (rs := [5]) (by kernel_rfl) (by simp) ?_
      refine consL rfl (fun K hK => ?_) AllReadyH.nil
      go_simp
      refine (rule_Holds _ ZA z.length zc z (HGW.out.below HB0.out (Nat.le_refl _)) (RZ.out.below HB0.out (Nat.le_refl _)) SZ.out _ _ _ _ _ _ _ _ _ _ _ _ _ _ _ _ _ _ _ _ _ _ _ _ (OP.out.below HB0.out (Nat.le_refl _)) (by omega) (by omega)).mono ?_
      rintro e w153 ⟨he, hb⟩
      rw [show holdsV (opVal k (10 ^ S) (k / 10 ^ S) S (short k S).2 (k % 10 ^ S) ((short k S).1 % 10 ^ (short k S).2)) z = (true || true) from HZ.out] at he
      subst he
      have HB53 := Lib.hid (below_on HB0.out (Nat.le_refl _) hb)
      clear hb
      dsimp only
      try clear hHeld
      refine hK.out _ _ (HB53.out) (fun hHeld => ?_)
      clear hK K
      try simp only [Act.put, List.setIfInBounds_toArray, List.set_cons_zero, List.set_cons_succ]
      refine wpAnyH_ready (rs := [8]) (by kernel_rfl) (by simp) ?_
      refine consL rfl (fun K hK => ?_) AllReadyH.nil
      go_simp
      refine (rule_Holds _ XA x.length xc x (HGW.out.below HB53.out (Nat.le_refl _)) (RX.out.below HB53.out (Nat.le_refl _)) SX.out _ _ _ _ _ _ _ _ _ _ _ _ _ _ _ _ _ _ _ _ _ _ _ _ (OP.out.below HB53.out (Nat.le_refl _)) (by omega) (by omega)).mono ?_
      rintro e w154 ⟨he, hb⟩
      rw [show holdsV (opVal k (10 ^ S) (k / 10 ^ S) S (short k S).2 (k % 10 ^ S) ((short k S).1 % 10 ^ (short k S).2)) x = true from HHX.out] at he
      subst he
      have HB54 := Lib.hid (below_on HB53.out (Nat.le_refl _) hb)
      clear hb
      dsimp only
      try clear hHeld
      refine hK.out _ _ (HB54.out) (fun hHeld => ?_)
      clear hK K
      try simp only [Act.put, List.setIfInBounds_toArray, List.set_cons_zero, List.set_cons_succ]
      refine takeL (i := 9) (v := ?v55) rfl (by kernel_rfl) (by kernel_rfl) (by kernel_rfl) (fun _ _ _ h => h) (Or.inl ⟨by rfl, ?hy55⟩) (by assumption) ?rest55
      case hy55 => (intro wz hSz; (have hfz := HF.out wz hSz); go_split_ands; (first | (go_simp; done) | (go_simp; with_reducible rfl)))
      try simp only [Act.put, List.setIfInBounds_toArray, List.set_cons_zero, List.set_cons_succ]
      refine takeL (i := 10) (v := _) rfl (by kernel_rfl) (by kernel_rfl) (by kernel_rfl) (fun _ _ _ h => h) (Or.inr ⟨by rfl, rfl⟩) (by assumption) ?rest56
      try simp only [Act.put, List.setIfInBounds_toArray, List.set_cons_zero, List.set_cons_succ]
      refine takeL (i := 11) (v := _) rfl (by kernel_rfl) (by kernel_rfl) (by kernel_rfl) (fun _ _ _ h => h) (Or.inr ⟨by rfl, rfl⟩) (by assumption) ?rest57
      try simp only [Act.put, List.setIfInBounds_toArray, List.set_cons_zero, List.set_cons_succ]
      refine takeL (i := 12) (v := _) rfl (by kernel_rfl) (by kernel_rfl) (by kernel_rfl) (fun _ _ _ h => h) (Or.inr ⟨by rfl, rfl⟩) (by assumption) ?rest58
      try simp only [Act.put, List.setIfInBounds_toArray, List.set_cons_zero, List.set_cons_succ]
      refine takeL (i := 13) (v := ?v59) rfl (by kernel_rfl) (by kernel_rfl) (by kernel_rfl) (fun _ _ _ h => h) (Or.inl ⟨by rfl, ?hy59⟩) (by assumption) ?rest59
      case hy59 => (intro wz hSz; (have hfz := HF.out wz hSz); go_split_ands; (first | (go_simp; done) | (go_simp; with_reducible rfl)))
      try simp only [Act.put, List.setIfInBounds_toArray, List.set_cons_zero, List.set_cons_succ]
      refine takeL (i := 14) (v := ?v60) rfl (by kernel_rfl) (by kernel_rfl) (by kernel_rfl) (fun _ _ _ h => h) (Or.inl ⟨by rfl, ?hy60⟩) (by assumption) ?rest60
      case hy60 => (intro wz hSz; (have hfz := HF.out wz hSz); go_split_ands; (first | (go_simp; done) | (go_simp; with_reducible rfl)))
      try simp only [Act.put, List.setIfInBounds_toArray, List.set_cons_zero, List.set_cons_succ]
      refine wpAnyH_done (by kernel_rfl) ?_ _
      clear hHeld
      unfold TailQ
      go_wp2_with fail
      go_meet
      exact ⟨rfl, HB54.out⟩
  case rest =>
    obtain ⟨rfl, hb⟩ := hcut
    have B0' := Lib.hid (B0.out.below hb B0.out.lt)
    have HB' := Lib.hid (HB.out.trans (hb.mono HB.out.size))
    have RX' := Lib.hid (RX.out.below hb (Nat.le_refl _))
    have Bg7' := Lib.hid (Bg7.out.below hb Bg7.out.lt)
    have RY' := Lib.hid (RY.out.below hb (Nat.le_refl _))
    have Bg9' := Lib.hid (Bg9.out.below hb Bg9.out.lt)
    have OP' := Lib.hid (OP.out.below hb (Nat.le_refl _))
    have Bg11' := Lib.hid (Bg11.out.below hb Bg11.out.lt)
    have RZ' := Lib.hid (RZ.out.below hb (Nat.le_refl _))
    have Bg12' := Lib.hid (Bg12.out.below hb Bg12.out.lt)
    have HGW' := Lib.hid (HG.out.below HB'.out (Nat.le_refl _))
    clear hb HF HGW B0 HB RX Bg7 RY Bg9 OP Bg11 RZ Bg12
    obtain ⟨w8, rfl⟩ : ∃ w8 : World, w8 = wc := ⟨_, rfl⟩
    have k7 := Bg7'.out.cell 0
    have k9 := Bg9'.out.cell 0
    simp only [List.getElem?_cons_zero] at k7 k9
    by_cases hx1 : 1 < x.length
    · have hx1I : (1 : Int) < (x.length : Int) := by omega
      go_wp2_with fail
      go_ret
      exact ⟨rfl, HB'.out⟩
    have hx1I : ¬ (1 : Int) < (x.length : Int) := by omega
    by_cases hy1 : 1 < y.length
    · have hy1I : (1 : Int) < (y.length : Int) := by omega
      go_wp2_with fail
      go_ret
      exact ⟨rfl, HB'.out⟩
    have hy1I : ¬ (1 : Int) < (y.length : Int) := by omega
    obtain ⟨v, hv1, hv2⟩ := and_of H1.out H3.out (by omega) (by omega) (by omega) (by omega)
    have HAND := Lib.hid hv1
    have HV := Lib.hid (hv2 (ofVal k S))
    clear hv1 hv2
    have HVV : Hid (holdsV (ofVal k S) v = (hx && hy)) := by have h := HV.out; rw [HHX.out, HHY.out] at h; exact Lib.hid h
    have GV := Lib.hid (parse_back HAND.out).1
    have SV := Lib.hid (smallR_good GV.out)
    clear HV
    go_wp2_with fail
    refine (parse_cat w8 p [32, 97, 110, 100, 32] q _ rfl HAND.out HGW'.out).mono ?_
    rintro e wq ⟨VA, vn, vc, rfl, hr, hb⟩
    obtain ⟨g14, hg14⟩ : ∃ g14, wq.heap.size = g14 := ⟨_, rfl⟩
    have hba : Below wq.heap.size wq (wq.alloc (.cells #[.slice VA vn vc] 30)) := (Below.refl _ _).alloc (Nat.le_refl _) _
    have hbb := hb.trans (hba.mono hb.size)
    have yB0' := B0'.out.below hbb B0'.out.lt
    have YB0' := Lib.hid yB0'
    have yHB' := HB'.out.trans (hbb.mono HB'.out.size)
    have YHB' := Lib.hid yHB'
    have yRX' := RX'.out.below hbb (Nat.le_refl _)
    have YRX' := Lib.hid yRX'
    have yBg7' := Bg7'.out.below hbb Bg7'.out.lt
    have YBg7' := Lib.hid yBg7'
    have yRY' := RY'.out.below hbb (Nat.le_refl _)
    have YRY' := Lib.hid yRY'
    have yBg9' := Bg9'.out.below hbb Bg9'.out.lt
    have YBg9' := Lib.hid yBg9'
    have yOP' := OP'.out.below hbb (Nat.le_refl _)
    have YOP' := Lib.hid yOP'
    have yBg11' := Bg11'.out.below hbb Bg11'.out.lt
    have YBg11' := Lib.hid yBg11'
    have yRZ' := RZ'.out.below hbb (Nat.le_refl _)
    have YRZ' := Lib.hid yRZ'
    have yBg12' := Bg12'.out.below hbb Bg12'.out.lt
    have YBg12' := Lib.hid yBg12'
    have yRV := RuleIs.below hr.is hba (Nat.le_refl _)
    have YRV := Lib.hid yRV
    have ynb : Blk (wq.alloc (.cells #[.slice VA vn vc] 30)) g14 30 [.slice VA vn vc] := by rw [← hg14]; exact Blk.made _ 30 _ _ _ rfl rfl
    have Ynb := Lib.hid ynb
    clear hbb hba ynb yB0' yHB' yRX' yBg7' yRY' yBg9' yOP' yBg11' yRZ' yBg12' yRV hb hr k7 k9 B0' HB' RX' Bg7' RY' Bg9' OP' Bg11' RZ' Bg12' HGW'
    dsimp only
    go_upto_region 14 with fail
    try rw [hg14]
    refine wp_letter (fun w9 => Blk w9 w.heap.size 26 [.bool b, .slice A l.length c, .int .i64 sc] ∧ Below w.heap.size w w9 ∧ RuleIs w9 XA x.length xc x ∧ Blk w9 g7 30 [.slice XA x.length xc] ∧ RuleIs w9 YA y.length yc y ∧ Blk w9 g9 30 [.slice YA y.length yc] ∧ OpR w9 ob oA on oc oB om od iA il ic fA fl fc' tA tl tc' k (10 ^ S) m (k / 10 ^ S) S (short k S).2 (k % 10 ^ S) ((short k S).1 % 10 ^ (short k S).2) ∧ Blk w9 g11 39 [.bool ob, .slice oA on oc, .slice oB om od, .slice iA il ic, .int .i64 (S : Nat), .int .i64 ((short k S).2 : Nat), .slice fA fl fc', .slice tA tl tc'] ∧ RuleIs w9 ZA z.length zc z ∧ Blk w9 g12 30 [.slice ZA z.length zc] ∧ RuleIs w9 VA vn vc v ∧ Blk w9 g14 30 [.slice VA vn vc]) ⟨YB0'.out, YHB'.out, YRX'.out, YBg7'.out, YRY'.out, YBg9'.out, YOP'.out, YBg11'.out, YRZ'.out, YBg12'.out, YRV.out, Ynb.out⟩ ?_
    clear YB0' YHB' YRX' YBg7' YRY' YBg9' YOP' YBg11' YRZ' YBg12' YRV Ynb hg14
    rintro w9 ⟨x0, x1, x2, x3, x4, x5, x6, x7, x8, x9, x10, x11⟩
    have B0' := Lib.hid x0
    have HB' := Lib.hid x1
    have RX' := Lib.hid x2
    have Bg7' := Lib.hid x3
    have RY' := Lib.hid x4
    have Bg9' := Lib.hid x5
    have OP' := Lib.hid x6
    have Bg11' := Lib.hid x7
    have RZ' := Lib.hid x8
    have Bg12' := Lib.hid x9
    have RV := Lib.hid x10
    have Bg14 := Lib.hid x11
    have HGW := Lib.hid (HG.out.below HB'.out (Nat.le_refl _))
    clear x0 x1 x2 x3 x4 x5 x6 x7 x8 x9 x10 x11
    obtain rfl : vn = v.length := RV.out.len
    have HF : Hid (∀ w', Below w9.heap.size w9 w' → w'.cell? ⟨g14, 0, none⟩ = some (.slice VA v.length vc) ∧ w'.cell? ⟨g11, 0, none⟩ = some (.bool ob) ∧ w'.cell? ⟨g11, 1, none⟩ = some (.slice oA on oc) ∧ w'.cell? ⟨g11, 2, none⟩ = some (.slice oB om od) ∧ w'.cell? ⟨g11, 3, none⟩ = some (.slice iA il ic) ∧ w'.cell? ⟨g11, 4, none⟩ = some (.int .i64 (S : Nat)) ∧ w'.cell? ⟨g11, 5, none⟩ = some (.int .i64 ((short k S).2 : Nat)) ∧ w'.cell? ⟨g11, 6, none⟩ = some (.slice fA fl fc') ∧ w'.cell? ⟨g11, 7, none⟩ = some (.slice tA tl tc') ∧ w'.cell? ⟨g7, 0, none⟩ = some (.slice XA x.length xc) ∧ w'.cell? ⟨g9, 0, none⟩ = some (.slice YA y.length yc)) := fun w' h => by
      have dBg14 := Bg14.out.below h Bg14.out.lt
      have dBg11' := Bg11'.out.below h Bg11'.out.lt
      have dBg7' := Bg7'.out.below h Bg7'.out.lt
      have dBg9' := Bg9'.out.below h Bg9'.out.lt
      exact ⟨dBg14.cell 0, dBg11'.cell 0, dBg11'.cell 1, dBg11'.cell 2, dBg11'.cell 3, dBg11'.cell 4, dBg11'.cell 5, dBg11'.cell 6, dBg11'.cell 7, dBg7'.cell 0, dBg9'.cell 0⟩
    cases hx <;> cases hy
    · skip
      refine wp_region_but (fun w' => Below w9.heap.size w9 w') (by kernel_rfl) (by kernel_rfl) (Below.refl _ _).drew (fun hHeld => ?_)
      simp only [initL, lastL]
      have HB0 := Lib.hid hHeld
      refine takeL (i := 0) (v := ?v61) rfl (by kernel_rfl) (by kernel_rfl) (by kernel_rfl) (fun _ _ _ h => h) (Or.inl ⟨by rfl, ?hy61⟩) (by assumption) ?rest61
      case hy61 => (intro wz hSz; (have hfz := HF.out wz hSz); go_split_ands; (first | (go_simp; done) | (go_simp; with_reducible rfl)))
      try simp only [Act.put, List.setIfInBounds_toArray, List.set_cons_zero, List.set_cons_succ]
      refine takeL (i := 1) (v := ?v62) rfl (by kernel_rfl) (by kernel_rfl) (by kernel_rfl) (fun _ _ _ h => h) (Or.inl ⟨by rfl, ?hy62⟩) (by assumption) ?rest62
      case hy62 => (intro wz hSz; (have hfz := HF.out wz hSz); go_split_ands; (first | (go_simp; done) | (go_simp; with_reducible rfl)))
      try simp only [Act.put, List.setIfInBounds_toArray, List.set_cons_zero, List.set_cons_succ]
      refine takeL (i := 2) (v := ?v63) rfl (by kernel_rfl) (by kernel_rfl) (by kernel_rfl) (fun _ _ _ h => h) (Or.inl ⟨by rfl, ?hy63⟩) (by assumption) ?rest63
      case hy63 => (intro wz hSz; (have hfz := HF.out wz hSz); go_split_ands; (first | (go_simp; done) | (go_simp; with_reducible rfl)))
      try simp only [Act.put, List.setIfInBounds_toArray, List.set_cons_zero, List.set_cons_succ]
      refine takeL (i := 3) (v := ?v64) rfl (by kernel_rfl) (by kernel_rfl) (by kernel_rfl) (fun _ _ _ h => h) (Or.inl ⟨by rfl, ?hy64⟩) (by assumption) ?rest64
      case hy64 => (intro wz hSz; (have hfz := HF.out wz hSz); go_split_ands; (first | (go_simp; done) | (go_simp; with_reducible rfl)))
      try simp only [Act.put, List.setIfInBounds_toArray, List.set_cons_zero, List.set_cons_succ]
      refine takeL (i := 4) (v := ?v65) rfl (by kernel_rfl) (by kernel_rfl) (by kernel_rfl) (fun _ _ _ h => h) (Or.inl ⟨by rfl, ?hy65⟩) (by assumption) ?rest65
      case hy65 => (intro wz hSz; (have hfz := HF.out wz hSz); go_split_ands; (first | (go_simp; done) | (go_simp; with_reducible rfl)))
      try simp only [Act.put, List.setIfInBounds_toArray, List.set_cons_zero, List.set_cons_succ]
      refine takeL (i := 6) (v := ?v66) rfl (by kernel_rfl) (by kernel_rfl) (by kernel_rfl) (fun _ _ _ h => h) (Or.inl ⟨by rfl, ?hy66⟩) (by assumption) ?rest66
      case hy66 => (intro wz hSz; (have hfz := HF.out wz hSz); go_split_ands; (first | (go_simp; done) | (go_simp; with_reducible rfl)))
      try simp only [Act.put, List.setIfInBounds_toArray, List.set_cons_zero, List.set_cons_succ]
      refine takeL (i := 7) (v := ?v67) rfl (by kernel_rfl) (by kernel_rfl) (by kernel_rfl) (fun _ _ _ h => h) (Or.inl ⟨by rfl, ?hy67⟩) (by assumption) ?rest67
      case hy67 => (intro wz hSz; (have hfz := HF.out wz hSz); go_split_ands; (first | (go_simp; done) | (go_simp; with_reducible rfl)))
      try simp only [Act.put, List.setIfInBounds_toArray, List.set_cons_zero, List.set_cons_succ]
      refine wpAnyH_ready (rs := [5]) (by kernel_rfl) (by simp) ?_
      refine consL rfl (fun K hK => ?_) AllReadyH.nil
      go_simp
      refine (rule_Holds _ VA v.length vc v (HGW.out.below HB0.out (Nat.le_refl _)) (RV.out.below HB0.out (Nat.le_refl _)) SV.out _ _ _ _ _ _ _ _ _ _ _ _ _ _ _ _ _ _ _ _ _ _ _ _ (OP'.out.below HB0.out (Nat.le_refl _)) (by omega) (by omega)).mono ?_
      rintro e w168 ⟨he, hb⟩
      rw [show holdsV (opVal k (10 ^ S) (k / 10 ^ S) S (short k S).2 (k % 10 ^ S) ((short k S).1 % 10 ^ (short k S).2)) v = (false && false) from HVV.out] at he
      subst he
      have HB68 := Lib.hid (below_on HB0.out (Nat.le_refl _) hb)
      clear hb
      dsimp only
      try clear hHeld
      refine hK.out _ _ (HB68.out) (fun hHeld => ?_)
      clear hK K
      try simp only [Act.put, List.setIfInBounds_toArray, List.set_cons_zero, List.set_cons_succ]
      refine wpAnyH_ready (rs := [8]) (by kernel_rfl) (by simp) ?_
      refine consL rfl (fun K hK => ?_) AllReadyH.nil
      go_simp
      refine (rule_Holds _ XA x.length xc x (HGW.out.below HB68.out (Nat.le_refl _)) (RX'.out.below HB68.out (Nat.le_refl _)) SX.out _ _ _ _ _ _ _ _ _ _ _ _ _ _ _ _ _ _ _ _ _ _ _ _ (OP'.out.below HB68.out (Nat.le_refl _)) (by omega) (by omega)).mono ?_
      rintro e w169 ⟨he, hb⟩
      rw [show holdsV (opVal k (10 ^ S) (k / 10 ^ S) S (short k S).2 (k % 10 ^ S) ((short k S).1 % 10 ^ (short k S).2)) x = false from HHX.out] at he
      subst he
      have HB69 := Lib.hid (below_on HB68.out (Nat.le_refl _) hb)
      clear hb
      dsimp only
      try clear hHeld
      refine hK.out _ _ (HB69.out) (fun hHeld => ?_)
      clear hK K
      try simp only [Act.put, List.setIfInBounds_toArray, List.set_cons_zero, List.set_cons_succ]
      refine takeL (i := 9) (v := ?v70) rfl (by kernel_rfl) (by kernel_rfl) (by kernel_rfl) (fun _ _ _ h => h) (Or.inl ⟨by rfl, ?hy70⟩) (by assumption) ?rest70
      case hy70 => (intro wz hSz; (have hfz := HF.out wz hSz); go_split_ands; (first | (go_simp; done) | (go_simp; with_reducible rfl)))
      try simp only [Act.put, List.setIfInBounds_toArray, List.set_cons_zero, List.set_cons_succ]
      refine takeL (i := 10) (v := _) rfl (by kernel_rfl) (by kernel_rfl) (by kernel_rfl) (fun _ _ _ h => h) (Or.inr ⟨by rfl, rfl⟩) (by assumption) ?rest71
      try simp only [Act.put, List.setIfInBounds_toArray, List.set_cons_zero, List.set_cons_succ]
      refine takeL (i := 11) (v := _) rfl (by kernel_rfl) (by kernel_rfl) (by kernel_rfl) (fun _ _ _ h => h) (Or.inr ⟨by rfl, rfl⟩) (by assumption) ?rest72
      try simp only [Act.put, List.setIfInBounds_toArray, List.set_cons_zero, List.set_cons_succ]
      refine takeL (i := 12) (v := _) rfl (by kernel_rfl) (by kernel_rfl) (by kernel_rfl) (fun _ _ _ h => h) (Or.inr ⟨by rfl, rfl⟩) (by assumption) ?rest73
      try simp only [Act.put, List.setIfInBounds_toArray, List.set_cons_zero, List.set_cons_succ]
      refine takeL (i := 13) (v := ?v74) rfl (by kernel_rfl) (by kernel_rfl) (by kernel_rfl) (fun _ _ _ h => h) (Or.inl ⟨by rfl, ?hy74⟩) (by assumption) ?rest74
      case hy74 => (intro wz hSz; (have hfz := HF.out wz hSz); go_split_ands; (first | (go_simp; done) | (go_simp; with_reducible rfl)))
      try simp only [Act.put, List.setIfInBounds_toArray, List.set_cons_zero, List.set_cons_succ]
      refine takeL (i := 14) (v := ?v75) rfl (by kernel_rfl) (by kernel_rfl) (by kernel_rfl) (fun _ _ _ h => h) (Or.inl ⟨by rfl, ?hy75⟩) (by assumption) ?rest75
      case hy75 => (intro wz hSz; (have hfz := HF.out wz hSz); go_split_ands; (first | (go_simp; done) | (go_simp; with_reducible rfl)))
      try simp only [Act.put, List.setIfInBounds_toArray, List.set_cons_zero, List.set_cons_succ]
      refine takeL (i := 15) (v := ?v76) rfl (by kernel_rfl) (by kernel_rfl) (by kernel_rfl) (fun _ _ _ h => h) (Or.inl ⟨by rfl, ?hy76⟩) (by assumption) ?rest76
      case hy76 => (intro wz hSz; (have hfz := HF.out wz hSz); go_split_ands; (first | (go_simp; done) | (go_simp; with_reducible rfl)))
      try simp only [Act.put, List.setIfInBounds_toArray, List.set_cons_zero, List.set_cons_succ]
      refine wpAnyH_done (by kernel_rfl) ?_ _
      clear hHeld
      unfold TailQ
      go_wp2_with fail
      go_ret
      exact ⟨rfl, HB'.out.trans (HB69.out.mono HB'.out.size)⟩
    · skip
      refine wp_region_but (fun w' => Below w9.heap.size w9 w') (by kernel_rfl) (by kernel_rfl) (Below.refl _ _).drew (fun hHeld => ?_)
      simp only [initL, lastL]
      have HB0 := Lib.hid hHeld
      refine takeL (i := 0) (v := ?v77) rfl (by kernel_rfl) (by kernel_rfl) (by kernel_rfl) (fun _ _ _ h => h) (Or.inl ⟨by rfl, ?hy77⟩) (by assumption) ?rest77
      case hy77 => (intro wz hSz; (have hfz := HF.out wz hSz); go_split_ands; (first | (go_simp; done) | (go_simp; with_reducible rfl)))
      try simp only [Act.put, List.setIfInBounds_toArray, List.set_cons_zero, List.set_cons_succ]
      refine takeL (i := 1) (v := ?v78) rfl (by kernel_rfl) (by kernel_rfl) (by kernel_rfl) (fun _ _ _ h => h) (Or.inl ⟨by rfl, ?hy78⟩) (by assumption) ?rest78
      case hy78 => (intro wz hSz; (have hfz := HF.out wz hSz); go_split_ands; (first | (go_simp; done) | (go_simp; with_reducible rfl)))
      try simp only [Act.put, List.setIfInBounds_toArray, List.set_cons_zero, List.set_cons_succ]
      refine takeL (i := 2) (v := ?v79) rfl (by kernel_rfl) (by kernel_rfl) (by kernel_rfl) (fun _ _ _ h => h) (Or.inl ⟨by rfl, ?hy79⟩) (by assumption) ?rest79
      case hy79 => (intro wz hSz; (have hfz := HF.out wz hSz); go_split_ands; (first | (go_simp; done) | (go_simp; with_reducible rfl)))
      try simp only [Act.put, List.setIfInBounds_toArray, List.set_cons_zero, List.set_cons_succ]
      refine takeL (i := 3) (v := ?v80) rfl (by kernel_rfl) (by kernel_rfl) (by kernel_rfl) (fun _ _ _ h => h) (Or.inl ⟨by rfl, ?hy80⟩) (by assumption) ?rest80
      case hy80 => (intro wz hSz; (have hfz := HF.out wz hSz); go_split_ands; (first | (go_simp; done) | (go_simp; with_reducible rfl)))
      try simp only [Act.put, List.setIfInBounds_toArray, List.set_cons_zero, List.set_cons_succ]
      refine takeL (i := 4) (v := ?v81) rfl (by kernel_rfl) (by kernel_rfl) (by kernel_rfl) (fun _ _ _ h => h) (Or.inl ⟨by rfl, ?hy81⟩) (by assumption) ?rest81
      case hy81 => (intro wz hSz; (have hfz := HF.out wz hSz); go_split_ands; (first | (go_simp; done) | (go_simp; with_reducible rfl)))
      try simp only [Act.put, List.setIfInBounds_toArray, List.set_cons_zero, List.set_cons_succ]
      refine takeL (i := 6) (v := ?v82) rfl (by kernel_rfl) (by kernel_rfl) (by kernel_rfl) (fun _ _ _ h => h) (Or.inl ⟨by rfl, ?hy82⟩) (by assumption) ?rest82
      case hy82 => (intro wz hSz; (have hfz := HF.out wz hSz); go_split_ands; (first | (go_simp; done) | (go_simp; with_reducible rfl)))
      try simp only [Act.put, List.setIfInBounds_toArray, List.set_cons_zero, List.set_cons_succ]
      refine takeL (i := 7) (v := ?v83) rfl (by kernel_rfl) (by kernel_rfl) (by kernel_rfl) (fun _ _ _ h => h) (Or.inl ⟨by rfl, ?hy83⟩) (by assumption) ?rest83
      case hy83 => (intro wz hSz; (have hfz := HF.out wz hSz); go_split_ands; (first | (go_simp; done) | (go_simp; with_reducible rfl)))
      try simp only [Act.put, List.setIfInBounds_toArray, List.set_cons_zero, List.set_cons_succ]
      refine wpAnyH_ready (rs := [5]) (by kernel_rfl) (by simp) ?_
      refine consL rfl (fun K hK => ?_) AllReadyH.nil
      go_simp
      refine (rule_Holds _ VA v.length vc v (HGW.out.below HB0.out (Nat.le_refl _)) (RV.out.below HB0.out (Nat.le_refl _)) SV.out _ _ _ _ _ _ _ _ _ _ _ _ _ _ _ _ _ _ _ _ _ _ _ _ (OP'.out.below HB0.out (Nat.le_refl _)) (by omega) (by omega)).mono ?_
      rintro e w184 ⟨he, hb⟩
      rw [show holdsV (opVal k (10 ^ S) (k / 10 ^ S) S (short k S).2 (k % 10 ^ S) ((short k S).1 % 10 ^ (short k S).2)) v = (false && true) from HVV.out] at he
      subst he
      have HB84 := Lib.hid (below_on HB0.out (Nat.le_refl _) hb)
      clear hb
      dsimp only
      try clear hHeld
      refine hK.out _ _ (HB84.out) (fun hHeld => ?_)
      clear hK K
      try simp only [Act.put, List.setIfInBounds_toArray, List.set_cons_zero, List.set_cons_succ]
      refine wpAnyH_ready (rs := [8]) (by kernel_rfl) (by simp) ?_
      refine consL rfl (fun K hK => ?_) AllReadyH.nil
      go_simp
      refine (rule_Holds _ XA x.length xc x (HGW.out.below HB84.out (Nat.le_refl _)) (RX'.out.below HB84.out (Nat.le_refl _)) SX.out _ _ _ _ _ _ _ _ _ _ _ _ _ _ _ _ _ _ _ _ _ _ _ _ (OP'.out.below HB84.out (Nat.le_refl _)) (by omega) (by omega)).mono ?_
      rintro e w185 ⟨he, hb⟩
      rw [show holdsV (opVal k (10 ^ S) (k / 10 ^ S) S (short k S).2 (k % 10 ^ S) ((short k S).1 % 10 ^ (short k S).2)) x = false from HHX.out] at he
      subst he
      have HB85 := Lib.hid (below_on HB84.out (Nat.le_refl _) hb)
      clear hb
      dsimp only
      try clear hHeld
      refine hK.out _ _ (HB85.out) (fun hHeld => ?_)
      clear hK K
      try simp only [Act.put, List.setIfInBounds_toArray, List.set_cons_zero, List.set_cons_succ]
      refine takeL (i := 9) (v := ?v86) rfl (by kernel_rfl) (by kernel_rfl) (by kernel_rfl) (fun _ _ _ h => h) (Or.inl ⟨by rfl, ?hy86⟩) (by assumption) ?rest86
      case hy86 => (intro wz hSz; (have hfz := HF.out wz hSz); go_split_ands; (first | (go_simp; done) | (go_simp; with_reducible rfl)))
      try simp only [Act.put, List.setIfInBounds_toArray, List.set_cons_zero, List.set_cons_succ]
      refine takeL (i := 10) (v := _) rfl (by kernel_rfl) (by kernel_rfl) (by kernel_rfl) (fun _ _ _ h => h) (Or.inr ⟨by rfl, rfl⟩) (by assumption) ?rest87
      try simp only [Act.put, List.setIfInBounds_toArray, List.set_cons_zero, List.set_cons_succ]
      refine takeL (i := 11) (v := _) rfl (by kernel_rfl) (by kernel_rfl) (by kernel_rfl) (fun _ _ _ h => h) (Or.inr ⟨by rfl, rfl⟩) (by assumption) ?rest88
      try simp only [Act.put, List.setIfInBounds_toArray, List.set_cons_zero, List.set_cons_succ]
      refine takeL (i := 12) (v := _) rfl (by kernel_rfl) (by kernel_rfl) (by kernel_rfl) (fun _ _ _ h => h) (Or.inr ⟨by rfl, rfl⟩) (by assumption) ?rest89
      try simp only [Act.put, List.setIfInBounds_toArray, List.set_cons_zero, List.set_cons_succ]
      refine takeL (i := 13) (v := ?v90) rfl (by kernel_rfl) (by kernel_rfl) (by kernel_rfl) (fun _ _ _ h => h) (Or.inl ⟨by rfl, ?hy90⟩) (by assumption) ?rest90
      case hy90 => (intro wz hSz; (have hfz := HF.out wz hSz); go_split_ands; (first | (go_simp; done) | (go_simp; with_reducible rfl)))
      try simp only [Act.put, List.setIfInBounds_toArray, List.set_cons_zero, List.set_cons_succ]
      refine takeL (i := 14) (v := ?v91) rfl (by kernel_rfl) (by kernel_rfl) (by kernel_rfl) (fun _ _ _ h => h) (Or.inl ⟨by rfl, ?hy91⟩) (by assumption) ?rest91
      case hy91 => (intro wz hSz; (have hfz := HF.out wz hSz); go_split_ands; (first | (go_simp; done) | (go_simp; with_reducible rfl)))
      try simp only [Act.put, List.setIfInBounds_toArray, List.set_cons_zero, List.set_cons_succ]
      refine takeL (i := 15) (v := ?v92) rfl (by kernel_rfl) (by kernel_rfl) (by kernel_rfl) (fun _ _ _ h => h) (Or.inl ⟨by rfl, ?hy92⟩) (by assumption) ?rest92
      case hy92 => (intro wz hSz; (have hfz := HF.out wz hSz); go_split_ands; (first | (go_simp; done) | (go_simp; with_reducible rfl)))
      try simp only [Act.put, List.setIfInBounds_toArray, List.set_cons_zero, List.set_cons_succ]
      refine wpAnyH_done (by kernel_rfl) ?_ _
      clear hHeld
      unfold TailQ
      go_wp2_with fail
      go_ret
      exact ⟨rfl, HB'.out.trans (HB85.out.mono HB'.out.size)⟩
    · skip
      refine wp_region_but (fun w' => Below w9.heap.size w9 w') (by kernel_rfl) (by kernel_rfl) (Below.refl _ _).drew (fun hHeld => ?_)
      simp only [initL, lastL]
      have HB0 := Lib.hid hHeld
      refine takeL (i := 0) (v := ?v93) rfl (by kernel_rfl) (by kernel_rfl) (by kernel_rfl) (fun _ _ _ h => h) (Or.inl ⟨by rfl, ?hy93⟩) (by assumption) ?rest93
      case hy93 => (intro wz hSz; (have hfz := HF.out wz hSz); go_split_ands; (first | (go_simp; done) | (go_simp; with_reducible rfl)))
      try simp only [Act.put, List.setIfInBounds_toArray, List.set_cons_zero, List.set_cons_succ]
      refine takeL (i := 1) (v := ?v94) rfl (by kernel_rfl) (by kernel_rfl) (by kernel_rfl) (fun _ _ _ h => h) (Or.inl ⟨by rfl, ?hy94⟩) (by assumption) ?rest94
      case hy94 => (intro wz hSz; (have hfz := HF.out wz hSz); go_split_ands; (first | (go_simp; done) | (go_simp; with_reducible rfl)))
      try simp only [Act.put, List.setIfInBounds_toArray, List.set_cons_zero, List.set_cons_succ]
      refine takeL (i := 2) (v := ?v95) rfl (by kernel_rfl) (by kernel_rfl) (by kernel_rfl) (fun _ _ _ h => h) (Or.inl ⟨by rfl, ?hy95⟩) (by assumption) ?rest95
      case hy95 => (intro wz hSz; (have hfz := HF.out wz hSz); go_split_ands; (first | (go_simp; done) | (go_simp; with_reducible rfl)))
      try simp only [Act.put, List.setIfInBounds_toArray, List.set_cons_zero, List.set_cons_succ]
      refine takeL (i := 3) (v := ?v96) rfl (by kernel_rfl) (by kernel_rfl) (by kernel_rfl) (fun _ _ _ h => h) (Or.inl ⟨by rfl, ?hy96⟩) (by assumption) ?rest96
      case hy96 => (intro wz hSz; (have hfz := HF.out wz hSz); go_split_ands; (first | (go_simp; done) | (go_simp; with_reducible rfl)))
      try simp only [Act.put, List.setIfInBounds_toArray, List.set_cons_zero, List.set_cons_succ]
      refine takeL (i := 4) (v := ?v97) rfl (by kernel_rfl) (by kernel_rfl) (by kernel_rfl) (fun _ _ _ h => h) (Or.inl ⟨by rfl, ?hy97⟩) (by assumption) ?rest97
      case hy97 => (intro wz hSz; (have hfz := HF.out wz hSz); go_split_ands; (first | (go_simp; done) | (go_simp; with_reducible rfl)))
      try simp only [Act.put, List.setIfInBounds_toArray, List.set_cons_zero, List.set_cons_succ]
      refine takeL (i := 6) (v := ?v98) rfl (by kernel_rfl) (by kernel_rfl) (by kernel_rfl) (fun _ _ _ h => h) (Or.inl ⟨by rfl, ?hy98⟩) (by assumption) ?rest98
      case hy98 => (intro wz hSz; (have hfz := HF.out wz hSz); go_split_ands; (first | (go_simp; done) | (go_simp; with_reducible rfl)))
      try simp only [Act.put, List.setIfInBounds_toArray, List.set_cons_zero, List.set_cons_succ]
      refine takeL (i := 7) (v := ?v99) rfl (by kernel_rfl) (by kernel_rfl) (by kernel_rfl) (fun _ _ _ h => h) (Or.inl ⟨by rfl, ?hy99⟩) (by assumption) ?rest99
      case hy99 => (intro wz hSz; (have hfz := HF.out wz hSz); go_split_ands; (first | (go_simp; done) | (go_simp; with_reducible rfl)))
      try simp only [Act.put, List.setIfInBounds_toArray, List.set_cons_zero, List.set_cons_succ]
      refine wpAnyH_ready (rs := [5]) (by kernel_rfl) (by simp) ?_
      refine consL rfl (fun K hK => ?_) AllReadyH.nil
      go_simp
      refine (rule_Holds _ VA v.length vc v (HGW.out.below HB0.out (Nat.le_refl _)) (RV.out.below HB0.out (Nat.le_refl _)) SV.out _ _ _ _ _ _ _ _ _ _ _ _ _ _ _ _ _ _ _ _ _ _ _ _ (OP'.out.below HB0.out (Nat.le_refl _)) (by omega) (by omega)).mono ?_
      rintro e w200 ⟨he, hb⟩
      rw [show holdsV (opVal k (10 ^ S) (k / 10 ^ S) S (short k S).2 (k % 10 ^ S) ((short k S).1 % 10 ^ (short k S).2)) v = (true && false) from HVV.out] at he
      subst he
      have HB100 := Lib.hid (below_on HB0.out (Nat.le_refl _) hb)
      clear hb
      dsimp only
      try clear hHeld
      refine hK.out _ _ (HB100.out) (fun hHeld => ?_)
      clear hK K
      try simp only [Act.put, List.setIfInBounds_toArray, List.set_cons_zero, List.set_cons_succ]
      refine wpAnyH_ready (rs := [8]) (by kernel_rfl) (by simp) ?_
      refine consL rfl (fun K hK => ?_) AllReadyH.nil
      go_simp
      refine (rule_Holds _ XA x.length xc x (HGW.out.below HB100.out (Nat.le_refl _)) (RX'.out.below HB100.out (Nat.le_refl _)) SX.out _ _ _ _ _ _ _ _ _ _ _ _ _ _ _ _ _ _ _ _ _ _ _ _ (OP'.out.below HB100.out (Nat.le_refl _)) (by omega) (by omega)).mono ?_
      rintro e w201 ⟨he, hb⟩
      rw [show holdsV (opVal k (10 ^ S) (k / 10 ^ S) S (short k S).2 (k % 10 ^ S) ((short k S).1 % 10 ^ (short k S).2)) x = true from HHX.out] at he
      subst he
      have HB101 := Lib.hid (below_on HB100.out (Nat.le_refl _) hb)
      clear hb
      dsimp only
      try clear hHeld
      refine hK.out _ _ (HB101.out) (fun hHeld => ?_)
      clear hK K
      try simp only [Act.put, List.setIfInBounds_toArray, List.set_cons_zero, List.set_cons_succ]
      refine takeL (i := 9) (v := ?v102) rfl (by kernel_rfl) (by kernel_rfl) (by kernel_rfl) (fun _ _ _ h => h) (Or.inl ⟨by rfl, ?hy102⟩) (by assumption) ?rest102
      case hy102 => (intro wz hSz; (have hfz := HF.out wz hSz); go_split_ands; (first | (go_simp; done) | (go_simp; with_reducible rfl)))
      try simp only [Act.put, List.setIfInBounds_toArray, List.set_cons_zero, List.set_cons_succ]
      refine takeL (i := 10) (v := ?v103) rfl (by kernel_rfl) (by kernel_rfl) (by kernel_rfl) (fun _ _ _ h => h) (Or.inl ⟨by rfl, ?hy103⟩) (by assumption) ?rest103
      case hy103 => (intro wz hSz; (have hfz := HF.out wz hSz); go_split_ands; (first | (go_simp; done) | (go_simp; with_reducible rfl)))
      try simp only [Act.put, List.setIfInBounds_toArray, List.set_cons_zero, List.set_cons_succ]
      refine takeL (i := 11) (v := ?v104) rfl (by kernel_rfl) (by kernel_rfl) (by kernel_rfl) (fun _ _ _ h => h) (Or.inl ⟨by rfl, ?hy104⟩) (by assumption) ?rest104
      case hy104 => (intro wz hSz; (have hfz := HF.out wz hSz); go_split_ands; (first | (go_simp; done) | (go_simp; with_reducible rfl)))
      try simp only [Act.put, List.setIfInBounds_toArray, List.set_cons_zero, List.set_cons_succ]
      refine wpAnyH_ready (rs := [12]) (by kernel_rfl) (by simp) ?_
      refine consL rfl (fun K hK => ?_) AllReadyH.nil
      go_simp
      refine (rule_Holds _ YA y.length yc y (HGW.out.below HB101.out (Nat.le_refl _)) (RY'.out.below HB101.out (Nat.le_refl _)) SY.out _ _ _ _ _ _ _ _ _ _ _ _ _ _ _ _ _ _ _ _ _ _ _ _ (OP'.out.below HB101.out (Nat.le_refl _)) (by omega) (by omega)).mono ?_
      rintro e w205 ⟨he, hb⟩
      rw [show holdsV (opVal k (10 ^ S) (k / 10 ^ S) S (short k S).2 (k % 10 ^ S) ((short k S).1 % 10 ^ (short k S).2)) y = false from HHY.out] at he
      subst he
      have HB105 := Lib.hid (below_on HB101.out (Nat.le_refl _) hb)
      clear hb
      dsimp only
      try clear hHeld
      refine hK.out _ _ (HB105.out) (fun hHeld => ?_)
      clear hK K
      try simp only [Act.put, List.setIfInBounds_toArray, List.set_cons_zero, List.set_cons_succ]
      refine takeL (i := 13) (v := ?v106) rfl (by kernel_rfl) (by kernel_rfl) (by kernel_rfl) (fun _ _ _ h => h) (Or.inl ⟨by rfl, ?hy106⟩) (by assumption) ?rest106
      case hy106 => (intro wz hSz; (have hfz := HF.out wz hSz); go_split_ands; (first | (go_simp; done) | (go_simp; with_reducible rfl)))
      try simp only [Act.put, List.setIfInBounds_toArray, List.set_cons_zero, List.set_cons_succ]
      refine takeL (i := 14) (v := ?v107) rfl (by kernel_rfl) (by kernel_rfl) (by kernel_rfl) (fun _ _ _ h => h) (Or.inl ⟨by rfl, ?hy107⟩) (by assumption) ?rest107
      case hy107 => (intro wz hSz; (have hfz := HF.out wz hSz); go_split_ands; (first | (go_simp; done) | (go_simp; with_reducible rfl)))
      try simp only [Act.put, List.setIfInBounds_toArray, List.set_cons_zero, List.set_cons_succ]
      refine takeL (i := 15) (v := ?v108) rfl (by kernel_rfl) (by kernel_rfl) (by kernel_rfl) (fun _ _ _ h => h) (Or.inl ⟨by rfl, ?hy108⟩) (by assumption) ?rest108
      case hy108 => (intro wz hSz; (have hfz := HF.out wz hSz); go_split_ands; (first | (go_simp; done) | (go_simp; with_reducible rfl)))
      try simp only [Act.put, List.setIfInBounds_toArray, List.set_cons_zero, List.set_cons_succ]
      refine wpAnyH_done (by kernel_rfl) ?_ _
      clear hHeld
      unfold TailQ
      go_wp2_with fail
      go_ret
      exact ⟨rfl, HB'.out.trans (HB105.out.mono HB'.out.size)⟩
    · skip
      refine wp_region_but (fun w' => Below w9.heap.size w9 w') (by kernel_rfl) (by kernel_rfl) (Below.refl _ _).drew (fun hHeld => ?_)
      simp only [initL, lastL]
      have HB0 := Lib.hid hHeld
      refine takeL (i := 0) (v := ?v109) rfl (by kernel_rfl) (by kernel_rfl) (by kernel_rfl) (fun _ _ _ h => h) (Or.inl ⟨by rfl, ?hy109⟩) (by assumption) ?rest109
      case hy109 => (intro wz hSz; (have hfz := HF.out wz hSz); go_split_ands; (first | (go_simp; done) | (go_simp; with_reducible rfl)))
      try simp only [Act.put, List.setIfInBounds_toArray, List.set_cons_zero, List.set_cons_succ]
      refine takeL (i := 1) (v := ?v110) rfl (by kernel_rfl) (by kernel_rfl) (by kernel_rfl) (fun _ _ _ h => h) (Or.inl ⟨by rfl, ?hy110⟩) (by assumption) ?rest110
      case hy110 => (intro wz hSz; (have hfz := HF.out wz hSz); go_split_ands; (first | (go_simp; done) | (go_simp; with_reducible rfl)))
      try simp only [Act.put, List.setIfInBounds_toArray, List.set_cons_zero, List.set_cons_succ]
      refine takeL (i := 2) (v := ?v111) rfl (by kernel_rfl) (by kernel_rfl) (by kernel_rfl) (fun _ _ _ h => h) (Or.inl ⟨by rfl, ?hy111⟩) (by assumption) ?rest111
      case hy111 => (intro wz hSz; (have hfz := HF.out wz hSz); go_split_ands; (first | (go_simp; done) | (go_simp; with_reducible rfl)))
      try simp only [Act.put, List.setIfInBounds_toArray, List.set_cons_zero, List.set_cons_succ]
      refine takeL (i := 3) (v := ?v112) rfl (by kernel_rfl) (by kernel_rfl) (by kernel_rfl) (fun _ _ _ h => h) (Or.inl ⟨by rfl, ?hy112⟩) (by assumption) ?rest112
      case hy112 => (intro wz hSz; (have hfz := HF.out wz hSz); go_split_ands; (first | (go_simp; done) | (go_simp; with_reducible rfl)))
      try simp only [Act.put, List.setIfInBounds_toArray, List.set_cons_zero, List.set_cons_succ]
      refine takeL (i := 4) (v := ?v113) rfl (by kernel_rfl) (by kernel_rfl) (by kernel_rfl) (fun _ _ _ h => h) (Or.inl ⟨by rfl, ?hy113⟩) (by assumption) ?rest113
      case hy113 => (intro wz hSz; (have hfz := HF.out wz hSz); go_split_ands; (first | (go_simp; done) | (go_simp; with_reducible rfl)))
      try simp only [Act.put, List.setIfInBounds_toArray, List.set_cons_zero, List.set_cons_succ]
      refine takeL (i := 6) (v := ?v114) rfl (by kernel_rfl) (by kernel_rfl) (by kernel_rfl) (fun _ _ _ h => h) (Or.inl ⟨by rfl, ?hy114⟩) (by assumption) ?rest114
      case hy114 => (intro wz hSz; (have hfz := HF.out wz hSz); go_split_ands; (first | (go_simp; done) | (go_simp; with_reducible rfl)))
      try simp only [Act.put, List.setIfInBounds_toArray, List.set_cons_zero, List.set_cons_succ]
      refine takeL (i := 7) (v := ?v115) rfl (by kernel_rfl) (by kernel_rfl) (by kernel_rfl) (fun _ _ _ h => h) (Or.inl ⟨by rfl, ?hy115⟩) (by assumption) ?rest115
      case hy115 => (intro wz hSz; (have hfz := HF.out wz hSz); go_split_ands; (first | (go_simp; done) | (go_simp; with_reducible rfl)))
      try simp only [Act.put, List.setIfInBounds_toArray, List.set_cons_zero, List.set_cons_succ]
      refine wpAnyH_ready (rs := [5]) (by kernel_rfl) (by simp) ?_
      refine consL rfl (fun K hK => ?_) AllReadyH.nil
      go_simp
      refine (rule_Holds _ VA v.length vc v (HGW.out.below HB0.out (Nat.le_refl _)) (RV.out.below HB0.out (Nat.le_refl _)) SV.out _ _ _ _ _ _ _ _ _ _ _ _ _ _ _ _ _ _ _ _ _ _ _ _ (OP'.out.below HB0.out (Nat.le_refl _)) (by omega) (by omega)).mono ?_
      rintro e w216 ⟨he, hb⟩
      rw [show holdsV (opVal k (10 ^ S) (k / 10 ^ S) S (short k S).2 (k % 10 ^ S) ((short k S).1 % 10 ^ (short k S).2)) v = (true && true) from HVV.out] at he
      subst he
      have HB116 := Lib.hid (below_on HB0.out (Nat.le_refl _) hb)
      clear hb
      dsimp only
      try clear hHeld
      refine hK.out _ _ (HB116.out) (fun hHeld => ?_)
      clear hK K
      try simp only [Act.put, List.setIfInBounds_toArray, List.set_cons_zero, List.set_cons_succ]
      refine wpAnyH_ready (rs := [8]) (by kernel_rfl) (by simp) ?_
      refine consL rfl (fun K hK => ?_) AllReadyH.nil
      go_simp
      refine (rule_Holds _ XA x.length xc x (HGW.out.below HB116.out (Nat.le_refl _)) (RX'.out.below HB116.out (Nat.le_refl _)) SX.out _ _ _ _ _ _ _ _ _ _ _ _ _ _ _ _ _ _ _ _ _ _ _ _ (OP'.out.below HB116.out (Nat.le_refl _)) (by omega) (by omega)).mono ?_
      rintro e w217 ⟨he, hb⟩
      rw [show holdsV (opVal k (10 ^ S) (k / 10 ^ S) S (short k S).2 (k % 10 ^ S) ((short k S).1 % 10 ^ (short k S).2)) x = true from HHX.out] at he
      subst he
      have HB117 := Lib.hid (below_on HB116.out (Nat.le_refl _) hb)
      clear hb
      dsimp only
      try clear hHeld
      refine hK.out _ _ (HB117.out) (fun hHeld => ?_)
      clear hK K
      try simp only [Act.put, List.setIfInBounds_toArray, List.set_cons_zero, List.set_cons_succ]
      refine takeL (i := 9) (v := ?v118) rfl (by kernel_rfl) (by kernel_rfl) (by kernel_rfl) (fun _ _ _ h => h) (Or.inl ⟨by rfl, ?hy118⟩) (by assumption) ?rest118
      case hy118 => (intro wz hSz; (have hfz := HF.out wz hSz); go_split_ands; (first | (go_simp; done) | (go_simp; with_reducible rfl)))
      try simp only [Act.put, List.setIfInBounds_toArray, List.set_cons_zero, List.set_cons_succ]
      refine takeL (i := 10) (v := ?v119) rfl (by kernel_rfl) (by kernel_rfl) (by kernel_rfl) (fun _ _ _ h => h) (Or.inl ⟨by rfl, ?hy119⟩) (by assumption) ?rest119
      case hy119 => (intro wz hSz; (have hfz := HF.out wz hSz); go_split_ands; (first | (go_simp; done) | (go_simp; with_reducible rfl)))
      try simp only [Act.put, List.setIfInBounds_toArray, List.set_cons_zero, List.set_cons_succ]
      refine takeL (i := 11) (v := ?v120) rfl (by kernel_rfl) (by kernel_rfl) (by kernel_rfl) (fun _ _ _ h => h) (Or.inl ⟨by rfl, ?hy120⟩) (by assumption) ?rest120
      case hy120 => (intro wz hSz; (have hfz := HF.out wz hSz); go_split_ands; (first | (go_simp; done) | (go_simp; with_reducible rfl)))
      try simp only [Act.put, List.setIfInBounds_toArray, List.set_cons_zero, List.set_cons_succ]
      refine wpAnyH_ready (rs := [12]) (by kernel_rfl) (by simp) ?_
      refine consL rfl (fun K hK => ?_) AllReadyH.nil
      go_simp
      refine (rule_Holds _ YA y.length yc y (HGW.out.below HB117.out (Nat.le_refl _)) (RY'.out.below HB117.out (Nat.le_refl _)) SY.out _ _ _ _ _ _ _ _ _ _ _ _ _ _ _ _ _ _ _ _ _ _ _ _ (OP'.out.below HB117.out (Nat.le_refl _)) (by omega) (by omega)).mono ?_
      rintro e w221 ⟨he, hb⟩
      rw [show holdsV (opVal k (10 ^ S) (k / 10 ^ S) S (short k S).2 (k % 10 ^ S) ((short k S).1 % 10 ^ (short k S).2)) y = true from HHY.out] at he
      subst he
      have HB121 := Lib.hid (below_on HB117.out (Nat.le_refl _) hb)
      clear hb
      dsimp only
      try clear hHeld
      refine hK.out _ _ (HB121.out) (fun hHeld => ?_)
      clear hK K
      try simp only [Act.put, List.setIfInBounds_toArray, List.set_cons_zero, List.set_cons_succ]
      refine takeL (i := 13) (v := ?v122) rfl (by kernel_rfl) (by kernel_rfl) (by kernel_rfl) (fun _ _ _ h => h) (Or.inl ⟨by rfl, ?hy122⟩) (by assumption) ?rest122
      case hy122 => (intro wz hSz; (have hfz := HF.out wz hSz); go_split_ands; (first | (go_simp; done) | (go_simp; with_reducible rfl)))
      try simp only [Act.put, List.setIfInBounds_toArray, List.set_cons_zero, List.set_cons_succ]
      refine takeL (i := 14) (v := ?v123) rfl (by kernel_rfl) (by kernel_rfl) (by kernel_rfl) (fun _ _ _ h => h) (Or.inl ⟨by rfl, ?hy123⟩) (by assumption) ?rest123
      case hy123 => (intro wz hSz; (have hfz := HF.out wz hSz); go_split_ands; (first | (go_simp; done) | (go_simp; with_reducible rfl)))
      try simp only [Act.put, List.setIfInBounds_toArray, List.set_cons_zero, List.set_cons_succ]
      refine takeL (i := 15) (v := ?v124) rfl (by kernel_rfl) (by kernel_rfl) (by kernel_rfl) (fun _ _ _ h => h) (Or.inl ⟨by rfl, ?hy124⟩) (by assumption) ?rest124
      case hy124 => (intro wz hSz; (have hfz := HF.out wz hSz); go_split_ands; (first | (go_simp; done) | (go_simp; with_reducible rfl)))
      try simp only [Act.put, List.setIfInBounds_toArray, List.set_cons_zero, List.set_cons_succ]
      refine wpAnyH_done (by kernel_rfl) ?_ _
      clear hHeld
      unfold TailQ
      go_wp2_with fail
      go_ret
      exact ⟨rfl, HB'.out.trans (HB121.out.mono HB'.out.size)⟩
end Go.Proofs.YtdgleeglndcjhaaGreatDoor
