/- Package cubitlaw20: heavy; law PluralIs. -/
import Derived.Test.YtdgleeglndcjhaaGreatDoorLb
namespace Go.Proofs.YtdgleeglndcjhaaGreatDoor
open Go.RowKit
set_option linter.unusedVariables false
set_option linter.unusedSimpArgs false

def Light (L : List Rw) : Prop := L.length ≤ 60 ∧ ∀ r ∈ L, r.2.length ≤ 30 ∧ ∀ t ∈ r.2, t.length ≤ 120
def HeavyPost (w : World) (L : List Rw) (e : Ending) (w' : World) : Prop := (e = .returned (.bool true) ∨ (e = .returned (.bool false) ∧ Light L)) ∧ Below w.heap.size w w'
set_option maxRecDepth 100000 in
set_option maxHeartbeats 8000000 in
theorem law_heavy (w : World) (A : Option Addr) (n c : Nat) (L : List Rw) (h : RowsIs w A n c L) : Calls Tryz.prog 37 #[.slice A n c] w (HeavyPost w L) := by
  obtain rfl : n = L.length := h.len
  have HX := Lib.hid h
  clear h
  by_cases h60 : 60 < L.length
  · have hI : (60 : Int) < (L.length : Int) := by omega
    go_enter Tryz.func37, Tryz.ntmps37
    go_wp2_with fail
    go_ret
    exact ⟨.inl rfl, Below.refl _ _⟩
  have hI : ¬ (60 : Int) < (L.length : Int) := by omega
  have hl60 : L.length ≤ 60 := by omega
  go_enter Tryz.func37, Tryz.ntmps37
  go_wp2_with fail
  go_loopw [3] (fun i wr => ∃ k : Nat, k ≤ L.length ∧ i = .int .i64 k ∧ (∀ r ∈ L.take k, r.2.length ≤ 30 ∧ ∀ t ∈ r.2, t.length ≤ 120) ∧ Below w.heap.size w wr) (fun i _ => L.length - (intOf i).toNat)
  case atStart => exact ⟨0, Nat.zero_le _, rfl, fun r hr => (by simp at hr), Below.refl _ _⟩
  case round =>
    obtain ⟨k, hk, rfl, hall, hb⟩ := hrel
    obtain ⟨wo, rfl⟩ : ∃ wo : World, wo = wr := ⟨_, rfl⟩
    have HALL := Lib.hid hall
    have HB := Lib.hid hb
    clear hall hb
    by_cases hlt : k < L.length
    case neg =>
      have hkI : ¬ (k : Int) < (L.length : Int) := by omega
      have hfin : Light L := ⟨hl60, by have := HALL.out; rw [List.take_of_length_le (by omega)] at this; exact this⟩
      have HF := Lib.hid hfin
      clear hfin
      go_wp2_with fail
      go_ret
      exact ⟨.inr ⟨rfl, HF.out⟩, HB.out⟩
    obtain ⟨b, o, rfl, hc⟩ := HX.out.at (by omega)
    obtain ⟨⟨ln, ws⟩, hx⟩ : ∃ x, L[k]? = some x := ⟨L[k], List.getElem?_eq_getElem hlt⟩
    obtain ⟨WA, wn, wc, hS, c0, c1⟩ := hc k _ hx
    dsimp only at hS c0
    obtain rfl : wn = ws.length := hS.len
    have HS := Lib.hid hS
    have HXX := Lib.hid hx
    have hkI : (k : Int) < (L.length : Int) := by omega
    have hk0 : (0 : Int) ≤ (k : Int) := by omega
    have HM : Hid (∀ w', Below w.heap.size w w' → w'.cell? ⟨b, o + k * 2 + 1, none⟩ = some (.slice WA ws.length wc)) := fun w' h => (h.cell (World.block_lt_of_cell? w _ c1)).trans c1
    have q1 := HM.out wo HB.out
    clear hc hS hx c0 c1
    by_cases h30 : 30 < ws.length
    · have hI3 : (30 : Int) < (ws.length : Int) := by omega
      go_wp2_with fail
      go_ret
      exact ⟨.inl rfl, HB.out⟩
    have hI3 : ¬ (30 : Int) < (ws.length : Int) := by omega
    have hw30 : ws.length ≤ 30 := by omega
    go_wp2_with fail
    go_loopw [4] (fun i wr => ∃ j : Nat, j ≤ ws.length ∧ i = .int .i64 j ∧ (∀ t ∈ ws.take j, t.length ≤ 120) ∧ Below w.heap.size w wr) (fun i _ => ws.length - (intOf i).toNat)
    case atStart => exact ⟨0, Nat.zero_le _, rfl, fun r hr => (by simp at hr), HB.out⟩
    case round =>
      obtain ⟨j, hj, rfl, hall2, hb2⟩ := hrel
      obtain ⟨wi, rfl⟩ : ∃ wi : World, wi = wr := ⟨_, rfl⟩
      have HALL2 := Lib.hid hall2
      have HB2 := Lib.hid hb2
      clear hall2 hb2 q1
      have q1 := HM.out wi HB2.out
      by_cases hjl : j < ws.length
      case neg =>
        have hjI : ¬ (j : Int) < (ws.length : Int) := by omega
        go_wp2_with fail
        go_roundw
        case rel =>
          refine ⟨k + 1, by omega, by go_num, fun r hr => ?_, HB2.out⟩
          rw [List.take_add_one, HXX.out] at hr
          rcases List.mem_append.1 hr with h | h
          · exact HALL.out r h
          · obtain rfl : r = (ln, ws) := by simpa using h
            exact ⟨hw30, by have := HALL2.out; rw [List.take_of_length_le (by omega)] at this; exact this⟩
        case measure => simp [intOf]; omega
      obtain ⟨sb, so, rfl, hsc⟩ := (HS.out.below HB2.out (Nat.le_refl _)).at (by omega)
      obtain ⟨t, ht⟩ : ∃ t, ws[j]? = some t := ⟨ws[j], List.getElem?_eq_getElem hjl⟩
      have q2 := hsc j t ht
      have HT := Lib.hid ht
      have hjI : (j : Int) < (ws.length : Int) := by omega
      have hj0 : (0 : Int) ≤ (j : Int) := by omega
      clear hsc ht
      by_cases h120 : 120 < t.length
      · have hI4 : (120 : Int) < (t.length : Int) := by omega
        go_wp2_with fail
        go_ret
        exact ⟨.inl rfl, HB2.out⟩
      · have hI4 : ¬ (120 : Int) < (t.length : Int) := by omega
        go_wp2_with fail
        go_roundw
        case rel =>
          refine ⟨j + 1, by omega, by go_num, fun r hr => ?_, HB2.out⟩
          rw [List.take_add_one, HT.out] at hr
          rcases List.mem_append.1 hr with h | h
          · exact HALL2.out r h
          · obtain rfl : r = t := by simpa using h
            omega
        case measure => simp [intOf]; omega

set_option exponentiation.threshold 5000 in
theorem decK_lt2 {b : Bool} {l : List Nat} {sc : Int} (hw : Wd l) (hl : l.length ≤ 10) : decK b l sc < 2 ^ (32 * 10) := by
  unfold decK
  split
  · refine Nat.lt_of_lt_of_le (val_lt l hw) ?_
    rw [show (4294967296 : Nat) = 2 ^ 32 from rfl, ← Nat.pow_mul]
    exact Nat.pow_le_pow_right (by omega) (by omega)
  · exact Nat.pow_pos (by omega)
/-- A store ahead of the plurals leaves them. -/
theorem PlW.far {w : World} {gp : Nat} {m : PMap} (h : PlW w gp m) (g i : Nat) (u : Value) (hg : g + 1 < gp) : PlW (w.setCell ⟨g, i, none⟩ u) gp m := by
  obtain ⟨gm, n, W, f, es, h1, h2, h3, h4, h5⟩ := h
  have hgm := h2.lt
  have hset : ∀ b, b ≠ g → (w.setCell ⟨g, i, none⟩ u).heap[b]? = w.heap[b]? := fun b hb => Below.heap_setCell _ _ _ _ hb
  have hgr : w.grownBy (w.setCell ⟨g, i, none⟩ u) (some g) := ⟨rfl, rfl, rfl, by simp, fun b _ hb => hset b (fun e => hb (by rw [e]))⟩
  have hsz : w.heap.size ≤ (w.setCell ⟨g, i, none⟩ u).heap.size := by simp
  have hW : g < W.heap.size := by omega
  have hsw : (W.setCell ⟨g, i, none⟩ u).heap.size = W.heap.size := by simp
  refine ⟨gm, n, W.setCell ⟨g, i, none⟩ u, f, es, ?_, ⟨h2.map.kept hgr (fun e => by cases e; omega), by rw [hsw]; exact hgm, ?_, fun k => ?_, h2.apart, fun k e he => ?_, h2.few⟩, h3, h4, h5⟩
  · have hne : gp ≠ g := by omega
    rw [← h1]
    exact hgr.cell_far ⟨gp, 0, none⟩ (World.block_lt_of_cell? w _ h1) (fun e => hne (by simpa using e))
  · have h6 := h2.gr
    refine ⟨h6.os, h6.tape, h6.output, by rw [hsw]; exact Nat.le_trans h6.size hsz, fun b hb hne => ?_⟩
    rw [hsw] at hb
    by_cases e : b = g
    · subst e
      have := h6.block b hb hne
      simp only [World.setCell, Array.getElem?_modify, if_true, this]
    · rw [hset b e, Below.heap_setCell _ _ _ _ e]
      exact h6.block b hb hne
  · rw [hsw]
    exact (h2.row k).kept hgr (by
      cases e : (f k).ownBlock with
      | none => exact .inl rfl
      | some j => exact .inr (by have := (World.ownsRow.lt (h2.row k) j e).1; simp; omega))
  · rw [hsw]
    exact (h2.rule k e he).low hsz fun b hb _ => hset b (by omega)
theorem sel_in (m : PMap) (lang : Bs) (val : Nat → Nat × Nat) : selectP m lang val ∈ ofP m lang := by
  unfold selectP ofP
  cases h : (m lang).find? (fun e => holdsV val e.2) with
  | none => simp
  | some e => exact List.mem_append.2 (.inl (List.mem_map.2 ⟨e, List.mem_of_find?_eq_some h, rfl⟩))
theorem cat_other : catP wOther = true := by decide
theorem sel_cat {m : PMap} (hM : GoodM m) (lang : Bs) (val : Nat → Nat × Nat) : catP (selectP m lang val) = true := by
  unfold selectP
  cases h : (m lang).find? (fun e => holdsV val e.2) with
  | none => exact cat_other
  | some e => exact hM.cat lang e (List.mem_of_find?_eq_some h)
theorem goodD_neg {b : Bool} {l : List Nat} {sc : Int} (h : goodD b l sc = true) : goodD false l sc = true := by
  unfold goodD at h ⊢
  simp only [Bool.and_eq_true, decide_eq_true_eq] at h ⊢
  exact ⟨h.1, h.2.1, h.2.2.1, by simp⟩

set_option maxRecDepth 100000 in
set_option maxHeartbeats 32000000 in
theorem law_PluralIs (w : World) (RA : Option Addr) (rn rc : Nat) (L : List Rw) (lang : Bs) (b : Bool) (A : Option Addr) (n c : Nat) (l : List Nat) (sc : Int) (hG : GW w) (hR : RowsIs w RA rn rc L) (hlang : lang.length ≤ maxLen) (h : RL w (.slice A n c) l) :
    Calls Tryz.prog 12 #[.slice RA rn rc, .string ⟨lang.toArray⟩, .agg #[.bool b, .slice A n c, .int .i64 sc]] w fun e w' => e = .returned (.bool true) ∧ Below w.heap.size w w' := by
  have HG := Lib.hid hG
  have HR := Lib.hid hR
  have HX := Lib.hid h
  obtain rfl : n = l.length := by obtain ⟨A', c', h1, -⟩ := h.form; exact (Value.slice.inj h1).2.1
  clear hG hR h
  go_enter Tryz.func12, Tryz.ntmps12
  go_upto_region 1 with fail
  refine wp_letter (fun w1 => Blk w1 w.heap.size 26 [.bool b, .slice A l.length c, .int .i64 sc] ∧ Below w.heap.size w w1) ⟨Blk.made _ 26 _ _ _ rfl rfl, (Below.refl _ _).alloc (Nat.le_refl _) _⟩ ?_
  rintro w1 ⟨y1, y2⟩
  have B1 := Lib.hid y1
  have HB1 := Lib.hid y2
  obtain ⟨g5, hg5⟩ : ∃ g5, w.heap.size = g5 := ⟨_, rfl⟩
  have HG5 := Lib.hid hg5
  rw [hg5] at B1
  try rw [hg5]
  clear y1 y2 hg5
  go_wp2_with fail
  refine (law_awake20 w1 (HG.out.below HB1.out (Nat.le_refl _))).mono ?_
  rintro e w2 ⟨rfl, hb⟩
  have B2 := Lib.hid (B1.out.below hb B1.out.lt)
  have HB2 := Lib.hid (HB1.out.trans (hb.mono HB1.out.size))
  clear hb B1 HB1
  dsimp only
  go_wp2_with fail
  refine (law_heavy w2 RA rn rc L (HR.out.below HB2.out (Nat.le_refl _))).mono ?_
  rintro e w3 ⟨he, hb⟩
  have B3 := Lib.hid (B2.out.below hb B2.out.lt)
  have HB3 := Lib.hid (HB2.out.trans (hb.mono HB2.out.size))
  clear hb B2 HB2
  have k0 := B3.out.cell 0
  have k1 := B3.out.cell 1
  have k2 := B3.out.cell 2
  simp only [List.getElem?_cons_zero, List.getElem?_cons_succ] at k0 k1 k2
  rcases he with rfl | ⟨rfl, hlight⟩
  · dsimp only
    go_wp2_with fail
    go_ret
    exact ⟨rfl, HB3.out⟩
  have HLT := Lib.hid hlight
  clear hlight
  dsimp only
  by_cases h10 : 10 < l.length
  · have hI : (10 : Int) < (l.length : Int) := by omega
    go_wp2_with fail
    go_ret
    exact ⟨rfl, HB3.out⟩
  have hI : ¬ (10 : Int) < (l.length : Int) := by omega
  have hl10 : l.length ≤ 10 := by omega
  go_wp2_with fail
  refine (dec_Good w3 b A l.length c l sc (HX.out.below HB3.out (Nat.le_refl _)) (by omega)).mono ?_
  rintro e w4 ⟨rfl, hb⟩
  have B4 := Lib.hid (B3.out.below hb B3.out.lt)
  have HB4 := Lib.hid (HB3.out.trans (hb.mono HB3.out.size))
  clear hb B3 HB3 k0 k1 k2
  rcases Bool.eq_false_or_eq_true (goodD b l sc) with hgd | hgd
  case inr =>
    rw [hgd]
    clear hgd
    dsimp only
    go_wp2_with fail
    go_ret
    exact ⟨rfl, HB4.out⟩
  rw [hgd]
  have HGD := Lib.hid hgd
  clear hgd
  dsimp only
  go_wp2_with fail
  refine (plural_Load w4 RA rn rc L (HG.out.below HB4.out (Nat.le_refl _)) (HR.out.below HB4.out (Nat.le_refl _)) (by have := HLT.out.1; omega) (fun r hr => ⟨by have := (HLT.out.2 r hr).1; omega, fun t ht => by have := (HLT.out.2 r hr).2 t ht; omega⟩)).mono ?_
  rintro e w5 ⟨hc, hb⟩
  have hs4 := HB4.out.size
  have h54 := B4.out.lt
  have B5 := Lib.hid (B4.out.below hb B4.out.lt)
  have HB5 := Lib.hid (HB4.out.trans (hb.mono HB4.out.size))
  clear hb B4 HB4
  rcases hc with ⟨hne, rfl⟩ | ⟨-, gp, rfl, hP, hgp⟩
  · generalize (loadAll L).1 = cd at *
    generalize (loadAll L).2.1 = ln at *
    have hcI : (((cd : Nat) : Int) != 0) = true := by simp only [bne, Bool.not_eq_true', beq_eq_false_iff_ne]; omega
    clear hne
    dsimp only
    go_wp2_with fail
    go_ret
    exact ⟨rfl, HB5.out⟩
  obtain ⟨m, hm⟩ : ∃ m, (loadAll L).2.2 = m := ⟨_, rfl⟩
  have HM := goodM_all L
  rw [hm] at hP HM
  have HP5 := Lib.hid hP
  have HGP : Hid (g5 + 1 < gp) := by have := hgp; exact Lib.hid (by omega)
  have GM := Lib.hid HM
  obtain ⟨q, hq⟩ : ∃ q, q = 32 * 10 := ⟨_, rfl⟩
  have HK : Hid (decK b l sc < 2 ^ q) := by rw [hq]; exact decK_lt2 HX.out.2 hl10
  have HKF : Hid (decK false l sc = decK b l sc ∧ decS false l sc = decS b l sc) := by
    unfold decK decS
    rw [HGD.out, goodD_neg HGD.out]
    exact Lib.hid ⟨rfl, rfl⟩
  clear hP HM hm
  have k0 := B5.out.cell 0
  have k1 := B5.out.cell 1
  have k2 := B5.out.cell 2
  simp only [List.getElem?_cons_zero, List.getElem?_cons_succ] at k0 k1 k2
  dsimp only
  go_wp2_with fail
  refine (plural_Select w5 gp m lang b A l.length c l sc q (HG.out.below HB5.out (Nat.le_refl _)) HP5.out (GM.out.small lang) hlang (HX.out.below HB5.out (Nat.le_refl _)) (by omega) HK.out (by omega) (by omega)).mono ?_
  obtain ⟨t, ht⟩ : ∃ t, selectP m lang (ofVal (decK b l sc) (decS b l sc)) = t := ⟨_, rfl⟩
  have HIN := Lib.hid (sel_in m lang (ofVal (decK b l sc) (decS b l sc)))
  have HCT := Lib.hid (sel_cat GM.out lang (ofVal (decK b l sc) (decS b l sc)))
  rw [ht] at HIN HCT ⊢
  have HSEL := Lib.hid ht
  clear ht
  rintro e w6 ⟨rfl, hb⟩
  have B6 := Lib.hid (B5.out.below hb B5.out.lt)
  have HB6 := Lib.hid (HB5.out.trans (hb.mono HB5.out.size))
  have HP6 := Lib.hid (HP5.out.below hb)
  clear hb B5 HB5 HP5 k0 k1 k2
  dsimp only
  go_wp2_with fail
  refine (plural_Of w6 gp m lang HP6.out hlang).mono ?_
  have hos : (ofP m lang).length ≤ 1001 := by unfold ofP; have := HP6.out.few lang; simp; omega
  generalize ofP m lang = os at *
  rintro e w7 ⟨v, rfl, hv, hb⟩
  obtain ⟨VA, vn, vc, rfl, hS⟩ := hv.strs
  obtain rfl : vn = os.length := hS.len
  have HS := Lib.hid hS
  have B7 := Lib.hid (B6.out.below hb B6.out.lt)
  have HB7 := Lib.hid (HB6.out.trans (hb.mono HB6.out.size))
  have HP7 := Lib.hid (HP6.out.below hb)
  clear hb B6 HB6 HP6 hv hS
  dsimp only
  go_wp2_with fail
  go_loopw [11, 13] (fun th i wr => ∃ j : Nat, j ≤ os.length ∧ i = .int .i64 j ∧ th = .bool (decide (t ∈ os.take j)) ∧ Below w7.heap.size w7 wr) (fun _ i _ => os.length - (intOf i).toNat)
  case atStart => exact ⟨0, Nat.zero_le _, rfl, by simp, Below.refl _ _⟩
  case round =>
    obtain ⟨j, hj, rfl, rfl, hb⟩ := hrel
    obtain ⟨wo, rfl⟩ : ∃ wo : World, wo = wr := ⟨_, rfl⟩
    have HB := Lib.hid hb
    clear hb
    by_cases hlt : j < os.length
    · obtain ⟨sb, so, rfl, hsc⟩ := (HS.out.below HB.out (Nat.le_refl _)).at (by omega)
      obtain ⟨x, hx⟩ : ∃ x, os[j]? = some x := ⟨os[j], List.getElem?_eq_getElem hlt⟩
      have q0 := hsc j x hx
      have HTK : Hid (os.take (j + 1) = os.take j ++ [x]) := by rw [List.take_add_one, hx]; exact Lib.hid rfl
      have hjI : (j : Int) < (os.length : Int) := by omega
      have hj0 : (0 : Int) ≤ (j : Int) := by omega
      clear hsc hx
      by_cases hin : t ∈ os.take j
      · have hind : decide (t ∈ os.take j) = true := decide_eq_true hin
        have HN : Hid (decide (t ∈ os.take (j + 1)) = true) := by rw [HTK.out]; exact Lib.hid (by simp [hin])
        rw [hind]
        clear hind hin
        go_wp2_with fail
        go_roundw
        case rel => exact ⟨j + 1, by omega, by go_num, by rw [HN.out], HB.out⟩
        case measure => simp [intOf]; omega
      · have hind : decide (t ∈ os.take j) = false := decide_eq_false hin
        rw [hind]
        by_cases hxt : x = t
        · have hte : (x == t) = true := by simpa using hxt
          have HN : Hid (decide (t ∈ os.take (j + 1)) = true) := by rw [HTK.out]; exact Lib.hid (by simp [hxt])
          clear hind hin hxt
          go_wp2_with fail
          go_roundw
          case rel => exact ⟨j + 1, by omega, by go_num, by rw [HN.out], HB.out⟩
          case measure => simp [intOf]; omega
        · have hte : (x == t) = false := by simpa using hxt
          have HN : Hid (decide (t ∈ os.take (j + 1)) = false) := by rw [HTK.out]; exact Lib.hid (decide_eq_false (by simp [hin]; exact fun e => hxt e.symm))
          clear hind hin hxt
          go_wp2_with fail
          go_roundw
          case rel => exact ⟨j + 1, by omega, by go_num, by rw [HN.out], HB.out⟩
          case measure => simp [intOf]; omega
    have hjI : ¬ (j : Int) < (os.length : Int) := by omega
    have hth : decide (t ∈ os.take j) = true := by rw [List.take_of_length_le (by omega)]; exact decide_eq_true HIN.out
    rw [hth]
    clear hth
    have B8 := B7.out.below HB.out B7.out.lt
    have HB8 := Lib.hid B8
    have HBo := Lib.hid (HB7.out.trans (HB.out.mono HB7.out.size))
    have HPo := Lib.hid (HP7.out.below HB.out)
    have k0 := B8.cell 0
    have f0 := B8.frozen 0
    simp only [List.getElem?_cons_zero] at k0
    clear B8
    go_upto_region 16 with fail
    refine wp_letter (fun w9 => Blk w9 g5 26 [.bool false, .slice A l.length c, .int .i64 sc] ∧ PlW w9 gp m ∧ Below w.heap.size w w9) ⟨HB8.out.put 0 (.bool false), HPo.out.far g5 0 _ (by have := HGP.out; omega), HBo.out.setCell (by have := HG5.out; simp; omega) _⟩ ?_
    rintro w9 ⟨y1, y2, y3⟩
    have HP9 := Lib.hid y2
    have HB9 := Lib.hid y3
    have k0 := y1.cell 0
    have k1 := y1.cell 1
    have k2 := y1.cell 2
    simp only [List.getElem?_cons_zero, List.getElem?_cons_succ] at k0 k1 k2
    have Y1 := Lib.hid y1
    clear y1 y2 y3 HBo HPo HB8
    go_wp2_with fail
    refine (plural_Category w9 t).mono ?_
    rw [HCT.out]
    rintro e w10 ⟨rfl, hb⟩
    have HP10 := Lib.hid (HP9.out.below hb)
    have HB10 := Lib.hid (HB9.out.trans (hb.mono HB9.out.size))
    have Y2 := Y1.out.below hb Y1.out.lt
    clear hb k0 k1 k2
    have k0 := Y2.cell 0
    have k1 := Y2.cell 1
    have k2 := Y2.cell 2
    simp only [List.getElem?_cons_zero, List.getElem?_cons_succ] at k0 k1 k2
    clear Y2
    dsimp only
    go_wp2_with fail
    refine (plural_Select w10 gp m lang false A l.length c l sc q (HG.out.below HB10.out (Nat.le_refl _)) HP10.out (GM.out.small lang) hlang (HX.out.below HB10.out (Nat.le_refl _)) (by omega) (by rw [HKF.out.1]; exact HK.out) (by omega) (by omega)).mono ?_
    rw [HKF.out.1, HKF.out.2, HSEL.out]
    rintro e w11 ⟨rfl, hb⟩
    have HB11 := Lib.hid (HB10.out.trans (hb.mono HB10.out.size))
    have hte : (t == t) = true := by simp
    clear hb k0 k1 k2
    dsimp only
    go_wp2_with fail
    go_ret
    exact ⟨by simp, HB11.out⟩
theorem law_PluralIsS (w : World) (RA : Option Addr) (rn rc : Nat) (L : List Rw) (s : ByteArray) (b : Bool) (A : Option Addr) (n c : Nat) (l : List Nat) (sc : Int) (hG : GW w) (hR : RowsIs w RA rn rc L) (hs : s.size ≤ maxLen) (h : RL w (.slice A n c) l) :
    Calls Tryz.prog 12 #[.slice RA rn rc, .string s, .agg #[.bool b, .slice A n c, .int .i64 sc]] w fun e w' => e = .returned (.bool true) ∧ Below w.heap.size w w' := by
  obtain ⟨p, rfl⟩ : ∃ p : Bs, s = ⟨p.toArray⟩ := ⟨s.data.toList, by cases s; simp⟩
  have hp : p.length ≤ maxLen := by
    have h1 : p.toArray.size ≤ maxLen := hs
    simpa using h1
  exact law_PluralIs w RA rn rc L p b A n c l sc hG hR hp h
end Go.Proofs.YtdgleeglndcjhaaGreatDoor
