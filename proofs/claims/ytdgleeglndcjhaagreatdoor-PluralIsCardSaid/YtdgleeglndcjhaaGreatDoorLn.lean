/- Package plural: row. -/
import Derived.Test.YtdgleeglndcjhaaGreatDoorLm
import Derived.Test.YtdgleeglndcjhaaGreatDoorGs
namespace Go.Proofs.YtdgleeglndcjhaaGreatDoor
open Go.RowKit
set_option linter.unusedVariables false
set_option linter.unusedSimpArgs false

theorem up_cell {W w : World} {gm b o : Nat} {u : Value} (hg : W.grownBy w (some gm)) (hnc : ∀ o, W.cell? ⟨gm, o, none⟩ = none) (h : W.cell? ⟨b, o, none⟩ = some u) : w.cell? ⟨b, o, none⟩ = some u :=
  (hg.cell_far ⟨b, o, none⟩ (World.block_lt_of_cell? W _ h) (fun e => by
    have e' : b = gm := by simpa using e
    rw [e', hnc] at h; cases h)).trans h
theorem StrsAre.up {W w : World} {gm : Nat} {A : Option Addr} {n c : Nat} {ws : List Bs} (h : StrsAre W A n c ws) (hg : W.grownBy w (some gm)) (hnc : ∀ o, W.cell? ⟨gm, o, none⟩ = none) : StrsAre w A n c ws := by
  obtain ⟨A', c', h1, h2, h3, h4⟩ := h
  refine ⟨A', c', h1, h2, h3, fun hp => ?_⟩
  obtain ⟨b, o, h5, h6⟩ := h4 hp
  exact ⟨b, o, h5, fun j x hx => up_cell hg hnc (h6 j x hx)⟩
theorem StrsAre.tail {w : World} {b o n c : Nat} {ws : List Bs} (h : StrsAre w (some ⟨b, o, none⟩) n c ws) (k : Nat) (hk : k ≤ ws.length) : StrsAre w (some ⟨b, o + k, none⟩) (ws.length - k) (c - k) (ws.drop k) := by
  obtain ⟨A', c', h1, h2, h3, h4⟩ := h
  obtain ⟨rfl, rfl, rfl⟩ := Value.slice.inj h1
  refine ⟨some ⟨b, o + k, none⟩, c - k, by rw [List.length_drop], by rw [List.length_drop]; omega, by simp, fun hp => ⟨b, o + k, rfl, fun j x hx => ?_⟩⟩
  obtain ⟨b', o', e, h6⟩ := h4 (by simp at hp ⊢; omega)
  cases e
  have := h6 (k + j) x (by simpa [List.getElem?_map, List.getElem?_drop] using hx)
  rw [← Nat.add_assoc] at this
  exact this

theorem PlI.at {W w : World} {gm n : Nat} {f : Bs → Value} {es : Bs → List Pe} (h : PlI W w gm n f es) (k : Bs) {A : Option Addr} {m c : Nat} (hv : f k = .slice A m c) (h0 : 0 < (es k).length) :
    ∃ b o, A = some ⟨b, o, none⟩ ∧ ∀ (j : Nat) (e : Pe), (es k)[j]? = some e → ∃ RA rn rc, RuleIs w RA rn rc e.2.2 ∧ w.cell? ⟨b, o + j * 2, none⟩ = some (.string ⟨e.1.toArray⟩) ∧ w.cell? ⟨b, o + j * 2 + 1, none⟩ = some (.slice RA rn rc) := by
  obtain ⟨A', c', h1, h2, h3, h4⟩ := SlC.own (h.row k)
  rw [hv] at h1
  obtain ⟨rfl, rfl, rfl⟩ := Value.slice.inj h1
  obtain ⟨b, o, h6, h7⟩ := h4 (by rw [cells2_len, List.length_map]; omega)
  refine ⟨b, o, h6, fun j e he => ?_⟩
  obtain ⟨RA, rn, rc, e1, hR⟩ := (h.rule k e (List.mem_of_getElem? he)).is
  have hc := cells2_at ((es k).map pcell) j (pcell e) (by rw [List.getElem?_map, he]; rfl)
  refine ⟨RA, rn, rc, hR, h7 _ _ hc.1, ?_⟩
  have := h7 _ _ hc.2
  rw [← Nat.add_assoc] at this
  rw [this]; simp [pcell, e1]

abbrev PMap := Bs → List (Bs × Rl)
def wOther : Bs := [111, 116, 104, 101, 114]
/-- What a row's reading answers, and the rule. -/
def rowCode (m : PMap) (ws : List Bs) : Nat × Rl :=
  if ws.length < 3 then (2, []) else
  if langP (ws.getD 0 []) = false then (2, []) else
  if catP (ws.getD 1 []) = false then (2, []) else
  if ws.getD 1 [] = wOther then (2, []) else
  if (parseR (Lib.join (ws.drop 2) [32])).1 ≠ 0 then ((parseR (Lib.join (ws.drop 2) [32])).1, []) else
  if (m (ws.getD 0 [])).any (fun e => decide (e.1 = ws.getD 1 [])) = true then (10, []) else
  (0, (parseR (Lib.join (ws.drop 2) [32])).2)
def rowPut (m : PMap) (ws : List Bs) : PMap := fun k => if k = ws.getD 0 [] then m k ++ [(ws.getD 1 [], (rowCode m ws).2)] else m k
def contents (es : Bs → List Pe) : PMap := fun k => (es k).map prow
def RowPost (W w : World) (gm n : Nat) (f : Bs → Value) (es : Bs → List Pe) (ws : List Bs) (e : Ending) (w' : World) : Prop :=
  e = .returned (.int .i64 ((rowCode (contents es) ws).1 : Nat)) ∧ ((rowCode (contents es) ws).1 ≠ 0 → PlI W w' gm n f es ∧ Below w.heap.size w w') ∧ ((rowCode (contents es) ws).1 = 0 → ∃ f' es', PlI W w' gm (n + 1) f' es' ∧ contents es' = rowPut (contents es) ws)
theorem RowPost.bad {W w w' : World} {gm n : Nat} {f : Bs → Value} {es : Bs → List Pe} {ws : List Bs} {k : Nat} (hc : (rowCode (contents es) ws).1 = k) (hk : k ≠ 0) (h : PlI W w gm n f es) (hb : Below w.heap.size w w') : RowPost W w gm n f es ws (.returned (.int .i64 (k : Nat))) w' :=
  ⟨by rw [hc], fun _ => ⟨h.below hb, hb⟩, fun h0 => absurd (hc.symm.trans h0) hk⟩

theorem Tryz_info130 : (Tryz.prog.info? 130).map (fun i => (i.zero, i.size, i.bytes)) = some (some (.agg #[.string ByteArray.empty, .slice none 0 0]), 2, 40) := by kernel_rfl
set_option maxRecDepth 100000 in
set_option maxHeartbeats 32000000 in
theorem plural_row (W w : World) (gp gm n0 : Nat) (f : Bs → Value) (es : Bs → List Pe) (A : Option Addr) (n c : Nat) (ws : List Bs) (hG : GW w) (hI : PlI W w gm n0 f es) (hnc : ∀ o, W.cell? ⟨gm, o, none⟩ = none)
    (hp : W.cell? ⟨gp, 0, none⟩ = some (.map (some gm))) (hS : StrsAre W A n c ws) (hl : ws.length ≤ 1000) (hm : ∀ t ∈ ws, t.length ≤ 100000) (hn : n0 ≤ 1000) :
    Calls Tryz.prog 71 #[.pointer (some ⟨gp, 0, none⟩), .slice A n c] w (RowPost W w gm n0 f es ws) := by
  obtain rfl : n = ws.length := hS.len
  obtain ⟨i0, hi0, hz0, hz1, hz2⟩ := info_parts Tryz_info130
  have hgpW : gp < W.heap.size := World.block_lt_of_cell? W _ hp
  have HSW := Lib.hid hS
  have HG := Lib.hid hG
  have HI := Lib.hid hI
  have HS := Lib.hid (hS.up hI.gr hnc)
  have kp := up_cell hI.gr hnc hp
  have HP := Lib.hid kp
  have HM := Lib.hid hm
  have hlI : (ws.length : Int) ≤ 1000 := by omega
  have hmx := maxLen_ge
  clear hG hI hS hp hm
  by_cases h3 : ws.length < 3
  · have hI3 : (ws.length : Int) < 3 := by omega
    have HC := Lib.hid (show (rowCode (contents es) ws).1 = 2 by unfold rowCode; rw [if_pos h3])
    clear h3 kp
    go_enter Tryz.func71, Tryz.ntmps71
    go_wp2_with fail
    go_ret
    exact RowPost.bad (k := 2) HC.out (by omega) HI.out (Below.refl _ _)
  have hI3 : ¬ (ws.length : Int) < 3 := by omega
  obtain ⟨sb, so, rfl, hsc⟩ := HS.out.at (by omega)
  have hsbW : sb < W.heap.size := by
    obtain ⟨b', o', e, h⟩ := HSW.out.at (by omega)
    cases e
    exact World.block_lt_of_cell? W _ (h 0 ws[0] (List.getElem?_eq_getElem (by omega)))
  obtain ⟨l, hl0⟩ : ∃ l, ws[0]? = some l := ⟨ws[0], List.getElem?_eq_getElem (by omega)⟩
  obtain ⟨ct, hc0⟩ : ∃ ct, ws[1]? = some ct := ⟨ws[1], List.getElem?_eq_getElem (by omega)⟩
  have k0 := hsc 0 l hl0
  have k1 := hsc 1 ct hc0
  rw [Nat.add_zero] at k0
  have hll := HM.out l (List.mem_of_getElem? hl0)
  have hcl := HM.out ct (List.mem_of_getElem? hc0)
  have HL0 := Lib.hid (show ws.getD 0 [] = l by rw [List.getD_eq_getElem?_getD, hl0]; rfl)
  have HC0 := Lib.hid (show ws.getD 1 [] = ct by rw [List.getD_eq_getElem?_getD, hc0]; rfl)
  have HK0 := Lib.hid k0
  have HK1 := Lib.hid k1
  have H3 := Lib.hid h3
  have hn0 : (0 : Int) < (ws.length : Int) := by omega
  have hn0N : 0 < ws.length := by omega
  have hn1N : 1 < ws.length := by omega
  have hcap := HS.out.cap
  have hc2 : ¬ c - 2 = 0 := by omega
  have hc3 : ¬ c = 2 := by omega
  have hn1 : (1 : Int) < (ws.length : Int) := by omega
  clear hsc hl0 hc0 h3
  go_enter Tryz.func71, Tryz.ntmps71
  go_wp2_with fail
  refine (plural_lang w l (by omega)).mono ?_
  rintro e w1 ⟨rfl, hb1⟩
  have HI1 := Lib.hid (HI.out.below hb1)
  have HB1 := Lib.hid hb1
  clear k0 k1 kp hb1
  have k1 : w1.cell? ⟨sb, so + 1, none⟩ = some (.string ⟨ct.toArray⟩) := (HB1.out.cell (World.block_lt_of_cell? w _ HK1.out)).trans HK1.out
  rcases Bool.eq_false_or_eq_true (langP l) with hlp | hlp
  case inr =>
    rw [hlp]
    have HC := Lib.hid (show (rowCode (contents es) ws).1 = 2 by unfold rowCode; rw [if_neg H3.out, HL0.out, if_pos hlp])
    clear hlp
    dsimp only
    go_wp2_with fail
    go_ret
    exact RowPost.bad (k := 2) HC.out (by omega) HI.out HB1.out
  rw [hlp]
  have HLP := Lib.hid hlp
  clear hlp
  dsimp only
  go_wp2_with fail
  refine (plural_Category w1 ct).mono ?_
  rintro e w2 ⟨rfl, hb2⟩
  have HI2 := Lib.hid (HI1.out.below hb2)
  have HB2 := Lib.hid (HB1.out.trans (hb2.mono HB1.out.size))
  clear k1 hb2
  have k1 : w2.cell? ⟨sb, so + 1, none⟩ = some (.string ⟨ct.toArray⟩) := (HB2.out.cell (World.block_lt_of_cell? w _ HK1.out)).trans HK1.out
  rcases Bool.eq_false_or_eq_true (catP ct) with hcp | hcp
  case inr =>
    rw [hcp]
    have HC := Lib.hid (show (rowCode (contents es) ws).1 = 2 by unfold rowCode; rw [if_neg H3.out, HL0.out, HC0.out, if_neg (by rw [HLP.out]; simp), if_pos hcp])
    clear hcp
    dsimp only
    go_wp2_with fail
    go_ret
    exact RowPost.bad (k := 2) HC.out (by omega) HI.out HB2.out
  rw [hcp]
  have HCP := Lib.hid hcp
  clear hcp
  dsimp only
  by_cases ho : ct = wOther
  · have hte : (ct == [111, 116, 104, 101, 114]) = true := by rw [ho]; rfl
    have HC := Lib.hid (show (rowCode (contents es) ws).1 = 2 by unfold rowCode; rw [if_neg H3.out, HL0.out, HC0.out, if_neg (by rw [HLP.out]; simp), if_neg (by rw [HCP.out]; simp), if_pos ho])
    clear ho
    go_wp2_with fail
    go_ret
    exact RowPost.bad (k := 2) HC.out (by omega) HI.out HB2.out
  have hte : (ct == [111, 116, 104, 101, 114]) = false := by simpa [wOther] using ho
  have HNO := Lib.hid ho
  clear ho
  go_wp2_with fail
  --NEXT
  have hT := (HS.out.below HB2.out (Nat.le_refl _)).tail 2 (by omega)
  obtain ⟨j, hj⟩ : ∃ j, Lib.join (ws.drop 2) [32] = j := ⟨_, rfl⟩
  have hjl : j.length ≤ 200000000 := by
    rw [← hj]
    have := join_le [32] 1000 100000 (ws.drop 2) (fun t ht => HM.out t (List.mem_of_mem_drop ht)) (by simp; omega)
    simp at this ⊢; omega
  refine (str_join w2 _ _ _ (ws.drop 2) ⟨#[32]⟩ hT (by simp; omega) (by rw [show (⟨#[32]⟩ : ByteArray).data.toList = ([32] : Bs) from rfl, hj]; omega)).mono ?_
  rw [show (⟨#[32]⟩ : ByteArray).data.toList = ([32] : Bs) from rfl, hj]
  have HJ := Lib.hid hj
  rintro e w3 ⟨rfl, hb3⟩
  have HI3 := Lib.hid (HI2.out.below hb3)
  have HB3 := Lib.hid (HB2.out.trans (hb3.mono HB2.out.size))
  clear hT hj hb3 k1
  dsimp only
  go_wp2_with fail
  refine (rule_Parse w3 ⟨j.toArray⟩ (HG.out.below HB3.out (Nat.le_refl _))).mono ?_
  rw [show (⟨j.toArray⟩ : ByteArray).data.toList = j from rfl]
  unfold ParsePost
  rcases parseR_cases j with ⟨r, hr1, hr2⟩ | ⟨e, hr1, hr2⟩
  case inr =>
    have HC := Lib.hid (show (rowCode (contents es) ws).1 = e by unfold rowCode; rw [if_neg H3.out, HL0.out, HC0.out, if_neg (by rw [HLP.out]; simp), if_neg (by rw [HCP.out]; simp), if_neg HNO.out, HJ.out, hr1, if_pos (by rcases hr2 with rfl | rfl <;> simp)])
    rw [hr1]
    clear hr1
    rintro e' w4 ⟨A4, n4, c4, rfl, hrr, hb4⟩
    have HI4 := Lib.hid (HB3.out.trans ((hb4.trans (((Below.refl _ _).alloc (Nat.le_refl _) (.cells #[.slice A4 n4 c4] 30)).mono hb4.size)).mono HB3.out.size))
    clear hrr hb4
    dsimp only
    rcases hr2 with rfl | rfl
    · go_wp2_with fail
      go_ret
      exact RowPost.bad (k := 2) HC.out (by omega) HI.out HI4.out
    · go_wp2_with fail
      go_ret
      exact RowPost.bad (k := 11) HC.out (by omega) HI.out HI4.out
  have HR1 := Lib.hid hr1
  rw [hr1]
  clear hr1 hr2
  rintro e w4 ⟨RA, rn, rc, rfl, hrr, hb4⟩
  have hal : Below w4.heap.size w4 (w4.alloc (.cells #[.slice RA rn rc] 30)) := (Below.refl _ _).alloc (Nat.le_refl _) _
  have hbb := hb4.trans (hal.mono hb4.size)
  obtain ⟨g5, hg5⟩ : ∃ g5, w4.heap.size = g5 := ⟨_, rfl⟩
  have y1 : Blk (w4.alloc (.cells #[.slice RA rn rc] 30)) g5 30 [.slice RA rn rc] := by rw [← hg5]; exact Blk.made _ 30 _ _ _ rfl rfl
  have Y1 := Lib.hid y1
  have Y2 := Lib.hid (hrr.stable hal.size (fun b _ hlt => hal.block b hlt))
  have Y3 := Lib.hid (HB3.out.trans (hbb.mono HB3.out.size))
  have Y4 := Lib.hid hbb
  have hg35 : w3.heap.size ≤ g5 := by rw [← hg5]; exact hb4.size
  clear hal hbb hb4 hrr y1
  dsimp only
  go_upto_region 6 with fail
  try rw [hg5]
  refine wp_letter (fun w5 => Blk w5 g5 30 [.slice RA rn rc] ∧ RuleAreB w3.heap.size w5 RA rn rc r ∧ Below w.heap.size w w5 ∧ Below w3.heap.size w3 w5) ⟨Y1.out, Y2.out, Y3.out, Y4.out⟩ ?_
  clear Y1 Y2 Y3 Y4 hg5
  rintro w5 ⟨y1, y2, y3, y4⟩
  have Y1 := Lib.hid y1
  have Y2 := Lib.hid y2
  have Y3 := Lib.hid y3
  have Y4 := Lib.hid y4
  have HI5 := Lib.hid (HI3.out.below y4)
  clear y1 y2 y3 y4
  have hlm : l.length ≤ maxLen := by omega
  have HW : Hid (∀ w', Below w5.heap.size w5 w' → w'.cell? ⟨gp, 0, none⟩ = some (.map (some gm)) ∧ w'.cell? ⟨sb, so, none⟩ = some (.string ⟨l.toArray⟩) ∧ w'.cell? ⟨sb, so + 1, none⟩ = some (.string ⟨ct.toArray⟩) ∧ (Instr.lookup 126 (.map (some gm)) (.string ⟨l.toArray⟩) false).run Tryz.prog w' = .ok (f l) w') := fun w' h => by
    have hb := Y3.out.trans (h.mono Y3.out.size)
    have cc : ∀ (a : Addr) u, w.cell? a = some u → w'.cell? a = some u := fun a u e => (hb.cell (World.block_lt_of_cell? w _ e)).trans e
    exact ⟨cc _ _ HP.out, cc _ _ HK0.out, cc _ _ HK1.out, (HI5.out.map.below h).look l hlm⟩
  obtain ⟨LA, lc, hlf, -⟩ := SlC.own (HI5.out.row l)
  have HLF := Lib.hid hlf
  rw [hlf] at HW
  have hq : ∀ q, (Instr.lookup 126 (.map (some gm)) (.string ⟨l.toArray⟩) false).run Tryz.prog (w5.drewN q) = .ok (.slice LA (es l).length lc) (w5.drewN q) := fun q => (HW.out _ (below_drewN (Below.refl _ _) q)).2.2.2
  obtain ⟨kp, k0, k1, -⟩ := HW.out w5 (Below.refl _ _)
  clear hlf
  go_wp2_with fail
  go_quiet (fail)
  go_step
  go_wp2_with fail
  have hel := HI5.out.few l
  have helI : ((es l).length : Int) ≤ 1000 := by omega
  clear kp k0 k1 hq
  go_loopw [51] (fun i wr => ∃ k : Nat, k ≤ (es l).length ∧ i = .int .i64 k ∧ (∀ e ∈ (es l).take k, e.1 ≠ ct) ∧ Below w5.heap.size w5 wr) (fun i _ => (es l).length - (intOf i).toNat)
  case atStart => exact ⟨0, Nat.zero_le _, rfl, fun e he => (by simp at he), below_drewN (Below.refl _ _) _⟩
  case round =>
    obtain ⟨k, hk, rfl, hno, hb⟩ := hrel
    have HNO2 := Lib.hid hno
    have HB := Lib.hid hb
    clear hno hb
    obtain ⟨wo, rfl⟩ : ∃ wo : World, wo = wr := ⟨_, rfl⟩
    by_cases hlt : k < (es l).length
    · obtain ⟨b, o, rfl, hc⟩ := HI5.out.at l HLF.out (by omega)
      obtain ⟨e, he⟩ : ∃ e, (es l)[k]? = some e := ⟨(es l)[k], List.getElem?_eq_getElem hlt⟩
      obtain ⟨QA, qn, qc, -, c0, c1⟩ := hc k e he
      have cc : ∀ (a : Addr) u, w5.cell? a = some u → wo.cell? a = some u := fun a u e => (HB.out.cell (World.block_lt_of_cell? w5 _ e)).trans e
      have q0 := cc _ _ c0
      have q1 := cc _ _ c1
      obtain ⟨-, -, k1, -⟩ := HW.out wo HB.out
      have HE := Lib.hid he
      have hkI : (k : Int) < ((es l).length : Int) := by omega
      have hk0 : (0 : Int) ≤ (k : Int) := by omega
      clear hc c0 c1 cc he
      obtain ⟨g8, hg8⟩ : ∃ g8, wo.heap.size = g8 := ⟨_, rfl⟩
      have hsb : sb < wo.heap.size := World.block_lt_of_cell? wo _ k1
      have hsb2 : ¬ sb = wo.heap.size := by omega
      by_cases hec : e.1 = ct
      · have hte2 : (e.1 == ct) = true := by simpa using hec
        have hcode : (rowCode (contents es) ws).1 = 10 := by
          have h10 : ((contents es) l).any (fun e => decide (e.1 = ct)) = true := List.any_eq_true.2 ⟨prow e, List.mem_map.2 ⟨e, List.mem_of_getElem? HE.out, rfl⟩, by simp [prow, hec]⟩
          unfold rowCode
          rw [if_neg H3.out, HL0.out, HC0.out, if_neg (by rw [HLP.out]; simp), if_neg (by rw [HCP.out]; simp), if_neg HNO.out, HJ.out, HR1.out, if_neg (by simp), if_pos h10]
        have HC := Lib.hid hcode
        clear hec hcode hg8
        go_wp2_with fail
        go_quiet (fail)
        go_step
        go_wp2_with fail
        go_ret
        exact RowPost.bad (k := 10) HC.out (by omega) HI.out (Y3.out.trans ((HB.out.trans ((below_drewN ((Below.refl _ _).alloc (Nat.le_refl _) _) _).mono HB.out.size)).mono Y3.out.size))
      · have hte2 : (e.1 == ct) = false := by simpa using hec
        have HEC := Lib.hid hec
        clear hec hg8
        go_wp2_with fail
        go_quiet (fail)
        go_step
        go_wp2_with fail
        go_roundw
        case rel =>
          refine ⟨k + 1, by omega, by go_num, fun e' he' => ?_, below_drewN (HB.out.alloc HB.out.size _) _⟩
          rw [List.take_add_one, HE.out] at he'
          rcases List.mem_append.1 he' with h | h
          · exact HNO2.out e' h
          · obtain rfl : e' = e := by simpa using h
            exact HEC.out
        case measure => simp [intOf]; omega
    · have hkI : ¬ (k : Int) < ((es l).length : Int) := by omega
      have hno3 : ((contents es) l).any (fun e => decide (e.1 = ct)) = false := by
        have h := HNO2.out
        rw [List.take_of_length_le (by omega)] at h
        rw [List.any_eq_false]
        rintro e' he'
        obtain ⟨e, he, rfl⟩ := List.mem_map.1 he'
        have := h e he
        simp [prow, this]
      have hcode : rowCode (contents es) ws = (0, r) := by
        unfold rowCode
        rw [if_neg H3.out, HL0.out, HC0.out, if_neg (by rw [HLP.out]; simp), if_neg (by rw [HCP.out]; simp), if_neg HNO.out, HJ.out, HR1.out, if_neg (by simp), if_neg (by rw [hno3]; simp)]
      have HC := Lib.hid hcode
      clear hno3 hcode
      go_upto_region 12 with fail
      have Q1 := Lib.hid (Y1.out.below HB.out Y1.out.lt)
      have Q2 := Lib.hid (Y2.out.stable HB.out.size (fun b _ hlt => HB.out.block b hlt))
      have Q3 := Lib.hid (Y4.out.trans (HB.out.mono Y4.out.size))
      have QI := Lib.hid (HI5.out.below HB.out)
      have HWS : Hid (∀ w', Below wo.heap.size wo w' → w'.cell? ⟨gp, 0, none⟩ = some (.map (some gm)) ∧ w'.cell? ⟨sb, so, none⟩ = some (.string ⟨l.toArray⟩) ∧ w'.cell? ⟨sb, so + 1, none⟩ = some (.string ⟨ct.toArray⟩) ∧ w'.cell? ⟨g5, 0, none⟩ = some (.slice RA rn rc) ∧ MapF w' gm n0 f) := fun w' h => by
        have hb := HB.out.trans (h.mono HB.out.size)
        obtain ⟨a1, a2, a3, -⟩ := HW.out w' hb
        exact ⟨a1, a2, a3, (Q1.out.below h Q1.out.lt).cell 0, QI.out.map.below h⟩
      have hszo : w3.heap.size ≤ wo.heap.size := Q3.out.size
      refine wp_region_but (fun w' => w'.cell? ⟨gp, 0, none⟩ = some (.map (some gm)) ∧ w'.cell? ⟨sb, so, none⟩ = some (.string ⟨l.toArray⟩) ∧ w'.cell? ⟨sb, so + 1, none⟩ = some (.string ⟨ct.toArray⟩) ∧ w'.cell? ⟨g5, 0, none⟩ = some (.slice RA rn rc) ∧ MapF w' gm n0 f) (by kernel_rfl) (by kernel_rfl) (HWS.out _ (Below.refl _ _).drew) (fun hHeld => ?_)
      simp only [initL, lastL]
      refine takeL (i := 0) (v := ?v31) rfl (by kernel_rfl) (by kernel_rfl) (by kernel_rfl) (fun _ _ _ h => h) (Or.inl ⟨by rfl, ?hy31⟩) (by assumption) ?rest31
      case hy31 => (intro wz hSz; (have hfz := hSz; have hlz := hSz.2.2.2.2.look l hlm; rw [HLF.out] at hlz); go_split_ands; (first | (go_simp; done) | (go_simp; with_reducible rfl)))
      try simp only [Act.put, List.setIfInBounds_toArray, List.set_cons_zero, List.set_cons_succ]
      refine takeL (i := 1) (v := ?v32) rfl (by kernel_rfl) (by kernel_rfl) (by kernel_rfl) (fun _ _ _ h => h) (Or.inl ⟨by rfl, ?hy32⟩) (by assumption) ?rest32
      case hy32 => (intro wz hSz; (have hfz := hSz; have hlz := hSz.2.2.2.2.look l hlm; rw [HLF.out] at hlz); go_split_ands; (first | (go_simp; done) | (go_simp; with_reducible rfl)))
      try simp only [Act.put, List.setIfInBounds_toArray, List.set_cons_zero, List.set_cons_succ]
      refine takeL (i := 2) (v := ?v33) rfl (by kernel_rfl) (by kernel_rfl) (by kernel_rfl) (fun _ _ _ h => h) (Or.inl ⟨by rfl, ?hy33⟩) (by assumption) ?rest33
      case hy33 => (intro wz hSz; (have hfz := hSz; have hlz := hSz.2.2.2.2.look l hlm; rw [HLF.out] at hlz); go_split_ands; (first | (go_simp; done) | (go_simp; with_reducible rfl)))
      try simp only [Act.put, List.setIfInBounds_toArray, List.set_cons_zero, List.set_cons_succ]
      refine takeL (i := 3) (v := ?v34) rfl (by kernel_rfl) (by kernel_rfl) (by kernel_rfl) (fun _ _ _ h => h) (Or.inl ⟨by rfl, ?hy34⟩) (by assumption) ?rest34
      case hy34 => (intro wz hSz; (have hfz := hSz; have hlz := hSz.2.2.2.2.look l hlm; rw [HLF.out] at hlz); go_split_ands; (first | (go_simp; done) | (go_simp; with_reducible rfl)))
      try simp only [Act.put, List.setIfInBounds_toArray, List.set_cons_zero, List.set_cons_succ]
      refine takeL (i := 4) (v := ?v35) rfl (by kernel_rfl) (by kernel_rfl) (by kernel_rfl) (fun _ _ _ h => h) (Or.inl ⟨by rfl, ?hy35⟩) (by assumption) ?rest35
      case hy35 => (intro wz hSz; (have hfz := hSz; have hlz := hSz.2.2.2.2.look l hlm; rw [HLF.out] at hlz); go_split_ands; (first | (go_simp; done) | (go_simp; with_reducible rfl)))
      try simp only [Act.put, List.setIfInBounds_toArray, List.set_cons_zero, List.set_cons_succ]
      refine takeL (i := 5) (v := ?v36) rfl (by kernel_rfl) (by kernel_rfl) (by kernel_rfl) (fun _ _ _ h => h) (Or.inl ⟨by rfl, ?hy36⟩) (by assumption) ?rest36
      case hy36 => (intro wz hSz; (have hfz := hSz; have hlz := hSz.2.2.2.2.look l hlm; rw [HLF.out] at hlz); go_split_ands; (first | (go_simp; done) | (go_simp; with_reducible rfl)))
      try simp only [Act.put, List.setIfInBounds_toArray, List.set_cons_zero, List.set_cons_succ]
      refine takeL (i := 6) (v := ?v37) rfl (by kernel_rfl) (by kernel_rfl) (by kernel_rfl) (fun _ _ _ h => h) (Or.inl ⟨by rfl, ?hy37⟩) (by assumption) ?rest37
      case hy37 => (intro wz hSz; (have hfz := hSz; have hlz := hSz.2.2.2.2.look l hlm; rw [HLF.out] at hlz); go_split_ands; (first | (go_simp; done) | (go_simp; with_reducible rfl)))
      try simp only [Act.put, List.setIfInBounds_toArray, List.set_cons_zero, List.set_cons_succ]
      refine takeL (i := 7) (v := ?v38) rfl (by kernel_rfl) (by kernel_rfl) (by kernel_rfl) (fun _ _ _ h => h) (Or.inl ⟨by rfl, ?hy38⟩) (by assumption) ?rest38
      case hy38 => (intro wz hSz; (have hfz := hSz; have hlz := hSz.2.2.2.2.look l hlm; rw [HLF.out] at hlz); go_split_ands; (first | (go_simp; done) | (go_simp; with_reducible rfl)))
      try simp only [Act.put, List.setIfInBounds_toArray, List.set_cons_zero, List.set_cons_succ]
      refine takeL (i := 8) (v := ?v39) rfl (by kernel_rfl) (by kernel_rfl) (by kernel_rfl) (fun _ _ _ h => h) (Or.inl ⟨by rfl, ?hy39⟩) (by assumption) ?rest39
      case hy39 => (intro wz hSz; (have hfz := hSz; have hlz := hSz.2.2.2.2.look l hlm; rw [HLF.out] at hlz); go_split_ands; (first | (go_simp; done) | (go_simp; with_reducible rfl)))
      try simp only [Act.put, List.setIfInBounds_toArray, List.set_cons_zero, List.set_cons_succ]
      refine takeL (i := 9) (v := ?v40) rfl (by kernel_rfl) (by kernel_rfl) (by kernel_rfl) (fun _ _ _ h => h) (Or.inl ⟨by rfl, ?hy40⟩) (by assumption) ?rest40
      case hy40 => (intro wz hSz; (have hfz := hSz; have hlz := hSz.2.2.2.2.look l hlm; rw [HLF.out] at hlz); go_split_ands; (first | (go_simp; done) | (go_simp; with_reducible rfl)))
      try simp only [Act.put, List.setIfInBounds_toArray, List.set_cons_zero, List.set_cons_succ]
      refine takeL (i := 10) (v := ?v41) rfl (by kernel_rfl) (by kernel_rfl) (by kernel_rfl) (fun _ _ _ h => h) (Or.inl ⟨by rfl, ?hy41⟩) (by assumption) ?rest41
      case hy41 => (intro wz hSz; (have hfz := hSz; have hlz := hSz.2.2.2.2.look l hlm; rw [HLF.out] at hlz); go_split_ands; (first | (go_simp; done) | (go_simp; with_reducible rfl)))
      try simp only [Act.put, List.setIfInBounds_toArray, List.set_cons_zero, List.set_cons_succ]
      refine takeL (i := 11) (v := ?v42) rfl (by kernel_rfl) (by kernel_rfl) (by kernel_rfl) (fun _ _ _ h => h) (Or.inl ⟨by rfl, ?hy42⟩) (by assumption) ?rest42
      case hy42 => (intro wz hSz; (have hfz := hSz; have hlz := hSz.2.2.2.2.look l hlm; rw [HLF.out] at hlz); go_split_ands; (first | (go_simp; done) | (go_simp; with_reducible rfl)))
      try simp only [Act.put, List.setIfInBounds_toArray, List.set_cons_zero, List.set_cons_succ]
      refine takeL (i := 12) (v := ?v43) rfl (by kernel_rfl) (by kernel_rfl) (by kernel_rfl) (fun _ _ _ h => h) (Or.inl ⟨by rfl, ?hy43⟩) (by assumption) ?rest43
      case hy43 => (intro wz hSz; (have hfz := hSz; have hlz := hSz.2.2.2.2.look l hlm; rw [HLF.out] at hlz); go_split_ands; (first | (go_simp; done) | (go_simp; with_reducible rfl)))
      try simp only [Act.put, List.setIfInBounds_toArray, List.set_cons_zero, List.set_cons_succ]
      refine takeL (i := 13) (v := ?v44) rfl (by kernel_rfl) (by kernel_rfl) (by kernel_rfl) (fun _ _ _ h => h) (Or.inl ⟨by rfl, ?hy44⟩) (by assumption) ?rest44
      case hy44 => (intro wz hSz; (have hfz := hSz; have hlz := hSz.2.2.2.2.look l hlm; rw [HLF.out] at hlz); go_split_ands; (first | (go_simp; done) | (go_simp; with_reducible rfl)))
      try simp only [Act.put, List.setIfInBounds_toArray, List.set_cons_zero, List.set_cons_succ]
      refine takeL (i := 14) (v := ?v45) rfl (by kernel_rfl) (by kernel_rfl) (by kernel_rfl) (fun _ _ _ h => h) (Or.inl ⟨by rfl, ?hy45⟩) (by assumption) ?rest45
      case hy45 => (intro wz hSz; (have hfz := hSz; have hlz := hSz.2.2.2.2.look l hlm; rw [HLF.out] at hlz); go_split_ands; (first | (go_simp; done) | (go_simp; with_reducible rfl)))
      try simp only [Act.put, List.setIfInBounds_toArray, List.set_cons_zero, List.set_cons_succ]
      refine takeL (i := 15) (v := ?v46) rfl (by kernel_rfl) (by kernel_rfl) (by kernel_rfl) (fun _ _ _ h => h) (Or.inl ⟨by rfl, ?hy46⟩) (by assumption) ?rest46
      case hy46 => (intro wz hSz; (have hfz := hSz; have hlz := hSz.2.2.2.2.look l hlm; rw [HLF.out] at hlz); go_split_ands; (first | (go_simp; done) | (go_simp; with_reducible rfl)))
      try simp only [Act.put, List.setIfInBounds_toArray, List.set_cons_zero, List.set_cons_succ]
      refine takeL (i := 16) (v := ?v47) rfl (by kernel_rfl) (by kernel_rfl) (by kernel_rfl) (fun _ _ _ h => h) (Or.inl ⟨by rfl, ?hy47⟩) (by assumption) ?rest47
      case hy47 => (intro wz hSz; (have hfz := hSz; have hlz := hSz.2.2.2.2.look l hlm; rw [HLF.out] at hlz); go_split_ands; (first | (go_simp; done) | (go_simp; with_reducible rfl)))
      try simp only [Act.put, List.setIfInBounds_toArray, List.set_cons_zero, List.set_cons_succ]
      refine takeL (i := 17) (v := ?v48) rfl (by kernel_rfl) (by kernel_rfl) (by kernel_rfl) (fun _ _ _ h => h) (Or.inl ⟨by rfl, ?hy48⟩) (by assumption) ?rest48
      case hy48 => (intro wz hSz; (have hfz := hSz; have hlz := hSz.2.2.2.2.look l hlm; rw [HLF.out] at hlz); go_split_ands; (first | (go_simp; done) | (go_simp; with_reducible rfl)))
      try simp only [Act.put, List.setIfInBounds_toArray, List.set_cons_zero, List.set_cons_succ]
      refine takeL (i := 18) (v := ?v49) rfl (by kernel_rfl) (by kernel_rfl) (by kernel_rfl) (fun _ _ _ h => h) (Or.inl ⟨by rfl, ?hy49⟩) (by assumption) ?rest49
      case hy49 => (intro wz hSz; (have hfz := hSz; have hlz := hSz.2.2.2.2.look l hlm; rw [HLF.out] at hlz); go_split_ands; (first | (go_simp; done) | (go_simp; with_reducible rfl)))
      try simp only [Act.put, List.setIfInBounds_toArray, List.set_cons_zero, List.set_cons_succ]
      refine takeL (i := 19) (v := ?v50) rfl (by kernel_rfl) (by kernel_rfl) (by kernel_rfl) (fun _ _ _ h => h) (Or.inl ⟨by rfl, ?hy50⟩) (by assumption) ?rest50
      case hy50 => (intro wz hSz; (have hfz := hSz; have hlz := hSz.2.2.2.2.look l hlm; rw [HLF.out] at hlz); go_split_ands; (first | (go_simp; done) | (go_simp; with_reducible rfl)))
      try simp only [Act.put, List.setIfInBounds_toArray, List.set_cons_zero, List.set_cons_succ]
      refine wpAnyH_ready (rs := [20]) (by kernel_rfl) (by simp) ?_
      refine consL rfl (fun K2 hK => ?_) AllReadyH.nil
      go_simp
      clear hHeld
      have hal : Below wo.heap.size wo (wo.drew.alloc (.cells #[.string ⟨ct.toArray⟩, .slice RA rn rc] 130)) := (Below.refl _ _).drew.alloc (by simp) _
      refine hK.out _ _ (HWS.out _ hal) (fun hHeld => ?_)
      clear hK K2
      try simp only [Act.put, List.setIfInBounds_toArray, List.set_cons_zero, List.set_cons_succ]
      refine wpAnyH_letter (fun wz => Blk wz wo.heap.size 130 [.string ⟨ct.toArray⟩, .slice RA rn rc] ∧ PlI W wz gm n0 f es ∧ RuleAreB w3.heap.size wz RA rn rc r ∧ Below wo.heap.size wo wz) ⟨Blk.made _ 130 _ _ _ rfl rfl, QI.out.below hal, Q2.out.stable hal.size (fun b _ hlt => hal.block b hlt), hal⟩ ?_
      clear hal hHeld
      rintro wz ⟨x1, x2, x3, x4⟩
      have X1 := Lib.hid x1
      have X2 := Lib.hid x2
      have X3 := Lib.hid x3
      have X4 := Lib.hid x4
      have hHeld := HWS.out wz x4
      have hszz := x4.size
      generalize wo.heap.size = g20 at *
      clear x1 x2 x3 x4
      refine wpAnyH_ready (rs := [21]) (by kernel_rfl) (by simp) ?_
      refine consL rfl (fun K2 hK => ?_) AllReadyH.nil
      refine step_append_lies _ rfl (.tmp 76) (.tmp 82) 125 rfl W.heap.size 130 i0 (.agg #[.string ByteArray.empty, .slice none 0 0]) 2 40 Tryz.underlying125 hi0 hz0 hz1 hz2 rfl (by decide) (.slice LA (es l).length lc) (es l).length (cells2 ((es l).map pcell)) rfl (by rw [← HLF.out]; exact X2.out.row l) ⟨g20, 0, none⟩ 1 1 [.string ⟨ct.toArray⟩, .slice RA rn rc] rfl rfl (World.news_of_block X1.out) (by simp [Value.oneCell']) (by omega) (by omega) (by omega) X2.out.gr.size wz.heap.size rfl ?_
      intro g' cap' w7 hown hgrow hat hlt'
      clear hHeld
      rw [← HLF.out] at hgrow hat
      have hfar : ∀ b o, b < wz.heap.size → (f l).ownBlock ≠ some b → w7.cell? ⟨b, o, none⟩ = wz.cell? ⟨b, o, none⟩ := fun b o h1 h2 => hgrow.cell_far ⟨b, o, none⟩ h1 (fun e => h2 e.symm)
      have hrl : ∀ j, (f l).ownBlock = some j → W.heap.size ≤ j ∧ j < w3.heap.size := fun j hj => World.ownsRow.lt (HI3.out.row l) j hj
      obtain ⟨b1, b2, b3, b4, b5⟩ := HWS.out wz X4.out
      have hS7 : w7.cell? ⟨gp, 0, none⟩ = some (.map (some gm)) ∧ w7.cell? ⟨sb, so, none⟩ = some (.string ⟨l.toArray⟩) ∧ w7.cell? ⟨sb, so + 1, none⟩ = some (.string ⟨ct.toArray⟩) ∧ w7.cell? ⟨g5, 0, none⟩ = some (.slice RA rn rc) ∧ MapF w7 gm n0 f :=
        ⟨(hfar gp 0 (World.block_lt_of_cell? wz _ b1) (fun e => by have := (hrl _ e).1; omega)).trans b1, (hfar sb so (World.block_lt_of_cell? wz _ b2) (fun e => by have := (hrl _ e).1; omega)).trans b2, (hfar sb (so + 1) (World.block_lt_of_cell? wz _ b3) (fun e => by have := (hrl _ e).1; omega)).trans b3,
          (hfar g5 0 (World.block_lt_of_cell? wz _ b4) (fun e => by have := (hrl _ e).2; omega)).trans b4, b5.kept hgrow (fun e => by have := (hrl gm e.symm).1; have := HI3.out.lt; omega)⟩
      refine hK.out _ _ hS7 (fun hHeld => ?_)
      clear hK K2
      try simp only [Act.put, List.setIfInBounds_toArray, List.set_cons_zero, List.set_cons_succ]
      obtain ⟨w8, hrun, hm8, hg8⟩ := hS7.2.2.2.2.put l (.slice (some ⟨g', 0, none⟩) ((es l).length + 1) cap') hlm (by omega)
      have HFIN := Lib.hid (HI3.out.push (w1 := w7) (w2 := w8) (c := ct) (Q3.out.trans (X4.out.mono hszo)) X3.out hgrow hown hat hm8 hg8)
      clear hS7 b1 b2 b3 b4 b5 hfar hrl hown hgrow hat hm8 hg8
      refine wpAnyH_done (by kernel_rfl) ?_ _
      clear hHeld
      unfold TailQ
      go_wp2_with fail
      go_ret
      refine ⟨by rw [HC.out]; rfl, fun h => absurd (by rw [HC.out]) h, fun _ => ⟨_, _, HFIN.out, ?_⟩⟩
      funext k'
      show (if k' = l then es l ++ [(ct, .slice RA rn rc, r)] else es k').map prow = if k' = ws.getD 0 [] then contents es k' ++ [(ws.getD 1 [], (rowCode (contents es) ws).2)] else contents es k'
      rw [HL0.out, HC0.out, HC.out]
      by_cases e : k' = l
      · subst e; simp [prow, contents]
      · simp [e, contents]
end Go.Proofs.YtdgleeglndcjhaaGreatDoor
/- Package plural: Load. -/
namespace Go.Proofs.YtdgleeglndcjhaaGreatDoor
open Go.RowKit
set_option linter.unusedVariables false
set_option linter.unusedSimpArgs false

def wPlural : Bs := [112, 108, 117, 114, 97, 108]
def loadP (m : PMap) : List Rw → Nat × Int × PMap
  | [] => (0, 0, m)
  | r :: rs => if (rowCode m (r.2.drop 1)).1 = 0 then loadP (rowPut m (r.2.drop 1)) rs else ((rowCode m (r.2.drop 1)).1, r.1, m)
def loadAll (L : List Rw) : Nat × Int × PMap := loadP (fun _ => []) (L.filter (kindP wPlural))
/-- The plurals behind the pointer. -/
def PlW (w : World) (gp : Nat) (m : PMap) : Prop :=
  ∃ (gm n : Nat) (W : World) (f : Bs → Value) (es : Bs → List Pe), w.cell? ⟨gp, 0, none⟩ = some (.map (some gm)) ∧ PlI W w gm n f es ∧ contents es = m ∧ n ≤ 1000 ∧ gp = gm + 1
theorem PlW.below {w w' : World} {gp : Nat} {m : PMap} (h : PlW w gp m) (hb : Below w.heap.size w w') : PlW w' gp m := by
  obtain ⟨gm, n, W, f, es, h1, h2, h3, h4⟩ := h
  exact ⟨gm, n, W, f, es, (hb.cell (World.block_lt_of_cell? w _ h1)).trans h1, h2.below hb, h3, h4⟩
theorem PlW.few {w : World} {gp : Nat} {m : PMap} (h : PlW w gp m) (k : Bs) : (m k).length ≤ 1000 := by
  obtain ⟨gm, n, W, f, es, h1, h2, rfl, h4, -⟩ := h
  have := h2.few k
  simp [contents]; omega
theorem RowsIs.up {W w : World} {gm : Nat} {A : Option Addr} {n c : Nat} {L : List Rw} (h : RowsIs W A n c L) (hg : W.grownBy w (some gm)) (hnc : ∀ o, W.cell? ⟨gm, o, none⟩ = none) : RowsIs w A n c L := by
  obtain ⟨es, h1, ⟨A', c', e1, h2, h3, h4⟩, h5⟩ := h
  refine ⟨es, h1, ⟨A', c', e1, h2, h3, fun hp => ?_⟩, fun e he => ?_⟩
  · obtain ⟨b, o, e2, h6⟩ := h4 hp
    exact ⟨b, o, e2, fun j x hx => up_cell hg hnc (h6 j x hx)⟩
  · obtain ⟨A2, n2, c2, e2, h6⟩ := h5 e he
    exact ⟨A2, n2, c2, e2, h6.up hg hnc⟩
def LoadI (W2 : World) (gm : Nat) (R : List Rw) (i : Value) (wr : World) : Prop :=
  ∃ (k n : Nat) (f : Bs → Value) (es : Bs → List Pe), k ≤ R.length ∧ i = .int .i64 k ∧ PlI W2 wr gm n f es ∧ n ≤ k ∧ loadP (contents es) (R.drop k) = loadP (fun _ => []) R
def LoadPost (w : World) (L : List Rw) (e : Ending) (w' : World) : Prop :=
  (((loadAll L).1 ≠ 0 ∧ e = .returned (.tuple #[.pointer none, .int .i64 (loadAll L).2.1, .int .i64 ((loadAll L).1 : Nat)])) ∨
    ((loadAll L).1 = 0 ∧ ∃ gp, e = .returned (.tuple #[.pointer (some ⟨gp, 0, none⟩), .int .i64 0, .int .i64 0]) ∧ PlW w' gp (loadAll L).2.2 ∧ w.heap.size < gp)) ∧ Below w.heap.size w w'

set_option maxRecDepth 100000 in
set_option maxHeartbeats 32000000 in
theorem plural_Load (w : World) (A : Option Addr) (n c : Nat) (L : List Rw) (hG : GW w) (h : RowsIs w A n c L) (hl : L.length ≤ 1000) (hw : ∀ r ∈ L, r.2.length ≤ 1000 ∧ ∀ t ∈ r.2, t.length ≤ 100000) :
    Calls Tryz.prog 38 #[.slice A n c] w (LoadPost w L) := by
  have HG := Lib.hid hG
  have HX := Lib.hid h
  have HW := Lib.hid hw
  have hmm := @run_makeMap Tryz.prog
  clear hG h hw
  go_enter Tryz.func38, Tryz.ntmps38
  go_upto_region 2 with fail
  refine wp_letter (fun w1 => MapF w1 w.heap.size 0 (fun _ => .slice none 0 0) ∧ Blk w1 (w.heap.size + 1) 128 [.map (some w.heap.size)] ∧ RowsIs w1 A n c L ∧ Below w.heap.size w w1) ⟨(MapF.made w).below ((Below.refl _ _).alloc (Nat.le_refl _) _), Blk.made _ 128 _ _ _ (by simp) rfl, HX.out.below (((Below.refl _ _).alloc (Nat.le_refl _) _).alloc (by simp) _) (Nat.le_refl _), ((Below.refl _ _).alloc (Nat.le_refl _) _).alloc (by simp) _⟩ ?_
  rintro w1 ⟨y1, y2, y3, y4⟩
  have Y1 := Lib.hid y1
  have Y2 := Lib.hid y2
  have Y3 := Lib.hid y3
  have Y4 := Lib.hid y4
  have hgw : w.heap.size ≤ w.heap.size := Nat.le_refl _
  clear y1 y2 y3 y4 HX
  obtain ⟨gm, hgm⟩ : ∃ gm, w.heap.size = gm := ⟨_, rfl⟩
  rw [hgm] at Y1 Y2
  try rw [hgm]
  have HGM := Lib.hid hgm
  clear hgm hgw
  go_wp2_with fail
  refine (rows_Of w1 A n c L wPlural Y3.out (by omega) (fun r hr => by have := (HW.out r hr).1; omega)).mono ?_
  obtain ⟨R, hR⟩ : ∃ R, L.filter (kindP wPlural) = R := ⟨_, rfl⟩
  have hRL : ∀ r ∈ R, (r.2.length ≤ 1000 ∧ ∀ t ∈ r.2, t.length ≤ 100000) ∧ r.2.head? = some wPlural := by
    rw [← hR]
    intro r hr
    have := List.mem_filter.1 hr
    exact ⟨HW.out r this.1, by simpa [kindP] using this.2⟩
  have hRl : R.length ≤ 1000 := by rw [← hR]; exact Nat.le_trans (List.length_filter_le _ _) hl
  rw [hR]
  have HLA : Hid (loadAll L = loadP (fun _ => []) R) := by unfold loadAll; rw [hR]; exact Lib.hid rfl
  have HRL := Lib.hid hRL
  clear hRL hR
  rintro e W2 ⟨RA, rn, rc, rfl, hr, hb2⟩
  obtain rfl : rn = R.length := hr.len
  have HM2 := Lib.hid (Y1.out.below hb2)
  have HP2 := Lib.hid (Y2.out.below hb2 Y2.out.lt)
  have HR2 := Lib.hid hr
  have HB2 := Lib.hid (Y4.out.trans (hb2.mono Y4.out.size))
  have HNC : Hid (∀ o, W2.cell? ⟨gm, o, none⟩ = none) := fun o => (Y1.out.below hb2).cell o
  have hRI : (R.length : Int) ≤ 1000 := by omega
  clear hr hb2 Y1 Y2 Y3 Y4
  dsimp only
  go_wp2_with fail
  go_loopw [15] (fun i wr => LoadI W2 gm R i wr) (fun i _ => R.length - (intOf i).toNat)
  case atStart => exact ⟨0, 0, _, _, Nat.zero_le _, rfl, PlI.start W2 W2 gm HM2.out, Nat.le_refl _, rfl⟩
  case round =>
    obtain ⟨k, n0, f, es, hk, rfl, hI, hn0, hload⟩ := hrel
    obtain ⟨wo, rfl⟩ : ∃ wo : World, wo = wr := ⟨_, rfl⟩
    have HI := Lib.hid hI
    have HLD := Lib.hid hload
    have HBW : Hid (Below w.heap.size w wo) := below_grown HB2.out hI.gr HB2.out.size (fun j hj => by cases hj; exact Nat.le_of_eq HGM.out)
    have hszo := hI.gr.size
    have HRU := Lib.hid (HR2.out.up hI.gr HNC.out)
    have HPU := Lib.hid (up_cell hI.gr HNC.out (HP2.out.cell 0))
    clear hI hload
    by_cases hlt : k < R.length
    case neg =>
      have hkI : ¬ (k : Int) < (R.length : Int) := by omega
      have hfin : loadAll L = (0, 0, contents es) := by rw [HLA.out, ← HLD.out, List.drop_eq_nil_of_le (by omega)]; rfl
      have HF := Lib.hid hfin
      clear hfin
      go_wp2_with fail
      refine bodyPost_ret (v := .tuple #[.pointer (some ⟨gm + 1, 0, none⟩), .int .i64 0, .int .i64 0]) (by simp [results, Tryz.results38, go_sem]; try rfl) rfl ?_
      exact ⟨.inr ⟨by rw [HF.out], gm + 1, rfl, ⟨gm, n0, W2, f, es, HPU.out, HI.out, by rw [HF.out], by omega, rfl⟩, by have := HGM.out; omega⟩, HBW.out⟩
    obtain ⟨b, o, rfl, hc⟩ := HRU.out.at (by omega)
    obtain ⟨⟨ln, ws⟩, hx⟩ : ∃ x, R[k]? = some x := ⟨R[k], List.getElem?_eq_getElem hlt⟩
    obtain ⟨⟨hwl, hwm⟩, hwh⟩ := HRL.out _ (List.mem_of_getElem? hx)
    dsimp only at hwl hwm hwh
    obtain ⟨ws', rfl⟩ : ∃ ws', ws = wPlural :: ws' := by
      cases ws with
      | nil => simp at hwh
      | cons a t => exact ⟨t, by simp at hwh; rw [hwh]⟩
    obtain ⟨WB, wm, wd, hS, r0, r1⟩ : ∃ WB wm wd, StrsAre W2 WB wm wd (wPlural :: ws') ∧ W2.cell? ⟨b, o + k * 2, none⟩ = some (.int .i64 ln) ∧ W2.cell? ⟨b, o + k * 2 + 1, none⟩ = some (.slice WB wm wd) := by
      obtain ⟨b', o', e, hc'⟩ := HR2.out.at (by omega)
      cases e
      exact hc' k _ hx
    have hwm0 : wm = ws'.length + 1 := hS.len
    have HWM0 := Lib.hid hwm0
    have hcap := hS.cap
    obtain ⟨sb, so, rfl, -⟩ := hS.at (by simp)
    have q0 := up_cell HI.out.gr HNC.out r0
    have q1 := up_cell HI.out.gr HNC.out r1
    have HS := Lib.hid hS
    have HD := Lib.hid (drop_at hx)
    have HWM : Hid (∀ t ∈ ws', t.length ≤ 100000) := fun t ht => hwm t (List.mem_cons_of_mem _ ht)
    have hwl2 : ws'.length ≤ 1000 := by simp at hwl; omega
    have hkI : (k : Int) < (R.length : Int) := by omega
    have hk0 : (0 : Int) ≤ (k : Int) := by omega
    have hwm1 : 1 ≤ wm := by omega
    have hwm1I : (1 : Int) ≤ (wm : Int) := by omega
    have hwd1I : (wm : Int) ≤ (wd : Int) := by omega
    clear hc hx hwm hwh hwl r0 r1 hS hwm0
    go_upto_region 5 with fail
    refine wp_letter (fun wx => Blk wx wo.heap.size 132 [.int .i64 ln, .slice (some ⟨sb, so, none⟩) wm wd] ∧ PlI W2 wx gm n0 f es ∧ Below w.heap.size w wx) ⟨Blk.made _ 132 _ _ _ rfl rfl, HI.out.below ((Below.refl _ _).alloc (Nat.le_refl _) _), HBW.out.alloc HBW.out.size _⟩ ?_
    rintro wx ⟨x1, x2, x3⟩
    have X1 := Lib.hid x1
    have XI := Lib.hid x2
    have HBX := Lib.hid x3
    have m0 := x1.cell 0
    have m1 := x1.cell 1
    simp only [List.getElem?_cons_zero, List.getElem?_cons_succ] at m0 m1
    generalize wo.heap.size = g7 at *
    clear x1 x2 x3 q0 q1
    by_cases hwd : wd - 1 = 0
    · have hws : ws' = [] := List.eq_nil_of_length_eq_zero (by have := HWM0.out; omega)
      have hwm2 : wm - 1 = 0 := by omega
      have HWS0 := Lib.hid hws
      have HWM2 := Lib.hid hwm2
      clear hws hwm2
      go_wp2_with fail
      refine (plural_row W2 wx (gm + 1) gm n0 f es (some ⟨sb, so, none⟩) (wm - 1) 0 ws' (HG.out.below HBX.out (Nat.le_refl _)) XI.out HNC.out (HP2.out.cell 0) (by rw [HWS0.out, HWM2.out]; exact SlC.nil _ _ _ _) hwl2 HWM.out (by omega)).mono ?_
      clear m0 m1
      rintro e w5 ⟨he, hne, heq⟩
      obtain ⟨cd, hcd⟩ : ∃ cd, (rowCode (contents es) ws').1 = cd := ⟨_, rfl⟩
      rw [hcd] at he hne heq
      subst he
      have hstep : loadP (contents es) (R.drop k) = if cd = 0 then loadP (rowPut (contents es) ws') (R.drop (k + 1)) else (cd, ln, contents es) := by rw [HD.out, ← hcd]; rfl
      have HST := Lib.hid hstep
      clear hstep hcd
      dsimp only
      by_cases h0 : cd = 0
      · subst h0
        obtain ⟨f', es', hI', hcon⟩ := heq rfl
        have HI' := Lib.hid hI'
        have HN : Hid (loadP (contents es') (R.drop (k + 1)) = loadP (fun _ => []) R) := by have h := HST.out; rw [if_pos rfl, ← hcon] at h; rw [← h]; exact HLD
        clear hne heq hI' hcon
        go_wp2_with fail
        go_roundw
        case rel => exact ⟨k + 1, n0 + 1, f', es', by omega, by go_num, HI'.out, by omega, HN.out⟩
        case measure => simp [intOf]; omega
      obtain ⟨-, hb5⟩ := hne h0
      have HB5 := Lib.hid (HBX.out.trans (hb5.mono HBX.out.size))
      have x0 := (X1.out.below hb5 X1.out.lt).cell 0
      have x1 := (X1.out.below hb5 X1.out.lt).cell 1
      simp only [List.getElem?_cons_zero, List.getElem?_cons_succ] at x0 x1
      have hfin : (loadAll L).1 = cd ∧ (loadAll L).2.1 = ln := by
        have h := HST.out
        rw [if_neg h0, HLD.out, ← HLA.out] at h
        rw [h]; exact ⟨rfl, rfl⟩
      have HF := Lib.hid hfin
      have hcI : ((cd : Nat) : Int) ≠ 0 := by omega
      have hcI2 : (((cd : Nat) : Int) != 0) = true := by simpa using hcI
      have H0 := Lib.hid h0
      clear hne heq hb5 hfin h0
      go_wp2_with fail
      go_quiet (fail)
      go_step
      go_wp2_with fail
      refine bodyPost_ret (v := .tuple #[.pointer none, .int .i64 ln, .int .i64 (cd : Nat)]) (by simp [results, Tryz.results38, go_sem]; try rfl) rfl ?_
      exact ⟨.inl ⟨by rw [HF.out.1]; exact H0.out, by rw [HF.out.1, HF.out.2]⟩, below_drewN HB5.out _⟩
    have hwd2 : ¬ wd = 1 := by omega
    go_wp2_with fail
    refine (plural_row W2 wx (gm + 1) gm n0 f es (some ⟨sb, so + 1, none⟩) (wm - 1) (wd - 1) ws' (HG.out.below HBX.out (Nat.le_refl _)) XI.out HNC.out (HP2.out.cell 0) (by
      have h := HS.out.tail 1 (by simp)
      rw [show (wPlural :: ws').length - 1 = wm - 1 by have := HWM0.out; simp; omega] at h
      exact h) hwl2 HWM.out (by omega)).mono ?_
    clear m0 m1
    rintro e w5 ⟨he, hne, heq⟩
    obtain ⟨cd, hcd⟩ : ∃ cd, (rowCode (contents es) ws').1 = cd := ⟨_, rfl⟩
    rw [hcd] at he hne heq
    subst he
    have hstep : loadP (contents es) (R.drop k) = if cd = 0 then loadP (rowPut (contents es) ws') (R.drop (k + 1)) else (cd, ln, contents es) := by rw [HD.out, ← hcd]; rfl
    have HST := Lib.hid hstep
    clear hstep hcd
    dsimp only
    by_cases h0 : cd = 0
    · subst h0
      obtain ⟨f', es', hI', hcon⟩ := heq rfl
      have HI' := Lib.hid hI'
      have HN : Hid (loadP (contents es') (R.drop (k + 1)) = loadP (fun _ => []) R) := by have h := HST.out; rw [if_pos rfl, ← hcon] at h; rw [← h]; exact HLD
      clear hne heq hI' hcon
      go_wp2_with fail
      go_roundw
      case rel => exact ⟨k + 1, n0 + 1, f', es', by omega, by go_num, HI'.out, by omega, HN.out⟩
      case measure => simp [intOf]; omega
    obtain ⟨-, hb5⟩ := hne h0
    have HB5 := Lib.hid (HBX.out.trans (hb5.mono HBX.out.size))
    have x0 := (X1.out.below hb5 X1.out.lt).cell 0
    have x1 := (X1.out.below hb5 X1.out.lt).cell 1
    simp only [List.getElem?_cons_zero, List.getElem?_cons_succ] at x0 x1
    have hfin : (loadAll L).1 = cd ∧ (loadAll L).2.1 = ln := by
      have h := HST.out
      rw [if_neg h0, HLD.out, ← HLA.out] at h
      rw [h]; exact ⟨rfl, rfl⟩
    have HF := Lib.hid hfin
    have hcI : ((cd : Nat) : Int) ≠ 0 := by omega
    have hcI2 : (((cd : Nat) : Int) != 0) = true := by simpa using hcI
    have H0 := Lib.hid h0
    clear hne heq hb5 hfin h0
    go_wp2_with fail
    go_quiet (fail)
    go_step
    go_wp2_with fail
    refine bodyPost_ret (v := .tuple #[.pointer none, .int .i64 ln, .int .i64 (cd : Nat)]) (by simp [results, Tryz.results38, go_sem]; try rfl) rfl ?_
    exact ⟨.inl ⟨by rw [HF.out.1]; exact H0.out, by rw [HF.out.1, HF.out.2]⟩, below_drewN HB5.out _⟩
end Go.Proofs.YtdgleeglndcjhaaGreatDoor
