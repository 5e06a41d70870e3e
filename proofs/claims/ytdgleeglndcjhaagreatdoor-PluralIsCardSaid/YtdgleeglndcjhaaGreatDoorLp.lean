/- Package plural: Select, Of. -/
import Derived.Test.YtdgleeglndcjhaaGreatDoorLn
import Derived.Test.YtdgleeglndcjhaaGreatDoorP7
import Derived.Test.YtdgleeglndcjhaaGreatDoorP8
namespace Go.Proofs.YtdgleeglndcjhaaGreatDoor
open Go.RowKit
set_option linter.unusedVariables false
set_option linter.unusedSimpArgs false

def selectP (m : PMap) (lang : Bs) (val : Nat → Nat × Nat) : Bs :=
  match (m lang).find? (fun e => holdsV val e.2) with
  | some e => e.1
  | none => wOther
theorem find_take {α : Type} {p : α → Bool} {l : List α} {k : Nat} {x : α} (hx : l[k]? = some x) (hp : p x = true) (hno : ∀ e ∈ l.take k, p e = false) : l.find? p = some x := by
  rw [← List.take_append_drop k l, List.find?_append, List.find?_eq_none.2 (fun e he => by simp [hno e he]), drop_at hx]
  simp [hp]

set_option maxRecDepth 100000 in
set_option maxHeartbeats 32000000 in
theorem plural_Select (w : World) (gp : Nat) (m : PMap) (lang : Bs) (b : Bool) (A : Option Addr) (n c : Nat) (l : List Nat) (sc : Int) (q : Nat) (hG : GW w) (hP : PlW w gp m) (hSm : ∀ e ∈ m lang, SmallR e.2) (hlang : lang.length ≤ maxLen)
    (h : RL w (.slice A n c) l) (hl : l.length ≤ 1000000) (hk : decK b l sc < 2 ^ q) (hq : 200 ≤ q) (hq2 : q ≤ 40000) :
    Calls Tryz.prog 31 #[.pointer (some ⟨gp, 0, none⟩), .string ⟨lang.toArray⟩, .agg #[.bool b, .slice A n c, .int .i64 sc]] w fun e w' => e = .returned (.string ⟨(selectP m lang (ofVal (decK b l sc) (decS b l sc))).toArray⟩) ∧ Below w.heap.size w w' := by
  have HG := Lib.hid hG
  have HPL := Lib.hid hP
  have HX := Lib.hid h
  have HS := Lib.hid hSm
  obtain ⟨k, hdk⟩ : ∃ k, decK b l sc = k := ⟨_, rfl⟩
  obtain ⟨S, hds⟩ : ∃ S, decS b l sc = S := ⟨_, rfl⟩
  have HK := Lib.hid hk
  rw [hdk, hds]
  have HDK := Lib.hid hdk
  have HDS := Lib.hid hds
  clear hG hP h hSm hk hdk hds
  go_enter Tryz.func31, Tryz.ntmps31
  go_upto_region 1 with fail
  refine wp_letter (fun w1 => Blk w1 w.heap.size 26 [.bool b, .slice A n c, .int .i64 sc] ∧ PlW w1 gp m ∧ Below w.heap.size w w1) ⟨Blk.made _ 26 _ _ _ rfl rfl, HPL.out.below ((Below.refl _ _).alloc (Nat.le_refl _) _), (Below.refl _ _).alloc (Nat.le_refl _) _⟩ ?_
  rintro w1 ⟨y1, y2, y3⟩
  have Y2 := Lib.hid y2
  have HB1 := Lib.hid y3
  have k0 := y1.cell 0
  have k1 := y1.cell 1
  have k2 := y1.cell 2
  simp only [List.getElem?_cons_zero, List.getElem?_cons_succ] at k0 k1 k2
  clear y1 y2 y3 HPL
  go_wp2_with fail
  refine (oper_Of w1 b A n c l sc q (HG.out.below HB1.out (Nat.le_refl _)) (HX.out.below HB1.out (Nat.le_refl _)) hl HK.out hq hq2).mono ?_
  rw [HDK.out, HDS.out]
  rintro e w2 ⟨⟨ob, oA, on, oc, oB, om, od, iA, il, ic, fA, fl, fc', tA, tl, tc', rfl, r⟩, hb2⟩
  obtain ⟨g6, hg6⟩ : ∃ g6, w2.heap.size = g6 := ⟨_, rfl⟩
  have hba : Below w2.heap.size w2 (w2.alloc (.cells #[.bool ob, .slice oA on oc, .slice oB om od, .slice iA il ic, .int .i64 (S : Nat), .int .i64 ((short k S).2 : Nat), .slice fA fl fc', .slice tA tl tc'] 39)) := (Below.refl _ _).alloc (Nat.le_refl _) _
  have hbb := hb2.trans (hba.mono hb2.size)
  have z1 := Y2.out.below hbb
  have z2 := r.below hba (Nat.le_refl _)
  have z3 : Blk (w2.alloc (.cells #[.bool ob, .slice oA on oc, .slice oB om od, .slice iA il ic, .int .i64 (S : Nat), .int .i64 ((short k S).2 : Nat), .slice fA fl fc', .slice tA tl tc'] 39)) g6 39 [.bool ob, .slice oA on oc, .slice oB om od, .slice iA il ic, .int .i64 (S : Nat), .int .i64 ((short k S).2 : Nat), .slice fA fl fc', .slice tA tl tc'] := by rw [← hg6]; exact Blk.made _ 39 _ _ _ rfl rfl
  have z4 := HB1.out.trans (hbb.mono HB1.out.size)
  have Z1 := Lib.hid z1
  have Z2 := Lib.hid z2
  have Z3 := Lib.hid z3
  have Z4 := Lib.hid z4
  clear z1 z2 z3 z4 hba hbb hb2 r k0 k1 k2 Y2
  dsimp only
  go_upto_region 2 with fail
  try rw [hg6]
  refine wp_letter (fun w3 => PlW w3 gp m ∧ OpR w3 ob oA on oc oB om od iA il ic fA fl fc' tA tl tc' k (10 ^ S) q (k / 10 ^ S) S (short k S).2 (k % 10 ^ S) ((short k S).1 % 10 ^ (short k S).2) ∧ Blk w3 g6 39 [.bool ob, .slice oA on oc, .slice oB om od, .slice iA il ic, .int .i64 (S : Nat), .int .i64 ((short k S).2 : Nat), .slice fA fl fc', .slice tA tl tc'] ∧ Below w.heap.size w w3) ⟨Z1.out, Z2.out, Z3.out, Z4.out⟩ ?_
  clear Z1 Z2 Z3 Z4 hg6 HB1
  rintro w3 ⟨⟨gm, n0, W, f, es, hp, hI, hm, hn, -⟩, z2, z3, z4⟩
  have OP := Lib.hid z2
  have O6 := Lib.hid z3
  have HB3 := Lib.hid z4
  have HI := Lib.hid hI
  have HM := Lib.hid hm
  have hlook := hI.map.look lang hlang
  obtain ⟨LA, lc, hlf, -⟩ := SlC.own (hI.row lang)
  have HLF := Lib.hid hlf
  have hel := hI.few lang
  have helI : ((es lang).length : Int) ≤ 1000 := by omega
  rw [hlf] at hlook
  clear z2 z3 z4 hI hm hlf
  have HVAL : Hid (ofVal k S = opVal k (10 ^ S) (k / 10 ^ S) S (short k S).2 (k % 10 ^ S) ((short k S).1 % 10 ^ (short k S).2)) := rfl
  go_wp2_with fail
  clear hlook hp
  obtain ⟨V, hV⟩ : ∃ V, opVal k (10 ^ S) (k / 10 ^ S) S (short k S).2 (k % 10 ^ S) ((short k S).1 % 10 ^ (short k S).2) = V := ⟨_, rfl⟩
  rw [hV] at HVAL
  have HV := Lib.hid hV
  clear hV
  go_loopw [19] (fun i wr => ∃ j : Nat, j ≤ (es lang).length ∧ i = .int .i64 j ∧ (∀ e ∈ (es lang).take j, holdsV V e.2.2 = false) ∧ Below w3.heap.size w3 wr) (fun i _ => (es lang).length - (intOf i).toNat)
  case atStart => exact ⟨0, Nat.zero_le _, rfl, fun e he => (by simp at he), Below.refl _ _⟩
  case round =>
    obtain ⟨j, hj, rfl, hno, hb⟩ := hrel
    have HNO := Lib.hid hno
    have HB := Lib.hid hb
    clear hno hb
    obtain ⟨wo, rfl⟩ : ∃ wo : World, wo = wr := ⟨_, rfl⟩
    have hml : (m lang).find? (fun e => holdsV V e.2) = ((es lang).find? (fun e => holdsV V e.2.2)).map prow := by
      rw [← HM.out]; unfold contents; rw [List.find?_map]; rfl
    have HML := Lib.hid hml
    clear hml
    by_cases hlt : j < (es lang).length
    case neg =>
      have hjI : ¬ (j : Int) < ((es lang).length : Int) := by omega
      have hsel : selectP m lang (ofVal k S) = wOther := by
        have h := HNO.out
        rw [List.take_of_length_le (by omega)] at h
        unfold selectP
        rw [HVAL.out, HML.out, List.find?_eq_none.2 (fun e he => by simp [h e he])]
        rfl
      have HSEL := Lib.hid hsel
      clear hsel
      go_wp2_with fail
      go_ret
      exact ⟨by rw [HSEL.out]; rfl, HB3.out.trans (HB.out.mono HB3.out.size)⟩
    obtain ⟨pb, po, rfl, hc⟩ := HI.out.at lang HLF.out (by omega)
    obtain ⟨⟨ct, rv, r⟩, he⟩ : ∃ e, (es lang)[j]? = some e := ⟨(es lang)[j], List.getElem?_eq_getElem hlt⟩
    obtain ⟨RA, rn, rc, hR, c0, c1⟩ := hc j _ he
    dsimp only at hR c0
    have q0 : wo.cell? ⟨pb, po + j * 2, none⟩ = some (.string ⟨ct.toArray⟩) := (HB.out.cell (World.block_lt_of_cell? w3 _ c0)).trans c0
    have q1 : wo.cell? ⟨pb, po + j * 2 + 1, none⟩ = some (.slice RA rn rc) := (HB.out.cell (World.block_lt_of_cell? w3 _ c1)).trans c1
    have HR := Lib.hid (hR.below HB.out (Nat.le_refl _))
    have HE := Lib.hid he
    have HSr : Hid (SmallR r) := HS.out (ct, r) (by rw [← HM.out]; exact List.mem_map.2 ⟨_, List.mem_of_getElem? he, rfl⟩)
    have hjI : (j : Int) < ((es lang).length : Int) := by omega
    have hj0 : (0 : Int) ≤ (j : Int) := by omega
    clear hc hR c0 c1 he
    go_upto_region 5 with fail
    have hal : Below wo.heap.size wo (wo.alloc (.cells #[.string ⟨ct.toArray⟩, .slice RA rn rc] 130)) := (Below.refl _ _).alloc (Nat.le_refl _) _
    have hbo := HB.out.trans (hal.mono HB.out.size)
    refine wp_letter (fun wx => Blk wx wo.heap.size 130 [.string ⟨ct.toArray⟩, .slice RA rn rc] ∧ RuleIs wx RA rn rc r ∧ OpR wx ob oA on oc oB om od iA il ic fA fl fc' tA tl tc' k (10 ^ S) q (k / 10 ^ S) S (short k S).2 (k % 10 ^ S) ((short k S).1 % 10 ^ (short k S).2) ∧ Blk wx g6 39 [.bool ob, .slice oA on oc, .slice oB om od, .slice iA il ic, .int .i64 (S : Nat), .int .i64 ((short k S).2 : Nat), .slice fA fl fc', .slice tA tl tc'] ∧ Below w3.heap.size w3 wx) ⟨Blk.made _ 130 _ _ _ rfl rfl, HR.out.below hal (Nat.le_refl _), OP.out.below hbo (Nat.le_refl _), O6.out.below hbo O6.out.lt, hbo⟩ ?_
    clear hal hbo
    rintro wx ⟨x1, x2, x3, x4, x5⟩
    have X1 := Lib.hid x1
    have X2 := Lib.hid x2
    have X3 := Lib.hid x3
    have X5 := Lib.hid x5
    have HGX := Lib.hid (HG.out.below (HB3.out.trans (x5.mono HB3.out.size)) (Nat.le_refl _))
    have m0 := x1.cell 0
    have m1 := x1.cell 1
    have d0 := x4.cell 0
    have d1 := x4.cell 1
    have d2 := x4.cell 2
    have d3 := x4.cell 3
    have d4 := x4.cell 4
    have d5 := x4.cell 5
    have d6 := x4.cell 6
    have d7 := x4.cell 7
    simp only [List.getElem?_cons_zero, List.getElem?_cons_succ] at m0 m1 d0 d1 d2 d3 d4 d5 d6 d7
    generalize wo.heap.size = g9 at *
    clear x1 x2 x3 x4 x5 q0 q1
    go_wp2_with fail
    refine (rule_Holds wx RA rn rc r HGX.out X2.out HSr.out _ _ _ _ _ _ _ _ _ _ _ _ _ _ _ _ _ _ _ _ _ _ _ _ X3.out (by omega) (by omega)).mono ?_
    rw [HV.out]
    rintro e w5 ⟨rfl, hb5⟩
    have HB5 := Lib.hid (X5.out.trans (hb5.mono X5.out.size))
    have X6 := Lib.hid (X1.out.below hb5 X1.out.lt)
    clear hb5 m0 m1 d0 d1 d2 d3 d4 d5 d6 d7
    have m0 := X6.out.cell 0
    simp only [List.getElem?_cons_zero, List.getElem?_cons_succ] at m0
    rcases Bool.eq_false_or_eq_true (holdsV V r) with hv | hv
    · rw [hv]
      have hsel : selectP m lang (ofVal k S) = ct := by
        unfold selectP
        rw [HVAL.out, HML.out, find_take (p := fun e => holdsV V e.2.2) HE.out hv HNO.out]
        rfl
      have HSEL := Lib.hid hsel
      clear hsel hv
      dsimp only
      go_wp2_with fail
      go_ret
      exact ⟨by rw [HSEL.out]; rfl, HB3.out.trans (HB5.out.mono HB3.out.size)⟩
    · rw [hv]
      have HVF := Lib.hid hv
      clear hv m0
      dsimp only
      go_wp2_with fail
      go_roundw
      case rel =>
        refine ⟨j + 1, by omega, by go_num, fun e' he' => ?_, HB5.out⟩
        rw [List.take_add_one, HE.out] at he'
        rcases List.mem_append.1 he' with h | h
        · exact HNO.out e' h
        · obtain rfl : e' = (ct, rv, r) := by simpa using h
          exact HVF.out
      case measure => simp [intOf]; omega

def ofP (m : PMap) (lang : Bs) : List Bs := (m lang).map (·.1) ++ [wOther]
set_option maxRecDepth 100000 in
set_option maxHeartbeats 32000000 in
theorem plural_Of (w : World) (gp : Nat) (m : PMap) (lang : Bs) (hP : PlW w gp m) (hlang : lang.length ≤ maxLen) :
    Calls Tryz.prog 35 #[.pointer (some ⟨gp, 0, none⟩), .string ⟨lang.toArray⟩] w fun e w' => ∃ v, e = .returned v ∧ OwnS w' w.heap.size v (ofP m lang) ∧ Below w.heap.size w w' := by
  obtain ⟨i9, hi9, hz90, hz91, hz92⟩ := info_parts Tryz_info9
  obtain ⟨gm, n0, W, f, es, hp, hI, hm, hn, -⟩ := hP
  have HI := Lib.hid hI
  have HM := Lib.hid hm
  have hlook := hI.map.look lang hlang
  obtain ⟨LA, lc, hlf, -⟩ := SlC.own (hI.row lang)
  have HLF := Lib.hid hlf
  have hel := hI.few lang
  have helI : ((es lang).length : Int) ≤ 1000 := by omega
  have hmx := maxLen_ge
  rw [hlf] at hlook
  clear hI hm hlf
  go_enter Tryz.func35, Tryz.ntmps35
  go_wp2_with fail
  clear hlook hp
  go_loopw [5, 15] (fun v i wr => ∃ j : Nat, j ≤ (es lang).length ∧ i = .int .i64 j ∧ OwnS wr w.heap.size v (((es lang).take j).map (·.1)) ∧ Below w.heap.size w wr) (fun _ i _ => (es lang).length - (intOf i).toNat)
  case atStart => exact ⟨0, Nat.zero_le _, rfl, World.ownsRow_nil _ _ _ _, Below.refl _ _⟩
  case round =>
    obtain ⟨j, hj, rfl, ho, hb⟩ := hrel
    have HO := Lib.hid ho
    have HB := Lib.hid hb
    have hsz := hb.size
    clear ho hb
    obtain ⟨wo, rfl⟩ : ∃ wo : World, wo = wr := ⟨_, rfl⟩
    by_cases hlt : j < (es lang).length
    case neg =>
      have hjI : ¬ (j : Int) < ((es lang).length : Int) := by omega
      obtain ⟨acc, hacc⟩ : ∃ acc : List Bs, acc = ((es lang).take j).map (·.1) := ⟨_, rfl⟩
      have hof : ofP m lang = acc ++ [wOther] := by
        rw [hacc, List.take_of_length_le (by omega)]
        unfold ofP
        rw [← HM.out]; unfold contents; rw [List.map_map]; rfl
      have hal : acc.length ≤ 1000 := by rw [hacc]; simp; omega
      rw [← hacc] at HO
      have HOF := Lib.hid hof
      clear hof hacc
      go_wp2_with (at_builtin; refine wpList_append_lies _ (by rfl) _ _ 54 (by rfl) w.heap.size 9 i9 (.string ByteArray.empty) 1 16 Tryz.underlying54 hi9 hz90 hz91 hz92 rfl (by decide) _ acc.length (strs acc) (by rfl) (World.ownsRow.alloc HO.out _) ⟨wo.heap.size, 0, none⟩ 1 1 [.string ⟨wOther.toArray⟩] (by rfl) rfl (cell_one_new _ _ _) (by simp [Value.oneCell']) (by omega) (by omega) (by omega) (by simp; omega) (wo.heap.size + 1) (by simp) ?_; intro g' cap' w1 hown hgrow hat hlt'; have HO7 := Lib.hid hown; have HG7 := Lib.hid hgrow; clear hown hgrow hat)
      go_ret
      exact ⟨_, rfl, by rw [HOF.out]; exact ownS_push HO7.out, below_grown (HB.out.alloc HB.out.size _) HG7.out (Nat.le_trans HB.out.size (by simp)) (fun j hj => (World.ownsRow.lt HO.out j hj).1)⟩
    obtain ⟨pb, po, rfl, hc⟩ := HI.out.at lang HLF.out (by omega)
    obtain ⟨⟨ct, rv, r⟩, he⟩ : ∃ e, (es lang)[j]? = some e := ⟨(es lang)[j], List.getElem?_eq_getElem hlt⟩
    obtain ⟨RA, rn, rc, -, c0, c1⟩ := hc j _ he
    dsimp only at c0
    have q0 : wo.cell? ⟨pb, po + j * 2, none⟩ = some (.string ⟨ct.toArray⟩) := (HB.out.cell (World.block_lt_of_cell? w _ c0)).trans c0
    have q1 : wo.cell? ⟨pb, po + j * 2 + 1, none⟩ = some (.slice RA rn rc) := (HB.out.cell (World.block_lt_of_cell? w _ c1)).trans c1
    have hjI : (j : Int) < ((es lang).length : Int) := by omega
    have hj0 : (0 : Int) ≤ (j : Int) := by omega
    obtain ⟨acc, hacc⟩ : ∃ acc : List Bs, acc = ((es lang).take j).map (·.1) := ⟨_, rfl⟩
    have hnx : ((es lang).take (j + 1)).map (·.1) = acc ++ [ct] := by rw [List.take_add_one, he, List.map_append, hacc]; rfl
    have hal : acc.length ≤ 1000 := by rw [hacc]; simp; omega
    rw [← hacc] at HO
    have HN := Lib.hid hnx
    clear hc c0 c1 he hacc hnx
    go_upto_region 5 with fail
    refine wp_letter (fun wx => Blk wx wo.heap.size 130 [.string ⟨ct.toArray⟩, .slice RA rn rc] ∧ OwnS wx w.heap.size u5 acc ∧ Below w.heap.size w wx) ⟨Blk.made _ 130 _ _ _ rfl rfl, HO.out.alloc _, HB.out.alloc HB.out.size _⟩ ?_
    rintro wx ⟨x1, x2, x3⟩
    have X2 := Lib.hid x2
    have X3 := Lib.hid x3
    have hsx := x3.size
    have m0 := x1.cell 0
    have m1 := x1.cell 1
    simp only [List.getElem?_cons_zero, List.getElem?_cons_succ] at m0 m1
    generalize wo.heap.size = g9 at *
    clear x1 x2 x3 q0 q1
    go_wp2_with (at_builtin; refine wpList_append_lies _ (by rfl) _ _ 54 (by rfl) w.heap.size 9 i9 (.string ByteArray.empty) 1 16 Tryz.underlying54 hi9 hz90 hz91 hz92 rfl (by decide) _ acc.length (strs acc) (by rfl) (World.ownsRow.alloc X2.out _) ⟨wx.heap.size, 0, none⟩ 1 1 [.string ⟨ct.toArray⟩] (by rfl) rfl (cell_one_new _ _ _) (by simp [Value.oneCell']) (by omega) (by omega) (by omega) (by simp; omega) (wx.heap.size + 1) (by simp) ?_; intro g' cap' w1 hown hgrow hat hlt'; have HO7 := Lib.hid hown; have HG7 := Lib.hid hgrow; clear hown hgrow hat)
    go_roundw
    case rel => exact ⟨j + 1, by omega, by go_num, by rw [HN.out]; exact ownS_push HO7.out, below_grown (X3.out.alloc X3.out.size _) HG7.out (Nat.le_trans X3.out.size (by simp)) (fun j hj => (World.ownsRow.lt X2.out j hj).1)⟩
    case measure => simp [intOf]; omega
end Go.Proofs.YtdgleeglndcjhaaGreatDoor
/- Package cubitlaw20: english, load, of, awake. -/
namespace Go.Proofs.YtdgleeglndcjhaaGreatDoor
open Go.RowKit
set_option linter.unusedVariables false
set_option linter.unusedSimpArgs false

def enB : Bs := [112, 108, 117, 114, 97, 108, 32, 101, 110, 32, 111, 110, 101, 32, 105, 32, 61, 32, 49, 32, 97, 110, 100, 32, 118, 32, 61, 32, 48, 10, 112, 108, 117, 114, 97, 108, 32, 114, 117, 32, 111, 110, 101, 32, 118, 32, 61, 32, 48, 32, 97, 110, 100, 32, 105, 32, 37, 32, 49, 48, 32, 61, 32, 49, 32, 97, 110, 100, 32, 105, 32, 37, 32, 49, 48, 48, 32, 33, 61, 32, 49, 49, 10, 112, 108, 117, 114, 97, 108, 32, 114, 117, 32, 102, 101, 119, 32, 118, 32, 61, 32, 48, 32, 97, 110, 100, 32, 105, 32, 37, 32, 49, 48, 32, 61, 32, 50, 46, 46, 52, 32, 97, 110, 100, 32, 105, 32, 37, 32, 49, 48, 48, 32, 33, 61, 32, 49, 50, 46, 46, 49, 52, 10, 112, 108, 117, 114, 97, 108, 32, 114, 117, 32, 109, 97, 110, 121, 32, 118, 32, 61, 32, 48, 10]
def wEn : Bs := [101, 110]
def wOne : Bs := [111, 110, 101]
def goodLine (l : Bs) : Bool := decide (Lib.idxFunc oddP true ⟨l.toArray⟩ = -1) && decide ((lineP l).length ≤ 24)
/-- A table of which all is well. -/
def goodText (t : Bs) : Bool := decide (t.length ≤ 60000) && (decide ((splitG 10 t).length ≤ 1000) && ((splitG 10 t).all goodLine && (decide ((rowsP t).length ≤ 1000) && (rowsP t).all fun r => decide (r.2.length ≤ 1000) && r.2.all fun x => decide (x.length ≤ 100000))))
theorem good_enB : goodText enB = true := by decide +kernel
def enM : PMap := (loadAll (rowsP enB)).2.2
theorem en_code : (loadAll (rowsP enB)).1 = 0 := by decide +kernel
theorem en_en : enM wEn = [(wOne, exRule)] := by decide +kernel
/-! ### What a loaded table holds -/
structure GoodM (m : PMap) : Prop where
  small : ∀ k, ∀ e ∈ m k, SmallR e.2
  cat : ∀ k, ∀ e ∈ m k, catP e.1 = true
theorem GoodM.nil : GoodM (fun _ => []) := ⟨fun k e he => (by cases he), fun k e he => (by cases he)⟩
theorem GoodM.put {m : PMap} {ws : List Bs} (h : GoodM m) (h0 : (rowCode m ws).1 = 0) : GoodM (rowPut m ws) := by
  have key : SmallR (rowCode m ws).2 ∧ catP (ws.getD 1 []) = true := by
    unfold rowCode at h0 ⊢
    repeat' split at h0
    all_goals first | (exfalso; simp at h0; done) | skip
    · exfalso; rename_i hne; exact hne h0
    · rename_i h1 h2 h3 h4 h5 h6
      rw [if_neg h1, if_neg h2, if_neg h3, if_neg h4, if_neg h5, if_neg h6]
      refine ⟨?_, by simpa using h3⟩
      rcases parseR_cases (Lib.join (ws.drop 2) [32]) with ⟨r, hr1, hr2⟩ | ⟨e, hr1, hr2⟩
      · rw [hr1]; exact hr2
      · rw [hr1]; exact smallR_nil
  have mem : ∀ k e, e ∈ rowPut m ws k → e ∈ m k ∨ e = (ws.getD 1 [], (rowCode m ws).2) := fun k e he => by
    unfold rowPut at he
    split at he
    · rcases List.mem_append.1 he with h' | h'
      · exact .inl h'
      · exact .inr (List.mem_singleton.1 h')
    · exact .inl he
  refine ⟨fun k e he => ?_, fun k e he => ?_⟩
  · rcases mem k e he with h' | rfl
    · exact h.small k e h'
    · exact key.1
  · rcases mem k e he with h' | rfl
    · exact h.cat k e h'
    · exact key.2
theorem GoodM.load : ∀ (L : List Rw) {m : PMap}, GoodM m → GoodM (loadP m L).2.2
  | [], m, h => h
  | r :: rs, m, h => by
    unfold loadP
    split
    · rename_i h0; exact GoodM.load rs (h.put h0)
    · exact h
theorem goodM_all (L : List Rw) : GoodM (loadAll L).2.2 := GoodM.load _ GoodM.nil

/-! ### The walks -/
theorem plural_SelectS (w : World) (gp : Nat) (m : PMap) (lang : Bs) (b : Bool) (A : Option Addr) (n c k s q : Nat) (hG : GW w) (hP : PlW w gp m) (hM : GoodM m) (hlang : lang.length ≤ maxLen)
    (h : SN w A n c k) (hs : s ≤ 60) (hb : b = true → 0 < k) (hk : k < 2 ^ q) (hq : 200 ≤ q) (hq2 : q ≤ 40000) :
    Calls Tryz.prog 31 #[.pointer (some ⟨gp, 0, none⟩), .string ⟨lang.toArray⟩, .agg #[.bool b, .slice A n c, .int .i64 (s : Nat)]] w fun e w' => e = .returned (.string ⟨(selectP m lang (ofVal k s)).toArray⟩) ∧ Below w.heap.size w w' := by
  have hg := goodD_sn hs hb
  have e1 : decK b (wordsOf k) (s : Nat) = k := by unfold decK; rw [if_pos hg, val_wordsOf]
  have e2 : decS b (wordsOf k) (s : Nat) = s := by unfold decS; rw [if_pos hg]; simp
  have := plural_Select w gp m lang b A n c (wordsOf k) (s : Nat) q hG hP (hM.small lang) hlang h (big_pow hk (by omega)) (by rw [e1]; exact hk) hq hq2
  rw [e1, e2] at this
  exact this
set_option maxRecDepth 100000 in
theorem law_english (w : World) : Calls Tryz.prog 30 #[] w fun e w' => e = .returned (.string ⟨enB.toArray⟩) ∧ Below w.heap.size w w' := by
  go_enter Tryz.func30, Tryz.ntmps30
  go_wp2_with fail
  go_ret
  exact ⟨rfl, Below.refl _ _⟩
set_option maxRecDepth 100000 in
set_option maxHeartbeats 4000000 in
theorem law_load (w : World) (t : Bs) (hG : GW w) (ht : goodText t = true) : Calls Tryz.prog 29 #[.string ⟨t.toArray⟩] w (LoadPost w (rowsP t)) := by
  simp only [goodText, Bool.and_eq_true, decide_eq_true_eq, List.all_eq_true] at ht
  obtain ⟨h1, h2, h3, h4, h5⟩ := ht
  have HG := Lib.hid hG
  have H5 := Lib.hid h5
  have H3 : Hid (∀ l ∈ splitG 10 t, GoodLine l) := fun l hl => by have := h3 l hl; simpa [goodLine, GoodLine] using this
  clear hG h5 h3
  go_enter Tryz.func29, Tryz.ntmps29
  go_wp2_with fail
  refine (rows_Parse w t HG.out h1 h2 H3.out).mono ?_
  rintro e w2 ⟨A, n, c, rfl, hr, hb⟩
  have HR := Lib.hid hr
  have HB := Lib.hid hb
  clear hr hb
  dsimp only
  go_wp2_with fail
  refine (plural_Load w2 A n c (rowsP t) (HG.out.below HB.out (Nat.le_refl _)) HR.out h4 H5.out).mono ?_
  rintro e w3 ⟨hc, hb3⟩
  have HB3 := Lib.hid (HB.out.trans (hb3.mono HB.out.size))
  clear hb3
  rcases hc with ⟨hne, rfl⟩ | ⟨h0, gp, rfl, hP, hgp⟩
  · have HNE := Lib.hid hne
    clear hne
    dsimp only
    go_wp2_with fail
    refine bodyPost_ret (v := .tuple #[.pointer none, .int .i64 (loadAll (rowsP t)).2.1, .int .i64 ((loadAll (rowsP t)).1 : Nat)]) (by simp [results, Tryz.results29, go_sem]; try rfl) rfl ?_
    exact ⟨.inl ⟨HNE.out, rfl⟩, HB3.out⟩
  · have H0 := Lib.hid h0
    have HP := Lib.hid hP
    clear h0 hP
    dsimp only
    go_wp2_with fail
    refine bodyPost_ret (v := .tuple #[.pointer (some ⟨gp, 0, none⟩), .int .i64 0, .int .i64 0]) (by simp [results, Tryz.results29, go_sem]; try rfl) rfl ?_
    exact ⟨.inr ⟨H0.out, gp, rfl, HP.out, Nat.lt_of_le_of_lt HB.out.size hgp⟩, HB3.out⟩
set_option maxRecDepth 100000 in
set_option maxHeartbeats 4000000 in
set_option exponentiation.threshold 5000 in
theorem law_of (w : World) (gp : Nat) (m : PMap) (lang s : Bs) (hG : GW w) (hP : PlW w gp m) (hM : GoodM m) (hlang : lang.length ≤ maxLen) :
    Calls Tryz.prog 33 #[.pointer (some ⟨gp, 0, none⟩), .string ⟨lang.toArray⟩, .string ⟨s.toArray⟩] w fun e w' => e = .returned (.string ⟨(selectP m lang (ofVal (parseD s).2.2.1 (parseD s).2.2.2)).toArray⟩) ∧ Below w.heap.size w w' := by
  have HG := Lib.hid hG
  have HP := Lib.hid hP
  clear hG hP
  obtain ⟨b, k, S, cd, hd, hS, hb, hk⟩ : ∃ b k S cd, parseD s = (cd, b, k, S) ∧ S ≤ 60 ∧ (b = true → 0 < k) ∧ k < 2 ^ (4 * 512) := by
    rcases parseD_cases s with ⟨b, k, sc, h3, hs, hb, hk⟩ | ⟨e, h3, h4⟩
    · exact ⟨b, k, sc, 0, h3, hs, hb, hk⟩
    · exact ⟨false, 0, 0, e, h3, by omega, (fun h => by cases h), Nat.pow_pos (by omega)⟩
  have HD := Lib.hid hd
  have HK := Lib.hid hk
  have HBK := Lib.hid hb
  rw [hd]
  clear hd hk hb
  go_enter Tryz.func33, Tryz.ntmps33
  go_wp2_with fail
  refine (dec_Parse w s HG.out).mono ?_
  unfold ParseDP
  rw [HD.out]
  rintro e w2 ⟨⟨A, n, c, rfl, hx⟩, hb2⟩
  have hal : Below w2.heap.size w2 (w2.alloc (.cells #[.bool b, .slice A n c, .int .i64 (S : Nat)] 26)) := (Below.refl _ _).alloc (Nat.le_refl _) _
  have hbb := hb2.trans (hal.mono hb2.size)
  have X1 := Lib.hid (hx.below hal (Nat.le_refl _))
  have X2 := Lib.hid (HP.out.below hbb)
  have X3 := Lib.hid hbb
  have X4 := Lib.hid (Blk.made w2 26 [.bool b, .slice A n c, .int .i64 (S : Nat)] w2.heap.size #[.bool b, .slice A n c, .int .i64 (S : Nat)] rfl rfl)
  clear hal hbb hx hb2
  dsimp only
  go_upto_region 2 with fail
  refine wp_letter (fun w3 => SN w3 A n c k ∧ PlW w3 gp m ∧ Below w.heap.size w w3 ∧ Blk w3 w2.heap.size 26 [.bool b, .slice A n c, .int .i64 (S : Nat)]) ⟨X1.out, X2.out, X3.out, X4.out⟩ ?_
  clear X1 X2 X3 X4
  rintro w3 ⟨x1, x2, x3, x4⟩
  have X1 := Lib.hid x1
  have X2 := Lib.hid x2
  have X3 := Lib.hid x3
  have m0 := x4.cell 0
  have m1 := x4.cell 1
  have m2 := x4.cell 2
  simp only [List.getElem?_cons_zero, List.getElem?_cons_succ] at m0 m1 m2
  generalize w2.heap.size = g7 at *
  clear x1 x2 x3 x4
  go_wp2_with fail
  refine (plural_SelectS w3 gp m lang b A n c k S (4 * 512) (HG.out.below X3.out (Nat.le_refl _)) X2.out hM hlang X1.out hS HBK.out HK.out (by omega) (by omega)).mono ?_
  rintro e w4 ⟨rfl, hb4⟩
  have HB4 := Lib.hid (X3.out.trans (hb4.mono X3.out.size))
  clear hb4 m0 m1 m2
  dsimp only
  go_wp2_with fail
  go_ret
  exact ⟨rfl, HB4.out⟩
end Go.Proofs.YtdgleeglndcjhaaGreatDoor
