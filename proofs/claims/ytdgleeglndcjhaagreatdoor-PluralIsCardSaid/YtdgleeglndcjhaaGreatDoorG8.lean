/- Package rule: Parse. -/
import Derived.Test.YtdgleeglndcjhaaGreatDoorG7
namespace Go.Proofs.YtdgleeglndcjhaaGreatDoor
open Go.RowKit
set_option linter.unusedVariables false
set_option linter.unusedSimpArgs false

theorem splitG_sub {α : Type} [DecidableEq α] (c : α) : ∀ (l w : List α), w ∈ splitG c l → ∀ t ∈ w, t ∈ l
  | [], w, h, t, ht => by
    have : w = [] := by simpa [splitG] using h
    subst this; cases ht
  | b :: l, w, h, t, ht => by
    by_cases hb : b = c
    · subst hb
      rw [splitG_eq] at h
      rcases List.mem_cons.1 h with rfl | h
      · cases ht
      · exact List.mem_cons_of_mem _ (splitG_sub b l w h t ht)
    · obtain ⟨x, r, e⟩ := splitG_ex c l
      rw [splitG_other hb e] at h
      have ih := splitG_sub c l
      rw [e] at ih
      rcases List.mem_cons.1 h with rfl | h
      · rcases List.mem_cons.1 ht with rfl | ht
        · simp
        · exact List.mem_cons_of_mem _ (ih x (by simp) t ht)
      · exact List.mem_cons_of_mem _ (ih w (by simp [h]) t ht)
/-- What holds at the head of a round over a row's words. -/
def InW (W2 : World) (ws : List (List Bs)) (v i : Value) (wr : World) : Prop :=
  ∃ (j : Nat) (es : List E3), j ≤ ws.length ∧ i = .int .i64 j ∧ all? cond? (ws.take j) = some (es.map (·.1)) ∧ es.length = j ∧ OwnC wr W2.heap.size v es ∧ Below W2.heap.size W2 wr
def OutW (w W3 : World) (rows : List (List Bs)) (i : Value) (wr : World) : Prop :=
  ∃ (k : Nat) (vOr : Value) (xs : List Value) (R : Rl), k ≤ rows.length ∧ i = .int .i64 k ∧ R.length = k ∧ OutI w W3 wr rows k vOr xs R

set_option maxRecDepth 100000 in
set_option maxHeartbeats 8000000 in
theorem rule_Parse (w : World) (s : ByteArray) (hG : GW w) : Calls Tryz.prog 14 #[.string s] w (ParsePost w s.data.toList) := by
  have HG := Lib.hid hG
  have hsl : s.data.toList.length = s.size := (Lib.size_eq s).symm
  obtain ⟨i7, hi7, hz70, hz71, hz72⟩ := info_parts Tryz_info47
  obtain ⟨i8, hi8, hz80, hz81, hz82⟩ := info_parts Tryz_info48
  clear hG
  by_cases hbig : 256 < s.size
  · have hp : parseR s.data.toList = (11, []) := by unfold parseR; rw [if_pos (by omega)]
    have HP := Lib.hid hp
    have hbI : (256 : Int) < (s.size : Int) := by omega
    clear hp hsl
    go_enter Tryz.func14, Tryz.ntmps14
    go_upto_region 1 with fail
    refine wp_letter (fun w1 => Blk w1 w.heap.size 30 [.slice none 0 0] ∧ Below w.heap.size w w1) ⟨Blk.made _ 30 _ _ _ rfl rfl, (Below.refl _ _).alloc (Nat.le_refl _) _⟩ ?_
    rintro w1 ⟨b0, hb⟩
    have HB := Lib.hid hb
    have B0 := Lib.hid b0
    have k0 := b0.cell 0
    have f0 := b0.frozen 0
    simp only [List.getElem?_cons_zero] at k0
    clear hb b0
    go_wp2_with fail
    have hf := B0.out.put 0 (.slice none 0 0)
    have q0 := hf.cell 0
    have hbf := below_set HB.out w.heap.size 0 (Nat.le_refl _) (.slice none 0 0)
    generalize w1.setCell ⟨w.heap.size, 0, none⟩ (.slice none 0 0) = wf at *
    simp only [List.set_cons_zero, List.getElem?_cons_zero] at q0
    refine bodyPost_ret (v := .tuple #[.agg #[.slice none 0 0], .int .i64 11]) (by simp [results, Tryz.results14, go_sem, q0]; try rfl) rfl ?_
    exact ⟨none, 0, 0, by rw [HP.out]; rfl, by rw [HP.out]; exact RuleAreB.nil _ _, hbf⟩
  · have hbI : ¬ (256 : Int) < (s.size : Int) := by omega
    obtain ⟨ws, hws⟩ : ∃ ws, splitG 32 s.data.toList = ws := ⟨_, rfl⟩
    obtain ⟨rows, hrows⟩ : ∃ rows, splitG wOr ws = rows := ⟨_, rfl⟩
    have hp : parseR s.data.toList = match all? row? rows with | none => (2, []) | some r => (0, r) := by
      unfold parseR rule?; rw [if_neg (by omega), hws, hrows]; cases all? row? rows <;> rfl
    have HP := Lib.hid hp
    have hwl : ws.length ≤ 1000 := by rw [← hws]; have := splitG_length 32 s.data.toList; omega
    have hwm : ∀ t ∈ ws, t.length ≤ 1000000 := by rw [← hws]; exact fun t ht => Nat.le_trans (splitG_mem_len 32 _ t ht) (by omega)
    have hrl : rows.length ≤ 1001 := by rw [← hrows]; have := splitG_length wOr ws; omega
    have hrm : ∀ r ∈ rows, r.length ≤ 1000 ∧ ∀ t ∈ r, t.length ≤ 1000000 := by
      rw [← hrows]
      intro r hr
      refine ⟨Nat.le_trans (splitG_mem_len wOr _ r hr) hwl, fun t ht => ?_⟩
      have := splitG_sub wOr ws r hr t ht
      exact hwm t this
    have HRM := Lib.hid hrm
    have HWS := Lib.hid hws
    have HRW := Lib.hid hrows
    clear hp hsl hws hwm hrm hrows
    go_enter Tryz.func14, Tryz.ntmps14
    go_upto_region 4 with fail
    refine wp_letter (fun w1 => Blk w1 w.heap.size 30 [.slice none 0 0] ∧ Blk w1 (w.heap.size + 1) 30 [.slice none 0 0] ∧ Below w.heap.size w w1) ⟨(Blk.made _ 30 _ _ _ rfl rfl).alloc _, Blk.made _ 30 _ _ _ (by simp) rfl, ((Below.refl _ _).alloc (Nat.le_refl _) _).alloc (by simp) _⟩ ?_
    rintro w1 ⟨b0, b1, hb⟩
    have HB := Lib.hid hb
    have B0 := Lib.hid b0
    have B1 := Lib.hid b1
    clear hb b0 b1
    go_wp2_with fail
    refine (str_split s 32 w1 (HG.out.below HB.out (Nat.le_refl _)) (by omega)).mono ?_
    rintro e w2 ⟨⟨A, n, c, rfl, hS⟩, hb2⟩
    rw [HWS.out] at hS
    have HS := Lib.hid hS
    have HB2 := Lib.hid hb2
    clear hS hb2
    dsimp only
    go_wp2_with fail
    refine (rule_cut w2 A n c ws ⟨#[111, 114]⟩ HS.out (by omega)).mono ?_
    rintro e w3 ⟨⟨A', n', c', rfl, hR⟩, hb3⟩
    have hR' : RowsAre w3 w2.heap.size A' n' c' rows := by rw [← HRW.out]; exact hR
    have hn := hR'.len
    subst hn
    have HR := Lib.hid hR'
    have h23 : w.heap.size + 2 ≤ w2.heap.size := by have := B1.out.lt; have := HB2.out.size; omega
    have h33 : w2.heap.size ≤ w3.heap.size := hb3.size
    have HB3 := Lib.hid (HB2.out.trans (hb3.mono HB2.out.size))
    have C0 := Lib.hid (B0.out.below HB3.out B0.out.lt)
    have C1 := Lib.hid (B1.out.below HB3.out B1.out.lt)
    have HB4 := Lib.hid (HB.out.trans (HB3.out.mono HB.out.size))
    clear hR hR' hb3 HS HB2 B0 B1 HB HB3
    have hrI : (rows.length : Int) ≤ 1001 := by omega
    dsimp only
    go_wp2_with fail
    go_loopw [20] (OutW w w3 rows) (fun i _ => rows.length - (intOf i).toNat)
    case atStart =>
      exact ⟨0, _, [], [], Nat.zero_le _, rfl, rfl, rfl, C0.out, C1.out, World.ownsRow_nil _ _ _ _, by omega, ⟨rfl, rfl, rfl, Nat.le_refl _, fun _ _ _ => rfl⟩, .nil, HB4.out⟩
    case round =>
      obtain ⟨k, vOr, xs, R, hk, rfl, hRk, hI⟩ := hrel
      subst hRk
      by_cases hlt : R.length < rows.length
      · obtain ⟨b, o, rfl, hbB, hc⟩ := HR.out.at (by omega)
        obtain ⟨row, hrow⟩ : ∃ r, rows[R.length]? = some r := ⟨rows[R.length], List.getElem?_eq_getElem hlt⟩
        obtain ⟨rA, rn, rc, hc1, hS, hSb⟩ := hc R.length row hrow
        have hsame : ∀ b, b < w3.heap.size → w2.heap.size ≤ b → wr.heap[b]? = w3.heap[b]? := fun b hb hb2 => hI.gr.block b hb (by intro e; cases e; omega)
        have hck : wr.cell? ⟨b, o + R.length, none⟩ = some (.slice rA rn rc) := (World.cell?_of_block (hsame b (World.block_lt_of_cell? w3 _ hc1) hbB)).trans hc1
        have hSr : StrsAre wr rA rn rc row := SlC.stable hS fun k hk hlt => hsame k hlt (hSb k hk)
        have hrm := HRM.out row (List.mem_of_getElem? hrow)
        have hrn := hSr.len
        subst hrn
        have hGr := HG.out.below hI.bel (Nat.le_refl _)
        have hkI : (R.length : Int) < (rows.length : Int) := by omega
        have hk0 : (0 : Int) ≤ (R.length : Int) := by omega
        have HROW := Lib.hid hrow
        have HI := Lib.hid hI
        have HSR := Lib.hid hSr
        have HGR := Lib.hid hGr
        have HRW2 := Lib.hid hrm
        clear hc hc1 hS hSb hsame hrow hI hSr hGr hrm
        obtain ⟨wo, rfl⟩ : ∃ wo : World, wo = wr := ⟨_, rfl⟩
        go_wp2_with fail
        refine (rule_cut wo rA row.length rc row ⟨#[97, 110, 100]⟩ HSR.out (by have := HRW2.out.1; omega)).mono ?_
        rintro e w4 ⟨⟨A2, n2, c2, rfl, hR2⟩, hb4⟩
        obtain ⟨crow, hcrow⟩ : ∃ crow, splitG wAnd row = crow := ⟨_, rfl⟩
        have hR3 : RowsAre w4 wo.heap.size A2 n2 c2 crow := by rw [← hcrow]; exact hR2
        have hn2 := hR3.len
        subst hn2
        have hcl : crow.length ≤ 1001 := by rw [← hcrow]; have := splitG_length wAnd row; have := HRW2.out.1; omega
        have hcm : ∀ r ∈ crow, r.length ≤ 1000 ∧ ∀ t ∈ r, t.length ≤ 1000000 := by
          rw [← hcrow]
          exact fun r hr => ⟨Nat.le_trans (splitG_mem_len wAnd _ r hr) HRW2.out.1, fun t ht => HRW2.out.2 t (splitG_sub wAnd row r hr t ht)⟩
        have hrowc : row? row = all? cond? crow := by unfold row?; rw [hcrow]
        have HRC := Lib.hid hrowc
        have HCM := Lib.hid hcm
        have HR3 := Lib.hid hR3
        have HB4' := Lib.hid hb4
        have HI4 := Lib.hid (HI.out.below hb4)
        have hclI : (crow.length : Int) ≤ 1001 := by omega
        have hw4 := hb4.size
        have hww : w.heap.size + 2 ≤ w4.heap.size := Nat.le_trans HI.out.two (Nat.le_trans HI.out.gr.size hw4)
        clear hR2 hcrow hR3 hcm hrowc hb4 hck
        dsimp only
        go_wp2_with fail
        go_loopw [7, 27] (InW w4 crow) (fun _ i _ => crow.length - (intOf i).toNat)
        case atStart => exact ⟨0, [], Nat.zero_le _, rfl, rfl, rfl, OwnC.nil _ _, Below.refl _ _⟩
        case round =>
          obtain ⟨j, es, hj, rfl, hes, hel, hO, hbi⟩ := hrel
          subst hel
          by_cases hjl : es.length < crow.length
          · obtain ⟨b2, o2, rfl, -, hc⟩ := HR3.out.at (by omega)
            obtain ⟨wd, hwd⟩ : ∃ r, crow[es.length]? = some r := ⟨crow[es.length], List.getElem?_eq_getElem hjl⟩
            obtain ⟨dA, dn, dc, hc1, hS, -⟩ := hc es.length wd hwd
            have hck2 : wr.cell? ⟨b2, o2 + es.length, none⟩ = some (.slice dA dn dc) := (hbi.cell (World.block_lt_of_cell? w4 _ hc1)).trans hc1
            have hSd := hS.below hbi (Nat.le_refl _)
            have hdm := HCM.out wd (List.mem_of_getElem? hwd)
            have hGd := HG.out.below (HI4.out.bel.trans (hbi.mono HI4.out.bel.size)) (Nat.le_refl _)
            have hjI : (es.length : Int) < (crow.length : Int) := by omega
            have hj0 : (0 : Int) ≤ (es.length : Int) := by omega
            have HWD := Lib.hid hwd
            have HES := Lib.hid hes
            have HO := Lib.hid hO
            have HBI := Lib.hid hbi
            have HSD := Lib.hid hSd
            have HGD := Lib.hid hGd
            have HDM := Lib.hid hdm
            clear hc hc1 hS hwd hes hO hbi hSd hGd hdm
            go_wp2_with fail
            refine (rule_cond wr dA dn dc wd HGD.out HSD.out (by have := HDM.out.1; omega) HDM.out.2).mono ?_
            rintro e w5 ⟨l, m, nt, vF, vT, hb5, hpost⟩
            have HB5 := Lib.hid hb5
            have HO5 := Lib.hid (HO.out.below hb5)
            have HBI5 := Lib.hid (HBI.out.trans (hb5.mono HBI.out.size))
            have HVB : Hid (∀ k, u7.ownBlock = some k → k < wr.heap.size) := fun k hk => (World.ownsRow.lt HO.out.own k hk).2
            clear hb5 hck2
            rcases hpost with ⟨cd, hcd, rfl, ⟨FA, fn, fc, rfl⟩, ⟨TA, tn, tc, rfl⟩, hcv⟩ | ⟨hcd, rfl, ⟨FA, fn, fc, rfl⟩, ⟨TA, tn, tc, rfl⟩⟩
            · obtain ⟨rfl, rfl, rfl, hiF, hiT⟩ := hcv
              have HCD := Lib.hid hcd
              have HOK : Hid (IntsOk w5 w4.heap.size (cd, .slice FA fn fc, .slice TA tn tc)) := ⟨hiF.mono HBI.out.size, hiT.mono HBI.out.size, ⟨_, _, _, rfl⟩, ⟨_, _, _, rfl⟩⟩
              have HAP : Hid (∀ k, Value.ownBlock (.slice FA fn fc) = some k ∨ Value.ownBlock (.slice TA tn tc) = some k → u7.ownBlock ≠ some k) := by
                intro k hk e
                have h1 := HVB.out k e
                rcases hk with hk | hk
                · have := (hiF.2 k hk).1; omega
                · have := (hiT.2 k hk).1; omega
              clear hiF hiT hcd
              dsimp only
              go_upto_region 12 with fail
              generalize hg10 : w5.heap.size = g10
              refine wp_letter (fun w6 => Blk w6 g10 47 [.int .u8 (cd.letter : Int), .int .i64 cd.mod, .bool cd.nt, .slice FA fn fc, .slice TA tn tc] ∧ OwnC w6 w4.heap.size u7 es ∧ IntsOk w6 w4.heap.size (cd, .slice FA fn fc, .slice TA tn tc) ∧ Below w4.heap.size w4 w6)
                ⟨Blk.made _ 47 _ _ _ hg10.symm rfl, HO5.out.alloc _, HOK.out.kept (by simp) (fun k hk => Below.heap_alloc _ _ _ (HOK.out.lt hk).2), HBI5.out.alloc HBI5.out.size _⟩ ?_
              clear HO5 HOK HBI5 HB5 hg10
              rintro w6 ⟨d10, ho6, hok6, hbi6⟩
              have D10 := Lib.hid d10
              have HO6 := Lib.hid ho6
              have HOK6 := Lib.hid hok6
              have HBI6 := Lib.hid hbi6
              have z6 := hbi6.size
              have k0 := d10.cell 0
              have k1 := d10.cell 1
              have k2 := d10.cell 2
              have k3 := d10.cell 3
              have k4 := d10.cell 4
              simp only [List.getElem?_cons_zero, List.getElem?_cons_succ] at k0 k1 k2 k3 k4
              clear d10 ho6 hok6 hbi6
              have hmx := maxLen_ge
              go_wp2_with (at_builtin; refine wpList_append_lies _ (by rfl) (.tmp 39) (.tmp 41) 48 (by rfl) w4.heap.size 47 i7 (.agg #[.int .u8 0, .int .i64 0, .bool false, .slice none 0 0, .slice none 0 0]) 5 72 Tryz.underlying48 hi7 hz70 hz71 hz72 rfl (by decide) u7 es.length (cellsC es) (by rfl) (World.ownsRow.alloc HO6.out.own _) ⟨w6.heap.size, 0, none⟩ 1 1 (five (cd, .slice FA fn fc, .slice TA tn tc)) (by rfl) rfl (World.news_of_block (heap_alloc_new w6 _)) (five_one _ ⟨⟨_, _, _, rfl⟩, ⟨_, _, _, rfl⟩⟩) (by omega) (by omega) (by omega) (by simp; omega) (w6.heap.size + 1) (by simp) ?_; intro g1 cap1 w7 hown hgrow hat hlt7; have HO7 := Lib.hid hown; have HG7 := Lib.hid hgrow; have HAT7 := Lib.hid hat; clear hown hgrow hat)
              go_roundw
              case rel =>
                refine ⟨es.length + 1, es ++ [(cd, .slice FA fn fc, .slice TA tn tc)], by omega, by go_num, ?_, by simp, ?_, ?_⟩
                · rw [List.take_add_one, HWD.out, List.map_append]; exact all?_snoc HES.out HCD.out
                · exact (HO6.out.alloc _).push ((HOK6.out).kept (by simp) (fun k hk => Below.heap_alloc _ _ _ (HOK6.out.lt hk).2)) HAP.out HG7.out HO7.out (HAT7.out.imp id fun h => by rw [h]; simp)
                · exact below_grown (HBI6.out.alloc HBI6.out.size _) HG7.out (Nat.le_trans HBI6.out.size (by simp)) (fun k hk => (World.ownsRow.lt HO6.out.own k hk).1)
              case measure => simp [intOf]; omega
            · dsimp only
              go_upto_region 12 with fail
              refine wp_letter (fun w6 => Blk w6 w.heap.size 30 [.slice none 0 0] ∧ Below w.heap.size w w6) ⟨(HI4.out.res.below HBI5.out HI4.out.res.lt).alloc _, (HI4.out.bel.trans (HBI5.out.mono HI4.out.bel.size)).alloc (Nat.le_trans HI4.out.bel.size HBI5.out.size) _⟩ ?_
              rintro w6 ⟨b6, hb6⟩
              have B6 := Lib.hid b6
              have HB6 := Lib.hid hb6
              have k0 := b6.cell 0
              have f0 := b6.frozen 0
              simp only [List.getElem?_cons_zero] at k0
              clear b6 hb6
              go_wp2_with fail
              have hf := B6.out.put 0 (.slice none 0 0)
              have q0 := hf.cell 0
              have hbf := below_set HB6.out w.heap.size 0 (Nat.le_refl _) (.slice none 0 0)
              have hP2 : parseR s.data.toList = (2, []) := by rw [HP.out, all?_bad HROW.out (by rw [HRC.out]; exact all?_bad HWD.out hcd)]
              generalize w6.setCell ⟨w.heap.size, 0, none⟩ (.slice none 0 0) = wf at *
              simp only [List.set_cons_zero, List.getElem?_cons_zero] at q0
              refine bodyPost_ret (v := .tuple #[.agg #[.slice none 0 0], .int .i64 2]) (by simp [results, Tryz.results14, go_sem, q0]; try rfl) rfl ?_
              exact ⟨none, 0, 0, by rw [hP2]; rfl, by rw [hP2]; exact RuleAreB.nil _ _, hbf⟩
          · have hj2 : es.length = crow.length := by omega
            have hjI : ¬ (es.length : Int) < (crow.length : Int) := by omega
            rw [List.take_of_length_le (by omega)] at hes
            clear hj2
            have hro : row? row = some (es.map (·.1)) := by rw [HRC.out]; exact hes
            have hcb := hO.conds
            obtain ⟨LA, ln, lc, rfl⟩ := hcb.form
            have HROK := Lib.hid hro
            have HCB := Lib.hid (hcb.mono hw4)
            have HBW := Lib.hid (HB4'.out.trans (hbi.mono HB4'.out.size))
            have hI5 := HI4.out.below (hbi.mono (Nat.le_refl _))
            have HI5 := Lib.hid hI5
            obtain ⟨A9, n9, c9, rfl, -⟩ := hI5.fin (.slice none 0 0)
            have k1 := hI5.rule.cell 0
            simp only [List.getElem?_cons_zero] at k1
            have hRl : R.length ≤ 1001 := by omega
            have hmx := maxLen_ge
            have hz3 := hI5.gr.size
            clear hO hes hro hcb hI5 hbi
            go_wp2_with (at_builtin; refine wpList_append_lies _ (by rfl) (.tmp 45) (.tmp 47) 28 (by rfl) w3.heap.size 48 i8 (.slice none 0 0) 1 24 Tryz.underlying28 hi8 hz80 hz81 hz82 rfl (by decide) (.slice A9 n9 c9) R.length xs (by rfl) (World.ownsRow.alloc HI5.out.own _) ⟨wr.heap.size, 0, none⟩ 1 1 [.slice LA ln lc] (by rfl) rfl (cell_one_new _ _ _) (by simp [Value.oneCell']) (by omega) (by omega) (by omega) (by simp; omega) (wr.heap.size + 1) (by simp) ?_; intro g1 cap1 w7 hown hgrow hat hlt7; obtain ⟨hp, kc, kf⟩ := HI.out.push HROW.out HROK.out (HBW.out.alloc HBW.out.size _) (HCB.out.stable (by simp) fun b _ hb => Below.heap_alloc _ _ _ hb) hgrow hown (hat.imp id fun h => by rw [h]; simp); have HP7 := Lib.hid hp; clear hown hgrow hat hp)
            go_roundw
            case rel => exact ⟨R.length + 1, _, _, _, by omega, by go_num, by simp, HP7.out⟩
            case measure => simp [intOf]; omega
      · have hk2 : R.length = rows.length := by omega
        have hkI : ¬ (R.length : Int) < (rows.length : Int) := by omega
        have hpa := hI.parsed
        rw [List.take_of_length_le (by omega)] at hpa
        clear hk2
        have hP2 : parseR s.data.toList = (0, R) := by rw [HP.out, hpa]
        have HP2 := Lib.hid hP2
        have HI := Lib.hid hI
        obtain ⟨A9, n9, c9, rfl, -⟩ := hI.fin (.slice none 0 0)
        have k0 := hI.res.cell 0
        have f0 := hI.res.frozen 0
        have k1 := hI.rule.cell 0
        simp only [List.getElem?_cons_zero] at k0 k1
        clear hI hpa hP2
        go_wp2_with fail
        have hf := HI.out.res.put 0 (.slice A9 n9 c9)
        have q0 := hf.cell 0
        have hbf := below_set HI.out.bel w.heap.size 0 (Nat.le_refl _) (.slice A9 n9 c9)
        obtain ⟨A8, n8, c8, e8, hru⟩ := HI.out.fin (.slice A9 n9 c9)
        cases e8
        generalize wr.setCell ⟨w.heap.size, 0, none⟩ (.slice A9 n9 c9) = wf at *
        simp only [List.set_cons_zero, List.getElem?_cons_zero] at q0
        refine bodyPost_ret (v := .tuple #[.agg #[.slice A9 n9 c9], .int .i64 0]) (by simp [results, Tryz.results14, go_sem, q0]; try rfl) rfl ?_
        exact ⟨A9, n9, c9, by rw [HP2.out]; rfl, by rw [HP2.out]; exact hru, hbf⟩
end Go.Proofs.YtdgleeglndcjhaaGreatDoor
