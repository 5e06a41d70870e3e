/- Package rule: write of a rule. -/
import Derived.Test.YtdgleeglndcjhaaGreatDoorGa
namespace Go.Proofs.YtdgleeglndcjhaaGreatDoor
open Go.RowKit
set_option linter.unusedVariables false
set_option linter.unusedSimpArgs false

/-- The slice holds these conditions. -/
def CondsIs (w : World) (A : Option Addr) (n c : Nat) (l : List Cnd) : Prop :=
  ∃ es : List E3, es.map (·.1) = l ∧ SlC w (.slice A n c) 5 es.length (cellsC es) ∧ ∀ e ∈ es, IntsV w e.2.1 e.1.fr ∧ IntsV w e.2.2 e.1.to
theorem CondsIs.below {w w' : World} {A : Option Addr} {n c B : Nat} {l : List Cnd} (h : CondsIs w A n c l) (hb : Below B w w') (hB : w.heap.size ≤ B) : CondsIs w' A n c l := by
  obtain ⟨es, h1, h2, h3⟩ := h
  exact ⟨es, h1, h2.below hb hB, fun e he => ⟨(h3 e he).1.below hb hB, (h3 e he).2.below hb hB⟩⟩
theorem CondsIs.len {w : World} {A : Option Addr} {n c : Nat} {l : List Cnd} (h : CondsIs w A n c l) : n = l.length := by
  obtain ⟨es, rfl, ⟨A', c', h1, -⟩, -⟩ := h
  simpa using (Value.slice.inj h1).2.1
theorem CondsIs.at {w : World} {A : Option Addr} {n c : Nat} {l : List Cnd} (h : CondsIs w A n c l) (h0 : 0 < l.length) : ∃ b o, A = some ⟨b, o, none⟩ ∧ ∀ (j : Nat) (x : Cnd), l[j]? = some x → ∃ FA fn fc TA tn tc, IntsAre w FA fn fc x.fr ∧ IntsAre w TA tn tc x.to ∧
    w.cell? ⟨b, o + j * 5, none⟩ = some (.int .u8 (x.letter : Int)) ∧ w.cell? ⟨b, o + j * 5 + 1, none⟩ = some (.int .i64 x.mod) ∧ w.cell? ⟨b, o + j * 5 + 2, none⟩ = some (.bool x.nt) ∧ w.cell? ⟨b, o + j * 5 + 3, none⟩ = some (.slice FA fn fc) ∧ w.cell? ⟨b, o + j * 5 + 4, none⟩ = some (.slice TA tn tc) := by
  obtain ⟨es, rfl, ⟨A', c', h1, h2, h3, h4⟩, h5⟩ := h
  obtain ⟨b, o, h6, h7⟩ := h4 (by rw [cellsC_len]; simp at h0; omega)
  obtain ⟨rfl, -, -⟩ := Value.slice.inj h1
  refine ⟨b, o, h6, fun j x hx => ?_⟩
  rw [List.getElem?_map] at hx
  obtain ⟨e, he, rfl⟩ := Option.map_eq_some_iff.1 hx
  obtain ⟨⟨FA, fn, fc, e1, hF⟩, ⟨TA, tn, tc, e2, hT⟩⟩ := h5 e (List.mem_of_getElem? he)
  have key : ∀ i u, i < 5 → (five e)[i]? = some u → w.cell? ⟨b, o + j * 5 + i, none⟩ = some u := fun i u hi hu => by
    rw [Nat.add_assoc]; exact h7 _ _ (by rw [cellsC_at es j i e he hi]; exact hu)
  exact ⟨FA, fn, fc, TA, tn, tc, hF, hT, key 0 _ (by omega) rfl, key 1 _ (by omega) rfl, key 2 _ (by omega) rfl, key 3 _ (by omega) (by simp [five, e1]), key 4 _ (by omega) (by simp [five, e2])⟩
/-- The slice holds this rule's rows; however it came to be. -/
def RuleIs (w : World) (A : Option Addr) (n c : Nat) (r : Rl) : Prop :=
  ∃ xs : List Value, SlC w (.slice A n c) 1 r.length xs ∧ F2 (fun x l => ∃ A n c, x = .slice A n c ∧ CondsIs w A n c l) xs r
theorem RuleIs.below {w w' : World} {A : Option Addr} {n c B : Nat} {r : Rl} (h : RuleIs w A n c r) (hb : Below B w w') (hB : w.heap.size ≤ B) : RuleIs w' A n c r := by
  obtain ⟨xs, h1, h2⟩ := h
  exact ⟨xs, h1.below hb hB, h2.mono fun x l ⟨A, n, c, e, k⟩ => ⟨A, n, c, e, k.below hb hB⟩⟩
theorem RuleIs.len {w : World} {A : Option Addr} {n c : Nat} {r : Rl} (h : RuleIs w A n c r) : n = r.length := by
  obtain ⟨xs, ⟨A', c', h1, -⟩, -⟩ := h
  exact (Value.slice.inj h1).2.1
theorem RuleIs.at {w : World} {A : Option Addr} {n c : Nat} {r : Rl} (h : RuleIs w A n c r) (h0 : 0 < r.length) : ∃ b o, A = some ⟨b, o, none⟩ ∧ ∀ (j : Nat) (l : List Cnd), r[j]? = some l → ∃ A n c, w.cell? ⟨b, o + j, none⟩ = some (.slice A n c) ∧ CondsIs w A n c l := by
  obtain ⟨xs, ⟨A', c', h1, h2, h3, h4⟩, h5⟩ := h
  obtain ⟨b, o, h6, h7⟩ := h4 (by omega)
  obtain ⟨rfl, -, -⟩ := Value.slice.inj h1
  refine ⟨b, o, h6, fun j l hl => ?_⟩
  obtain ⟨x, hx, A, n, c, rfl, hc⟩ := h5.at j l hl
  exact ⟨A, n, c, h7 j _ hx, hc⟩
theorem RuleAre.is {w : World} {A : Option Addr} {n c : Nat} {r : Rl} (h : RuleAre w A n c r) : RuleIs w A n c r := by
  obtain ⟨xs, h1, h2⟩ := h
  refine ⟨xs, h1, h2.mono fun x l ⟨lo, k⟩ => ?_⟩
  obtain ⟨A, n, c, rfl⟩ := k.form
  obtain ⟨es, k1, k2, k3, k4⟩ := k
  exact ⟨A, n, c, rfl, es, k1, k2, fun e he => ⟨(k3 e he).1.1, (k3 e he).2.1.1⟩⟩
theorem RuleAreB.is {lo : Nat} {w : World} {A : Option Addr} {n c : Nat} {r : Rl} (h : RuleAreB lo w A n c r) : RuleIs w A n c r := h.are.is
structure SmallR (r : Rl) : Prop where
  len : r.length ≤ 1000
  rows : ∀ l ∈ r, l.length ≤ 1000 ∧ ∀ c ∈ l, SmallC c
theorem writeL_len {l : List Cnd} (h : l.length ≤ 1000 ∧ ∀ c ∈ l, SmallC c) : (writeL l).length ≤ 60000000 := by
  have := join_le [32, 97, 110, 100, 32] 1000 50000 (l.map writeC) (fun w hw => by obtain ⟨c, hc, rfl⟩ := List.mem_map.1 hw; exact writeC_len (h.2 c hc)) (by simpa using h.1)
  unfold writeL
  simp at this ⊢; omega
theorem writeR_len {r : Rl} (h : SmallR r) : (writeR r).length ≤ 70000000000 := by
  have := join_le [32, 111, 114, 32] 1000 60000000 (r.map writeL) (fun w hw => by obtain ⟨l, hl, rfl⟩ := List.mem_map.1 hw; exact writeL_len (h.rows l hl)) (by simpa using h.len)
  unfold writeR
  simp at this ⊢; omega
theorem ownS_push {w1 : World} {B g cap : Nat} {ws : List Bs} {t : Bs} (ho : w1.ownsRow B 9 1 (.slice (some ⟨g, 0, none⟩) (ws.length + 1) cap) (ws.length + 1) (strs ws ++ [.string ⟨t.toArray⟩])) : OwnS w1 B (.slice (some ⟨g, 0, none⟩) (ws.length + 1) cap) (ws ++ [t]) := by
  show World.ownsRow _ _ 9 1 _ (ws ++ [t]).length (strs (ws ++ [t]))
  rw [strs_app, List.length_append]; exact ho
def InR (W2 : World) (l : List Cnd) (v i : Value) (wr : World) : Prop :=
  ∃ (j : Nat) (L : List Bs), j ≤ l.length ∧ i = .int .i64 j ∧ L = (l.take j).map writeC ∧ L.length = j ∧ OwnS wr W2.heap.size v L ∧ Below W2.heap.size W2 wr
def OutR (W : World) (r : Rl) (v i : Value) (wr : World) : Prop :=
  ∃ (k : Nat) (L : List Bs), k ≤ r.length ∧ i = .int .i64 k ∧ L = (r.take k).map writeL ∧ L.length = k ∧ OwnS wr W.heap.size v L ∧ Below W.heap.size W wr

set_option maxRecDepth 100000 in
set_option maxHeartbeats 8000000 in
theorem rule_write (w : World) (A : Option Addr) (n c : Nat) (r : Rl) (hG : GW w) (h : RuleIs w A n c r) (hs : SmallR r) :
    Calls Tryz.prog 58 #[.agg #[.slice A n c]] w fun e w' => e = .returned (.string ⟨(writeR r).toArray⟩) ∧ Below w.heap.size w w' := by
  obtain rfl : n = r.length := h.len
  obtain ⟨i9, hi9, hz90, hz91, hz92⟩ := info_parts Tryz_info9
  have HG := Lib.hid hG
  have HX := Lib.hid h
  have HS := Lib.hid hs
  have hrl := hs.len
  have hrI : (r.length : Int) ≤ 1000 := by omega
  clear hG h hs
  go_enter Tryz.func58, Tryz.ntmps58
  go_upto_region 1 with fail
  refine wp_letter (fun w1 => Blk w1 w.heap.size 30 [.slice A r.length c] ∧ Below w.heap.size w w1) ⟨Blk.made _ 30 _ _ _ rfl rfl, (Below.refl _ _).alloc (Nat.le_refl _) _⟩ ?_
  rintro w1 ⟨b0, hb⟩
  have HB := Lib.hid hb
  have HX1 := Lib.hid (HX.out.below hb (Nat.le_refl _))
  have k0 := b0.cell 0
  simp only [List.getElem?_cons_zero] at k0
  have hz1 := b0.lt
  clear b0 hb
  go_wp2_with fail
  go_loopw [3, 12] (OutR w1 r) (fun _ i _ => r.length - (intOf i).toNat)
  case atStart => exact ⟨0, [], Nat.zero_le _, rfl, rfl, rfl, World.ownsRow_nil _ _ _ _, Below.refl _ _⟩
  case round =>
    obtain ⟨k, L, hk, rfl, hL, hLk, hO, hb⟩ := hrel
    subst hLk
    have HL := Lib.hid hL
    have HO := Lib.hid hO
    have HBR := Lib.hid hb
    have HBW := Lib.hid (HB.out.trans (hb.mono HB.out.size))
    clear hL hO hb
    by_cases hlt : L.length < r.length
    · obtain ⟨b, o, hA, hc⟩ := (HX1.out.below HBR.out (Nat.le_refl _)).at (by omega)
      subst hA
      obtain ⟨l, hl⟩ : ∃ l, r[L.length]? = some l := ⟨r[L.length], List.getElem?_eq_getElem hlt⟩
      obtain ⟨lA, ln, lc, hck, hcs⟩ := hc L.length l hl
      have hsl := HS.out.rows l (List.mem_of_getElem? hl)
      have HLL := Lib.hid hl
      have HCS := Lib.hid hcs
      have HSL := Lib.hid hsl
      obtain rfl : ln = l.length := hcs.len
      have hkI : (L.length : Int) < (r.length : Int) := by omega
      have hk0 : (0 : Int) ≤ (L.length : Int) := by omega
      have hll : l.length ≤ 1000 := hsl.1
      have hlI : (l.length : Int) ≤ 1000 := by omega
      clear hc hl hcs hsl
      obtain ⟨wo, rfl⟩ : ∃ wo : World, wo = wr := ⟨_, rfl⟩
      go_wp2_with fail
      go_loopw [6, 18] (InR wo l) (fun _ i _ => l.length - (intOf i).toNat)
      case atStart => exact ⟨0, [], Nat.zero_le _, rfl, rfl, rfl, World.ownsRow_nil _ _ _ _, Below.refl _ _⟩
      case round =>
        obtain ⟨j, L2, hj, rfl, hL2, hLj, hO2, hb2⟩ := hrel
        subst hLj
        have HL2 := Lib.hid hL2
        have HO2 := Lib.hid hO2
        have HB2 := Lib.hid hb2
        clear hL2 hO2 hb2
        by_cases hjl : L2.length < l.length
        · obtain ⟨b2, o2, hA2, hc2⟩ := (HCS.out.below HB2.out (Nat.le_refl _)).at (by omega)
          subst hA2
          obtain ⟨x, hx⟩ : ∃ x, l[L2.length]? = some x := ⟨l[L2.length], List.getElem?_eq_getElem hjl⟩
          obtain ⟨FA, fn, fc, TA, tn, tc, hF, hT, c0, c1, c2, c3, c4⟩ := hc2 L2.length x hx
          have hsx := HSL.out.2 x (List.mem_of_getElem? hx)
          have HXX := Lib.hid hx
          have HF := Lib.hid hF
          have HT := Lib.hid hT
          have HSX := Lib.hid hsx
          have hjI : (L2.length : Int) < (l.length : Int) := by omega
          have hj0 : (0 : Int) ≤ (L2.length : Int) := by omega
          clear hc2 hx hF hT hsx
          go_wp2_with fail
          have hba := (Below.refl wr.heap.size wr).alloc (Nat.le_refl _) (.cells #[.int .u8 (x.letter : Int), .int .i64 x.mod, .bool x.nt, .slice FA fn fc, .slice TA tn tc] 47)
          refine (cond_write _ x FA TA fn fc tn tc ((HG.out.below (HBW.out.trans (HB2.out.mono HBW.out.size)) (Nat.le_refl _)).below hba (Nat.le_refl _)) (HF.out.below hba (Nat.le_refl _)) (HT.out.below hba (Nat.le_refl _)) HSX.out).mono ?_
          rintro e w5 ⟨rfl, hb5⟩
          have hb6 := hba.trans (hb5.mono hba.size)
          have O5 := Lib.hid (own_kept_below HO2.out hb6)
          have HBZ := Lib.hid (HB2.out.trans (hb6.mono HB2.out.size))
          have hmx := maxLen_ge
          clear hba hb5 hb6 c0 c1 c2 c3 c4
          dsimp only
          go_wp2_with (at_builtin; refine wpList_append_lies _ (by rfl) (.tmp 22) (.tmp 25) 54 (by rfl) wo.heap.size 9 i9 (.string ByteArray.empty) 1 16 Tryz.underlying54 hi9 hz90 hz91 hz92 rfl (by decide) _ L2.length (strs L2) (by rfl) (World.ownsRow.alloc O5.out _) ⟨w5.heap.size, 0, none⟩ 1 1 [.string ⟨(writeC x).toArray⟩] (by rfl) rfl (cell_one_new _ _ _) (by simp [Value.oneCell']) (by omega) (by omega) (by omega) (by have := HBZ.out.size; simp; omega) (w5.heap.size + 1) (by simp) ?_; intro g1 cap1 w7 hown hgrow hat hlt7; have HO7 := Lib.hid hown; have HG7 := Lib.hid hgrow; clear hown hgrow hat)
          go_roundw
          case rel =>
            refine ⟨L2.length + 1, L2 ++ [writeC x], by omega, by go_num, ?_, by simp, ownS_push HO7.out, below_grown (HBZ.out.alloc HBZ.out.size _) HG7.out (by have := HBZ.out.size; simp; omega) (fun j hj => (World.ownsRow.lt O5.out j hj).1)⟩
            rw [List.take_add_one, HXX.out, List.map_append, ← HL2.out]; rfl
          case measure => simp [intOf]; omega
        · have hal : L2 = l.map writeC := by rw [HL2.out, List.take_of_length_le (by omega)]
          obtain ⟨sA, sn, sc, rfl, hst⟩ := OwnS.strs HO2.out
          have HST := Lib.hid hst
          have hjI : ¬ (L2.length : Int) < (l.length : Int) := by omega
          have hjl2 := join_le [32, 97, 110, 100, 32] 1000 50000 (l.map writeC) (fun w hw => by obtain ⟨c, hc, rfl⟩ := List.mem_map.1 hw; exact writeC_len (HSL.out.2 c hc)) (by simpa using hll)
          have HJ := Lib.hid hjl2
          have HAL := Lib.hid hal
          have hl2l : L2.length ≤ 1000 := by omega
          clear hst hjl2 hal
          go_wp2_with fail
          refine (str_join wr sA sn sc L2 ⟨#[32, 97, 110, 100, 32]⟩ HST.out (by omega) (by rw [HAL.out]; have := HJ.out; simp at this ⊢; omega)).mono ?_
          rintro e w5 ⟨rfl, hb5⟩
          have hww : (Lib.join L2 (⟨#[32, 97, 110, 100, 32]⟩ : ByteArray).data.toList) = writeL l := by rw [HAL.out]; rfl
          rw [hww]
          have hb6 := HB2.out.trans (hb5.mono HB2.out.size)
          have O5 := Lib.hid (own_kept_below HO.out hb6)
          have HBZ := Lib.hid (HBR.out.trans (hb6.mono HBR.out.size))
          have hmx := maxLen_ge
          have hLl : L.length ≤ 1000 := by omega
          clear hb5 hb6 hww
          dsimp only
          go_wp2_with (at_builtin; refine wpList_append_lies _ (by rfl) (.tmp 28) (.tmp 31) 54 (by rfl) w1.heap.size 9 i9 (.string ByteArray.empty) 1 16 Tryz.underlying54 hi9 hz90 hz91 hz92 rfl (by decide) _ L.length (strs L) (by rfl) (World.ownsRow.alloc O5.out _) ⟨w5.heap.size, 0, none⟩ 1 1 [.string ⟨(writeL l).toArray⟩] (by rfl) rfl (cell_one_new _ _ _) (by simp [Value.oneCell']) (by omega) (by omega) (by omega) (by have := HBZ.out.size; simp; omega) (w5.heap.size + 1) (by simp) ?_; intro g1 cap1 w7 hown hgrow hat hlt7; have HO7 := Lib.hid hown; have HG7 := Lib.hid hgrow; clear hown hgrow hat)
          go_roundw
          case rel =>
            refine ⟨L.length + 1, L ++ [writeL l], by omega, by go_num, ?_, by simp, ownS_push HO7.out, below_grown (HBZ.out.alloc HBZ.out.size _) HG7.out (by have := HBZ.out.size; simp; omega) (fun j hj => (World.ownsRow.lt O5.out j hj).1)⟩
            rw [List.take_add_one, HLL.out, List.map_append, ← HL.out]; rfl
          case measure => simp [intOf]; omega
    · have hal : L = r.map writeL := by rw [HL.out, List.take_of_length_le (by omega)]
      obtain ⟨sA, sn, sc, rfl, hst⟩ := OwnS.strs HO.out
      have HST := Lib.hid hst
      have hkI : ¬ (L.length : Int) < (r.length : Int) := by omega
      have hjl2 := join_le [32, 111, 114, 32] 1000 60000000 (r.map writeL) (fun w hw => by obtain ⟨l, hl, rfl⟩ := List.mem_map.1 hw; exact writeL_len (HS.out.rows l hl)) (by simpa using hrl)
      have HJ := Lib.hid hjl2
      have HAL := Lib.hid hal
      have hl2l : L.length ≤ 1000 := by omega
      clear hst hjl2 hal
      go_wp2_with fail
      refine (str_join wr sA sn sc L ⟨#[32, 111, 114, 32]⟩ HST.out (by omega) (by rw [HAL.out]; have := HJ.out; simp at this ⊢; omega)).mono ?_
      rintro e w5 ⟨rfl, hb5⟩
      have hww : (Lib.join L (⟨#[32, 111, 114, 32]⟩ : ByteArray).data.toList) = writeR r := by rw [HAL.out]; rfl
      rw [hww]
      have HBZ := Lib.hid (HBW.out.trans (hb5.mono HBW.out.size))
      clear hb5 hww
      dsimp only
      go_wp2_with fail
      go_ret
      exact ⟨rfl, HBZ.out⟩
end Go.Proofs.YtdgleeglndcjhaaGreatDoor
