/- Package rule: write of a condition, the walk. -/
import Derived.Test.YtdgleeglndcjhaaGreatDoorG9
namespace Go.Proofs.YtdgleeglndcjhaaGreatDoor
open Go.RowKit
set_option linter.unusedVariables false
set_option linter.unusedSimpArgs false

theorem IntsAre.len {w : World} {A : Option Addr} {n c : Nat} {l : List Int} (h : IntsAre w A n c l) : n = l.length := by
  obtain ⟨A', c', h1, -⟩ := h
  exact (Value.slice.inj h1).2.1
theorem IntsAre.at {w : World} {A : Option Addr} {n c : Nat} {l : List Int} (h : IntsAre w A n c l) (h0 : 0 < l.length) : ∃ b o, A = some ⟨b, o, none⟩ ∧ ∀ (j : Nat) (x : Int), l[j]? = some x → w.cell? ⟨b, o + j, none⟩ = some (.int .i64 x) := by
  obtain ⟨A', c', h1, h2, h3, h4⟩ := h
  obtain ⟨b, o, h5, h6⟩ := h4 (by simpa [ints] using h0)
  obtain ⟨rfl, -, -⟩ := Value.slice.inj h1
  exact ⟨b, o, h5, fun j x hx => h6 j _ (by simp [ints, hx])⟩
theorem ba_app (a b : Bs) : (⟨a.toArray⟩ : ByteArray) ++ ⟨b.toArray⟩ = ⟨(a ++ b).toArray⟩ := by
  apply ByteArray.ext
  simp
theorem OwnS.strs {w : World} {B : Nat} {x : Value} {ws : List Bs} (h : OwnS w B x ws) : ∃ A n c, x = .slice A n c ∧ StrsAre w A n c ws := by
  have h1 := SlC.own h
  obtain ⟨A, c, rfl, -⟩ := h1
  exact ⟨A, _, c, rfl, SlC.own h⟩
/-- What is written ahead of the list. -/
def headW (c : Cnd) : Bs := [UInt8.ofNat c.letter] ++ (if c.mod = 0 then [] else [32, 37, 32] ++ Lib.itoa c.mod) ++ (if c.nt then [32, 33, 61] else [32, 61])
def WW (W : World) (c : Cnd) (v i : Value) (wr : World) : Prop :=
  ∃ k : Nat, k ≤ c.fr.length ∧ k ≤ c.to.length ∧ i = .int .i64 k ∧ OwnS wr W.heap.size v ((items c.fr c.to).take k) ∧ Below W.heap.size W wr

set_option maxRecDepth 100000 in
set_option maxHeartbeats 8000000 in
theorem cond_write (w : World) (c : Cnd) (FA TA : Option Addr) (fn fc tn tc : Nat) (hG : GW w) (hf : IntsAre w FA fn fc c.fr) (ht : IntsAre w TA tn tc c.to) (hs : SmallC c) :
    Calls Tryz.prog 100 #[.agg #[.int .u8 (c.letter : Int), .int .i64 c.mod, .bool c.nt, .slice FA fn fc, .slice TA tn tc]] w fun e w' => e = .returned (.string ⟨(writeC c).toArray⟩) ∧ Below w.heap.size w w' := by
  obtain rfl : fn = c.fr.length := hf.len
  obtain rfl : tn = c.to.length := ht.len
  obtain ⟨i9, hi9, hz90, hz91, hz92⟩ := info_parts Tryz_info9
  have HG := Lib.hid hG
  have HF := Lib.hid hf
  have HT := Lib.hid ht
  have HS := Lib.hid hs
  clear hG hf ht hs
  have hlt := HS.out.letter
  have hconv : ∀ W : World, (convert 176 9 (.slice (some ⟨W.heap.size, 0, none⟩) 1 1)).run Tryz.prog (W.alloc (.cells #[.int .u8 (c.letter : Int)] 5)) = .ok (.string ⟨#[UInt8.ofNat c.letter]⟩) (W.alloc (.cells #[.int .u8 (c.letter : Int)] 5)) := fun W =>
    run_convert_bytes_back _ 176 9 5 ⟨W.heap.size, 0, none⟩ 1 [UInt8.ofNat c.letter] Tryz.underlying176 Tryz.underlying5 Tryz.underlying9 (fun j hj => by
      obtain rfl : j = 0 := by simp at hj; exact hj
      exact cell_one_new W _ 5 0 _ (by simp [u8 _ hlt]))
  go_enter Tryz.func100, Tryz.ntmps100
  go_upto_region 1 with fail
  refine wp_letter (fun w1 => Blk w1 w.heap.size 47 [.int .u8 (c.letter : Int), .int .i64 c.mod, .bool c.nt, .slice FA c.fr.length fc, .slice TA c.to.length tc] ∧ Below w.heap.size w w1) ⟨Blk.made _ 47 _ _ _ rfl rfl, (Below.refl _ _).alloc (Nat.le_refl _) _⟩ ?_
  rintro w1 ⟨b0, hb⟩
  have B0 := Lib.hid b0
  have HB := Lib.hid hb
  have k0 := b0.cell 0
  have k1 := b0.cell 1
  have k2 := b0.cell 2
  have k3 := b0.cell 3
  have k4 := b0.cell 4
  have hz := b0.lt
  simp only [List.getElem?_cons_zero, List.getElem?_cons_succ] at k0 k1 k2 k3 k4
  clear b0 hb
  have hc1 := hconv w1
  clear hconv
  go_upto_if 14 with fail
  clear k0 k1 k2 k3 k4 hc1
  have b1 := B0.out.alloc (.cells #[.int .u8 (c.letter : Int)] 5)
  have hb1 := HB.out.alloc HB.out.size (.cells #[.int .u8 (c.letter : Int)] 5)
  generalize w1.alloc (.cells #[.int .u8 (c.letter : Int)] 5) = w2 at *
  have B1 := Lib.hid b1
  have HB1 := Lib.hid hb1
  have k1 := b1.cell 1
  simp only [List.getElem?_cons_zero, List.getElem?_cons_succ] at k1
  clear b1 hb1 B0 HB hz
  have hil := itoa_len HS.out.mod
  go_cut [3] (fun s3 wx => s3 = .string ⟨([UInt8.ofNat c.letter] ++ (if c.mod = 0 then [] else [32, 37, 32] ++ Lib.itoa c.mod)).toArray⟩ ∧ Below w2.heap.size w2 wx)
  case first =>
    by_cases hm : c.mod = 0
    · have hmI : (c.mod != 0) = false := by simp [hm]
      have HM := Lib.hid hm
      clear hm
      go_wp2_with fail
      go_meet
      exact ⟨by rw [if_pos HM.out]; rfl, Below.refl _ _⟩
    · have HM := Lib.hid hm
      have hmI : (c.mod != 0) = true := by simp [hm]
      clear hm
      go_wp2_with fail
      refine (str_itoa w2 c.mod (HG.out.below HB1.out (Nat.le_refl _)) HS.out.mod.1 HS.out.mod.2).mono ?_
      rintro e w3 ⟨rfl, hb3⟩
      dsimp only
      go_wp2_with fail
      go_meet
      exact ⟨by rw [if_neg HM.out]; exact congrArg Value.string (ByteArray.ext (by simp)), hb3⟩
  case rest =>
    obtain ⟨rfl, hbc⟩ := hcut
    have B2 := Lib.hid (B1.out.below hbc B1.out.lt)
    have HB2 := Lib.hid (HB1.out.trans (hbc.mono HB1.out.size))
    have k2 := B2.out.cell 2
    simp only [List.getElem?_cons_zero, List.getElem?_cons_succ] at k2
    obtain ⟨pre, hpre⟩ : ∃ pre, [UInt8.ofNat c.letter] ++ (if c.mod = 0 then [] else [32, 37, 32] ++ Lib.itoa c.mod) = pre := ⟨_, rfl⟩
    have hpl : pre.length ≤ 24 := by
      rw [← hpre]
      split <;> simp <;> omega
    rw [hpre]
    have HPRE := Lib.hid hpre
    clear hbc B1 HB1 k1 hpre
    go_step
    go_upto_if 22 with fail
    go_cut [3] (fun s3 wx => s3 = .string ⟨(pre ++ (if c.nt then [32, 33, 61] else [32, 61])).toArray⟩ ∧ Below wc.heap.size wc wx)
    case first =>
      go_wp2_with fail
      all_goals
        go_meet
        refine ⟨?_, Below.refl _ _⟩
        first
          | (rw [if_pos (by assumption)]; exact congrArg Value.string (ByteArray.ext (by simp)))
          | (rw [if_neg (by simp_all)]; exact congrArg Value.string (ByteArray.ext (by simp)))
    case rest =>
      obtain ⟨rfl, hbc⟩ := hcut
      have B3 := Lib.hid (B2.out.below hbc B2.out.lt)
      have HB3 := Lib.hid (HB2.out.trans (hbc.mono HB2.out.size))
      rename World => wd
      obtain ⟨hd, hhd⟩ : ∃ hd, pre ++ (if c.nt then [32, 33, 61] else [32, 61]) = hd := ⟨_, rfl⟩
      rw [hhd]
      have HHD := Lib.hid hhd
      have k3 := B3.out.cell 3
      have k4 := B3.out.cell 4
      simp only [List.getElem?_cons_zero, List.getElem?_cons_succ] at k3 k4
      have hz := B3.out.lt
      have hdl : hd.length ≤ 27 := by rw [← hhd]; split <;> simp <;> omega
      clear hhd k2 hbc B2 HB2
      go_step
      go_upto_block 0 with fail
      go_cut [4] (fun s4 wx => OwnS wx wd.heap.size s4 (items c.fr c.to) ∧ Below wd.heap.size wd wx)
      case first =>
        have hnf := HS.out.nf
        have hnt := HS.out.nt
        have hnfI : (c.fr.length : Int) ≤ 1000 := by omega
        have hntI : (c.to.length : Int) ≤ 1000 := by omega
        go_wp2_with fail
        go_loopw [4, 30] (WW wd c) (fun _ i _ => c.fr.length - (intOf i).toNat)
        case atStart => exact ⟨0, Nat.zero_le _, Nat.zero_le _, rfl, World.ownsRow_nil _ _ _ _, Below.refl _ _⟩
        case round =>
          obtain ⟨k, hkf, hkt, rfl, hO, hb⟩ := hrel
          have B4 := Lib.hid (B3.out.below hb B3.out.lt)
          have HB4 := Lib.hid (HB3.out.trans (hb.mono HB3.out.size))
          have HBD := Lib.hid hb
          have HO := Lib.hid hO
          have j3 := B4.out.cell 3
          have j4 := B4.out.cell 4
          simp only [List.getElem?_cons_zero, List.getElem?_cons_succ] at j3 j4
          have hz4 := B4.out.lt
          clear hb hO k3 k4
          by_cases hlt : k < c.fr.length
          · obtain ⟨b, o, hFA, hfc⟩ := (HF.out.below HB4.out (Nat.le_refl _)).at (by omega)
            subst hFA
            obtain ⟨x, hx⟩ : ∃ x, c.fr[k]? = some x := ⟨c.fr[k], List.getElem?_eq_getElem hlt⟩
            have cx := hfc k x hx
            have hxr := HS.out.fr x (List.mem_of_getElem? hx)
            have HX := Lib.hid hx
            have hkI : (k : Int) < (c.fr.length : Int) := by omega
            have hk0 : (0 : Int) ≤ (k : Int) := by omega
            clear hfc hx
            by_cases hlt2 : k < c.to.length
            · obtain ⟨b2, o2, hTA, htc⟩ := (HT.out.below HB4.out (Nat.le_refl _)).at (by omega)
              subst hTA
              obtain ⟨y, hy⟩ : ∃ y, c.to[k]? = some y := ⟨c.to[k], List.getElem?_eq_getElem hlt2⟩
              have cy := htc k y hy
              have hyr := HS.out.tl y (List.mem_of_getElem? hy)
              have hit := items_at c.fr c.to k x y HX.out hy
              have HIT := Lib.hid hit
              have hkT : (k : Int) < (c.to.length : Int) := by omega
              have CY := Lib.hid cy
              clear htc hy hit cy
              go_wp2_with fail
              refine (str_itoa wr x (HG.out.below HB4.out (Nat.le_refl _)) hxr.1 hxr.2).mono ?_
              rintro e w5 ⟨rfl, hb5⟩
              have hxl := itoa_len hxr
              have hyl := itoa_len hyr
              have O5 := Lib.hid (own_kept_below HO.out hb5)
              have BD5 := Lib.hid (HBD.out.trans (hb5.mono HBD.out.size))
              have B5 := Lib.hid (B4.out.below hb5 B4.out.lt)
              have HB5 := Lib.hid (HB4.out.trans (hb5.mono HB4.out.size))
              have cy5 := (hb5.cell (World.block_lt_of_cell? wr _ CY.out)).trans CY.out
              have m4 := B5.out.cell 4
              simp only [List.getElem?_cons_zero, List.getElem?_cons_succ] at m4
              have CY5 := Lib.hid cy5
              clear hb5 cx j3 j4
              obtain ⟨L, hLd⟩ : ∃ L, (items c.fr c.to).take k = L := ⟨_, rfl⟩
              have hll : L.length ≤ 1000 := by rw [← hLd, List.length_take]; omega
              rw [hLd] at O5
              have HLD := Lib.hid hLd
              clear hLd
              by_cases hxy : y = x
              · have hxyI : (y != x) = false := by simp [hxy]
                have HXY := Lib.hid hxy
                clear hxy
                dsimp only
                have hmx := maxLen_ge
                have hkw : k ≤ 1000 := by omega
                go_wp2_with (at_builtin; refine wpList_append_lies _ (by rfl) (.tmp 58) (.tmp 60) 54 (by rfl) wd.heap.size 9 i9 (.string ByteArray.empty) 1 16 Tryz.underlying54 hi9 hz90 hz91 hz92 rfl (by decide) u4 L.length (strs L) (by rfl) (World.ownsRow.alloc O5.out _) ⟨w5.heap.size, 0, none⟩ 1 1 [.string (⟨(Lib.itoa x).toArray⟩)] (by rfl) rfl (cell_one_new _ _ _) (by simp [Value.oneCell']) (by omega) (by omega) (by omega) (by have := BD5.out.size; simp; omega) (w5.heap.size + 1) (by simp) ?_; intro g1 cap1 w7 hown hgrow hat hlt7; have HO7 := Lib.hid hown; have HG7 := Lib.hid hgrow; clear hown hgrow hat)
                go_roundw
                case rel =>
                  refine ⟨k + 1, by omega, by omega, by go_num, ?_, below_grown (BD5.out.alloc BD5.out.size _) HG7.out (by have := BD5.out.size; simp; omega) (fun j hj => (World.ownsRow.lt O5.out j hj).1)⟩
                  have e : (items c.fr c.to).take (k + 1) = L ++ [itemW x y] := by rw [List.take_add_one, HIT.out, HLD.out]; rfl
                  have e2 : (⟨(Lib.itoa x).toArray⟩) = (⟨(itemW x y).toArray⟩ : ByteArray) := by
                    unfold itemW
                    rw [if_pos HXY.out]
                  rw [e]
                  show World.ownsRow _ _ 9 1 _ (L ++ [itemW x y]).length (strs (L ++ [itemW x y]))
                  rw [strs_app, List.length_append]
                  have := HO7.out
                  rw [e2] at this
                  exact this
                case measure => simp [intOf]; omega
              · have hxyI : (y != x) = true := by simp [hxy]
                have HXY := Lib.hid hxy
                clear hxy
                dsimp only
                go_wp2_with fail
                refine (str_itoa w5 y (HG.out.below HB5.out (Nat.le_refl _)) hyr.1 hyr.2).mono ?_
                rintro e w6 ⟨rfl, hb6⟩
                have O6 := Lib.hid (own_kept_below O5.out hb6)
                have BD6 := Lib.hid (BD5.out.trans (hb6.mono BD5.out.size))
                clear hb6 cy5 m4
                dsimp only
                have hmx := maxLen_ge
                have hkw : k ≤ 1000 := by omega
                go_wp2_with (at_builtin; refine wpList_append_lies _ (by rfl) (.tmp 58) (.tmp 60) 54 (by rfl) wd.heap.size 9 i9 (.string ByteArray.empty) 1 16 Tryz.underlying54 hi9 hz90 hz91 hz92 rfl (by decide) u4 L.length (strs L) (by rfl) (World.ownsRow.alloc O6.out _) ⟨w6.heap.size, 0, none⟩ 1 1 [.string (⟨(Lib.itoa x).toArray⟩ ++ (⟨#[46, 46]⟩ ++ ⟨(Lib.itoa y).toArray⟩))] (by rfl) rfl (cell_one_new _ _ _) (by simp [Value.oneCell']) (by omega) (by omega) (by omega) (by have := BD6.out.size; simp; omega) (w6.heap.size + 1) (by simp) ?_; intro g1 cap1 w7 hown hgrow hat hlt7; have HO7 := Lib.hid hown; have HG7 := Lib.hid hgrow; clear hown hgrow hat)
                go_roundw
                case rel =>
                  refine ⟨k + 1, by omega, by omega, by go_num, ?_, below_grown (BD6.out.alloc BD6.out.size _) HG7.out (by have := BD6.out.size; simp; omega) (fun j hj => (World.ownsRow.lt O6.out j hj).1)⟩
                  have e : (items c.fr c.to).take (k + 1) = L ++ [itemW x y] := by rw [List.take_add_one, HIT.out, HLD.out]; rfl
                  have e2 : (⟨(Lib.itoa x).toArray⟩ ++ (⟨#[46, 46]⟩ ++ ⟨(Lib.itoa y).toArray⟩)) = (⟨(itemW x y).toArray⟩ : ByteArray) := by
                    unfold itemW
                    rw [if_neg HXY.out]; exact ByteArray.ext (by simp)
                  rw [e]
                  show World.ownsRow _ _ 9 1 _ (L ++ [itemW x y]).length (strs (L ++ [itemW x y]))
                  rw [strs_app, List.length_append]
                  have := HO7.out
                  rw [e2] at this
                  exact this
                case measure => simp [intOf]; omega
            · have hk2 : ¬ (k : Int) < (c.to.length : Int) := by omega
              have hk3 : (c.to.length : Int) ≤ (k : Int) := by omega
              have hal : (items c.fr c.to).take k = items c.fr c.to := List.take_of_length_le (by rw [items_len]; omega)
              have HAL := Lib.hid hal
              clear hal
              go_wp2_with fail
              refine (str_itoa wr x (HG.out.below HB4.out (Nat.le_refl _)) hxr.1 hxr.2).mono ?_
              rintro e w5 ⟨rfl, hb5⟩
              have O5 := Lib.hid (own_kept_below HO.out hb5)
              have BD5 := Lib.hid (HBD.out.trans (hb5.mono HBD.out.size))
              have B5 := Lib.hid (B4.out.below hb5 B4.out.lt)
              have m4 := B5.out.cell 4
              simp only [List.getElem?_cons_zero, List.getElem?_cons_succ] at m4
              clear hb5 cx j3 j4
              dsimp only
              go_wp2_with fail
              go_meet
              exact ⟨HAL.out ▸ O5.out, BD5.out⟩
          · have hal : (items c.fr c.to).take k = items c.fr c.to := List.take_of_length_le (by rw [items_len]; omega)
            have HAL := Lib.hid hal
            have hkI : ¬ (k : Int) < (c.fr.length : Int) := by omega
            clear hal
            go_wp2_with fail
            go_meet
            exact ⟨HAL.out ▸ HO.out, HBD.out⟩
      case rest =>
        obtain ⟨hO, hbc⟩ := hcut
        obtain ⟨sA, sn, sc, rfl, hst⟩ := OwnS.strs hO
        have HST := Lib.hid hst
        have HBE := Lib.hid (HB3.out.trans (hbc.mono HB3.out.size))
        have hil2 : (items c.fr c.to).length ≤ 1000 := by rw [items_len]; have := HS.out.nf; omega
        have hjl := join_le [44] 1000 42 (items c.fr c.to) (items_small _ _ HS.out.fr HS.out.tl) hil2
        have HIL := Lib.hid hil2
        have HJL := Lib.hid hjl
        clear hO hbc hst k3 k4 hil2 hjl
        go_step
        go_wp2_with fail
        refine (str_join wc sA sn sc (items c.fr c.to) ⟨#[44]⟩ HST.out (by have := HIL.out; omega) (by have := HJL.out; simp at this ⊢; omega)).mono ?_
        rintro e w9 ⟨rfl, hb9⟩
        have hjl2 : (Lib.join (items c.fr c.to) [44]).length ≤ 43000 := by have := HJL.out; simpa using this
        have HB9 := Lib.hid (HBE.out.trans (hb9.mono HBE.out.size))
        clear hb9
        dsimp only
        go_wp2_with fail
        go_ret
        refine ⟨?_, HB9.out⟩
        have e : writeC c = hd ++ [32] ++ Lib.join (items c.fr c.to) [44] := by
          rw [← HHD.out, ← HPRE.out]; rfl
        rw [e]
        exact congrArg (fun x => Ending.returned (Value.string x)) (ByteArray.ext (by simp))
end Go.Proofs.YtdgleeglndcjhaaGreatDoor
