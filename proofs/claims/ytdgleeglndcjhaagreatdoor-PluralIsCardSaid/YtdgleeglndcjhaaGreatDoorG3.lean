/- Package rule: cut. -/
import Derived.Test.YtdgleeglndcjhaaGreatDoorG2
namespace Go.Proofs.YtdgleeglndcjhaaGreatDoor
open Go.RowKit
set_option linter.unusedVariables false
set_option linter.unusedSimpArgs false

theorem str_eq (x y : ByteArray) : (x.toList == y.toList) = decide (x.data.toList = y.data.toList) := by
  rw [Lib.toList_data, Lib.toList_data, Bool.eq_iff_iff, beq_iff_eq, decide_eq_true_eq]
theorem below_grown {B : Nat} {W w w' : World} {row : Option Nat} (h : Below B W w) (hg : w.grownBy w' row) (hB : B ≤ w.heap.size) (hr : ∀ k, row = some k → B ≤ k) : Below B W w' :=
  ⟨hg.os.trans h.os, hg.tape.trans h.tape, hg.output.trans h.output, Nat.le_trans h.size hg.size, fun k hk => (hg.block k (Nat.lt_of_lt_of_le hk hB) (fun e => by have := hr k e.symm; omega)).trans (h.block k hk)⟩
theorem splitG_length {α : Type} [DecidableEq α] (c : α) : ∀ l : List α, (splitG c l).length ≤ l.length + 1
  | [] => Nat.le_refl _
  | b :: l => by
    have ih := splitG_length c l
    by_cases h : b = c
    · subst h; rw [splitG_eq]; simp; exact ih
    · obtain ⟨x, t, e⟩ := splitG_ex c l
      rw [splitG_other h e]; rw [e] at ih; simp at ih ⊢; omega
theorem splitG_mem_len {α : Type} [DecidableEq α] (c : α) : ∀ (l w : List α), w ∈ splitG c l → w.length ≤ l.length
  | [], w, h => by
    have : w = [] := by simpa [splitG] using h
    subst this; simp
  | b :: l, w, h => by
    by_cases hb : b = c
    · subst hb
      rw [splitG_eq] at h
      rcases List.mem_cons.1 h with rfl | h
      · simp
      · have := splitG_mem_len b l w h; simp; omega
    · obtain ⟨x, t, e⟩ := splitG_ex c l
      rw [splitG_other hb e] at h
      have := splitG_mem_len c l
      rw [e] at this
      rcases List.mem_cons.1 h with rfl | h
      · have := this x (by simp); simp; omega
      · have := this w (by simp [h]); simp; omega
theorem maxLen_ge : 140737488355328 ≤ maxLen := by decide
/-- What holds at the head of a round of cut. -/
def CutW (ws : List Bs) (at' : Bs) (W : World) (B : Nat) (v i : Value) (wr : World) : Prop :=
  ∃ (k : Nat) (xs : List Value), k ≤ ws.length ∧ i = .int .i64 k ∧ CutI wr B v xs (splitG at' (ws.take k)) ∧ Below B W wr

set_option maxRecDepth 100000 in
set_option maxHeartbeats 4000000 in
theorem rule_cut (w : World) (A : Option Addr) (n c : Nat) (ws : List Bs) (s : ByteArray) (h : StrsAre w A n c ws) (hl : ws.length ≤ 1000000) :
    Calls Tryz.prog 45 #[.slice A n c, .string s] w fun e w' => RetSS e w' w.heap.size (splitG s.data.toList ws) ∧ Below w.heap.size w w' := by
  obtain rfl : n = ws.length := h.len
  have HX := Lib.hid h
  have hlI : (ws.length : Int) ≤ 1000000 := by omega
  obtain ⟨i0, hi, hz0, hz1, hz2⟩ := info_parts Tryz_info54
  obtain ⟨i9, hi9, hz90, hz91, hz92⟩ := info_parts Tryz_info9
  clear h
  go_enter Tryz.func45, Tryz.ntmps45
  go_wp2_with fail
  go_loopw [5, 11] (CutW ws s.data.toList w w.heap.size) (fun _ i _ => ws.length - (intOf i).toNat)
  case atStart =>
    exact ⟨0, _, Nat.zero_le _, rfl, CutI.first w w.heap.size (Nat.le_refl _), (Below.refl _ _).alloc (Nat.le_refl _) _⟩
  case round =>
    obtain ⟨k, xs, hk, rfl, hI, hb⟩ := hrel
    by_cases hlt : k < ws.length
    · obtain ⟨b, o, rfl, hc⟩ := (HX.out.below hb (Nat.le_refl _)).at (by omega)
      obtain ⟨t, ht⟩ : ∃ t, ws[k]? = some t := ⟨ws[k], List.getElem?_eq_getElem hlt⟩
      have hck := hc k t ht
      have htk : ws.take (k + 1) = ws.take k ++ [t] := by rw [List.take_add_one, ht]; rfl
      have HTK := Lib.hid htk
      have hkI : (k : Int) < (ws.length : Int) := by omega
      have HB := Lib.hid hb
      clear hc hb htk ht
      obtain ⟨g, cap, hv⟩ := hI.form (splitG_ne _ _)
      have hm := splitG_length s.data.toList (ws.take k)
      have hm2 : (ws.take k).length ≤ k := List.length_take_le _ _
      by_cases he : t = s.data.toList
      · have hte : (t == s.toList) = true := by rw [Lib.toList_data]; simpa using he
        have hnx : splitG s.data.toList (ws.take (k + 1)) = splitG s.data.toList (ws.take k) ++ [[]] := by rw [HTK.out, he]; exact splitG_snoc_eq _ _
        have HN := Lib.hid hnx
        clear he hnx
        generalize splitG s.data.toList (ws.take k) = rows at *
        subst hv
        have hgB := (hI.out.lt g rfl).1
        have HI := Lib.hid (hI.alloc (.cells #[.slice none 0 0] 54))
        clear hI
        have hmx := maxLen_ge
        go_wp2_with (at_builtin; refine wpList_append_lies _ (by rfl) _ _ 94 (by rfl) w.heap.size 54 i0 (.slice none 0 0) 1 24 Tryz.underlying94 hi hz0 hz1 hz2 rfl (by decide) _ _ xs (by rfl) HI.out.out ⟨wr.heap.size, 0, none⟩ 1 1 [.slice none 0 0] (by rfl) rfl (cell_one_new _ _ _) (by simp [Value.oneCell']) (by omega) (by omega) (by omega) (Nat.le_trans HB.out.size (by simp)) (wr.heap.size + 1) (by simp) ?_; intro g' cap' w1 hown hgrow hat hlt'; have HO := Lib.hid hown; have HG := Lib.hid hgrow; have HAT := Lib.hid hat; clear hown hgrow hat)
        go_roundw
        case rel =>
          refine ⟨k + 1, xs ++ [.slice none 0 0], by omega, by go_num, ?_, below_grown (HB.out.alloc HB.out.size _) HG.out (Nat.le_trans HB.out.size (by simp)) (by intro j hj; cases hj; exact hgB)⟩
          rw [HN.out]
          refine HI.out.push HG.out HO.out ?_
          rcases HAT.out with h | h
          · exact .inl h
          · right; rw [h]; simp [Value.ownBlock]
        case measure => simp [intOf]; omega
      · have hte : (t == s.toList) = false := by rw [Lib.toList_data]; simpa using he
        obtain ⟨ri, r, e1, e2⟩ := splitG_snoc_ne he (ws.take k)
        rw [← HTK.out] at e2
        have HN := Lib.hid e2
        have hrl : r.length ≤ k := Nat.le_trans (splitG_mem_len s.data.toList (ws.take k) r (by rw [e1]; simp)) hm2
        rw [e1] at hI hm hv
        clear he e2 e1
        obtain ⟨xi, x, rfl, hF1, hF2⟩ := F2.unsnoc hI.rows
        have hxl := hF1.len
        obtain ⟨m, hml⟩ : ∃ m, xi.length = m := ⟨_, rfl⟩
        have hrm : ri.length = m := by omega
        rw [show (ri ++ [r]).length = m + 1 by simp [hrm]] at hv
        subst hv
        have hgB := (hI.out.lt g rfl).1
        have hO := hI.out
        rw [show (ri ++ [r]).length = m + 1 by simp [hrm]] at hO hm
        have hcell : wr.cell? ⟨g, m, none⟩ = some x := by
          rw [hO.cellAt m (by omega), List.getElem?_append_right (by omega), hml]; simp
        have HI := Lib.hid hI
        have H2 := Lib.hid hF2
        have HML := Lib.hid hml
        clear hI hF1 hF2 hxl hml hrm hO
        have hm0 : (0 : Int) ≤ (m : Int) := by omega
        have hmx := maxLen_ge
        go_wp2_with (at_builtin; refine wpList_append_lies _ (by rfl) _ _ 54 (by rfl) w.heap.size 9 i9 (.string ByteArray.empty) 1 16 Tryz.underlying54 hi9 hz90 hz91 hz92 rfl (by decide) x r.length (strs r) (by rfl) (World.ownsRow.alloc H2.out _) ⟨wr.heap.size, 0, none⟩ 1 1 [.string ⟨t.toArray⟩] (by rfl) rfl (cell_one_new _ _ _) (by simp [Value.oneCell']) (by omega) (by omega) (by omega) (Nat.le_trans HB.out.size (by simp)) (wr.heap.size + 1) (by simp) ?_; intro g' cap' w1 hown hgrow hat hlt'; have HO := Lib.hid hown; have HG := Lib.hid hgrow; have HAT := Lib.hid hat; clear hown hgrow hat; obtain ⟨hfin, hc1, hf1⟩ := CutI.grow HML.out (HI.out.alloc (.cells #[.string ⟨t.toArray⟩] 9)) HG.out HO.out (HAT.out.imp id fun h => by rw [h]; simp); have HFIN := Lib.hid hfin; clear hfin hcell)
        go_roundw
        case rel =>
          refine ⟨k + 1, _, by omega, by go_num, HN.out ▸ HFIN.out, below_set (below_grown (HB.out.alloc HB.out.size _) HG.out (Nat.le_trans HB.out.size (by simp)) (fun j hj => (World.ownsRow.lt H2.out j hj).1)) g m hgB _⟩
        case measure => simp [intOf]; omega
    · have hk2 : k = ws.length := by omega
      subst hk2
      have hkI : ¬ (ws.length : Int) < (ws.length : Int) := by omega
      rw [List.take_length] at hI
      obtain ⟨A', n', c', rfl, hR⟩ := hI.are
      have HR := Lib.hid hR
      have HB := Lib.hid hb
      clear hI hR hb
      go_wp2_with fail
      go_ret
      exact ⟨⟨_, _, _, rfl, HR.out⟩, HB.out⟩
end Go.Proofs.YtdgleeglndcjhaaGreatDoor
