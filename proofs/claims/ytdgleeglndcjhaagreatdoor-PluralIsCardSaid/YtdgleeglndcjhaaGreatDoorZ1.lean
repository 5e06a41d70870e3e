/- Numbers with their slices told in parts; package num. -/
import Derived.Test.YtdgleeglndcjhaaGreatDoorN6
namespace Go.Proofs.YtdgleeglndcjhaaGreatDoor
open Go.RowKit
set_option linter.unusedVariables false

/-- The slice has the words of k. -/
def SN (w : World) (A : Option Addr) (n c k : Nat) : Prop := RN w (.slice A n c) k
/-- A number of not too many words. -/
def Big (k : Nat) : Prop := (wordsOf k).length ≤ 1000000
theorem big_pow {a k : Nat} (h : a < 2 ^ k) (hk : k ≤ 30000000) : Big a := by
  unfold Big
  generalize hm : 1000000 = m
  rw [length_wordsOf]
  refine Nat.lt_of_lt_of_le h ?_
  rw [show (4294967296 : Nat) = 2 ^ 32 from rfl, ← Nat.pow_mul]
  exact Nat.pow_le_pow_right (by omega) (by omega)
theorem Big.mono {a b : Nat} (h : Big b) (hab : a ≤ b) : Big a := Nat.le_trans (length_mono hab) h
theorem SN.below {w w' : World} {A : Option Addr} {n c k B : Nat} (h : SN w A n c k) (hb : Below B w w') (hB : w.heap.size ≤ B) : SN w' A n c k := RN.below h hb hB
theorem SN.len {w : World} {A : Option Addr} {n c k : Nat} (h : SN w A n c k) : n = (wordsOf k).length := by
  obtain ⟨A', c', h1, -⟩ := RL.form h
  exact (Value.slice.inj h1).2.1
theorem SN.far {w : World} {A : Option Addr} {n c k : Nat} (h : SN w A n c k) {g : Nat} {t : TypeId} {cs : List Value} (hB : Blk w g t cs) (hcs : ∀ x ∈ cs, ∀ n, x ≠ .int .u32 n) (j : Nat) (u : Value) : SN (w.setCell ⟨g, j, none⟩ u) A n c k := RN.far h hB hcs j u
theorem RN.sn {w : World} {v : Value} {k : Nat} (h : RN w v k) : ∃ A n c, v = .slice A n c ∧ SN w A n c k := by
  obtain ⟨A, c, rfl, -⟩ := RL.form h
  exact ⟨A, _, c, rfl, h⟩
theorem SN.zero (w : World) (A : Option Addr) (c : Nat) : SN w A 0 c 0 := by
  unfold SN RN RL
  rw [wordsOf_zero]
  exact ⟨SlC.nil w 1 c A, Wd.nil⟩

theorem Blk.drew {w : World} {g : Nat} {t : TypeId} {l : List Value} (h : Blk w g t l) : Blk w.drew g t l := h.drewN 1
/-- What lies in a cell. -/
def cellAt (w : World) (p : Addr) : Value := (w.cell? p).getD (.bool false)
theorem calls_letter {P : Program} {f : FuncId} {args : Array Value} {K : Ending → World → Prop} {w : World} (R : World → Prop) (h : R w) (k : ∀ w1, R w1 → Calls P f args w1 K) : Calls P f args w K := k w h
def No32 (l : List Value) : Prop := ∀ x ∈ l, ∀ n, x ≠ .int .u32 n
/-- All that W has, but for block g, which has n cells still, none of them a word. -/
structure Hold (W : World) (g : Nat) (t : TypeId) (n : Nat) (w : World) : Prop where
  grown : W.grownBy w (some g)
  lt : g < W.heap.size
  is : ∃ l : List Value, l.length = n ∧ Blk w g t l ∧ No32 l
  was : ∃ l : List Value, Blk W g t l ∧ No32 l
theorem Hold.start {W : World} {g : Nat} {t : TypeId} {l : List Value} (h : Blk W g t l) (hl : No32 l) : Hold W g t l.length W := ⟨grown_refl _ _, h.lt, ⟨l, rfl, h, hl⟩, ⟨l, h, hl⟩⟩
theorem Hold.drew {W w : World} {g n : Nat} {t : TypeId} (h : Hold W g t n w) : Hold W g t n w.drew := by
  obtain ⟨h1, h2, ⟨l, h3, h4, h5⟩, h6⟩ := h
  exact ⟨grown_drewN h1 1, h2, ⟨l, h3, h4.drewN 1, h5⟩, h6⟩
theorem Hold.call {W w w' : World} {g n : Nat} {t : TypeId} (h : Hold W g t n w) (hb : Below w.heap.size w w') : Hold W g t n w' := by
  obtain ⟨h1, h2, ⟨l, h3, h4, h5⟩, h6⟩ := h
  exact ⟨⟨hb.os.trans h1.os, hb.tape.trans h1.tape, hb.output.trans h1.output, Nat.le_trans h1.size hb.size, fun k hk hne => (hb.block k (Nat.lt_of_lt_of_le hk h1.size)).trans (h1.block k hk hne)⟩, h2, ⟨l, h3, h4.below hb h4.lt, h5⟩, h6⟩
theorem Hold.set {W w : World} {g n : Nat} {t : TypeId} (h : Hold W g t n w) (i : Nat) (u : Value) (hu : ∀ n, u ≠ .int .u32 n) : Hold W g t n (w.setCell ⟨g, i, none⟩ u) := by
  obtain ⟨h1, h2, ⟨l, h3, h4, h5⟩, h6⟩ := h
  refine ⟨grown_set h1 i u, h2, ⟨_, by simpa using h3, h4.put i u, fun x hx => ?_⟩, h6⟩
  rcases List.mem_or_eq_of_mem_set hx with h | h
  · exact h5 x h
  · subst h; exact hu
theorem Hold.cell {W w : World} {g n : Nat} {t : TypeId} (h : Hold W g t n w) (i : Nat) (hi : i < n) : w.cell? ⟨g, i, none⟩ = some (cellAt w ⟨g, i, none⟩) := by
  obtain ⟨h1, h2, ⟨l, h3, h4, h5⟩, h6⟩ := h
  unfold cellAt
  rw [h4.cell, List.getElem?_eq_getElem (by omega)]; rfl
theorem Hold.fill1 {W w : World} {g : Nat} {t : TypeId} (h : Hold W g t 1 w) (a : Value) : Blk (w.setCell ⟨g, 0, none⟩ a) g t [a] := by
  obtain ⟨-, -, ⟨l, h3, h4, -⟩, -⟩ := h
  obtain ⟨x, rfl⟩ := List.length_eq_one_iff.1 h3
  exact h4.put 0 a
theorem Hold.fill2 {W w : World} {g : Nat} {t : TypeId} (h : Hold W g t 2 w) (a b : Value) : Blk ((w.setCell ⟨g, 0, none⟩ a).setCell ⟨g, 1, none⟩ b) g t [a, b] := by
  obtain ⟨-, -, ⟨l, h3, h4, -⟩, -⟩ := h
  obtain ⟨x, y, rfl⟩ : ∃ x y, l = [x, y] := by
    match l, h3 with
    | [x, y], _ => exact ⟨x, y, rfl⟩
  exact (h4.put 0 a).put 1 b
theorem Hold.fill3 {W w : World} {g : Nat} {t : TypeId} (h : Hold W g t 3 w) (a b c : Value) : Blk (((w.setCell ⟨g, 0, none⟩ a).setCell ⟨g, 1, none⟩ b).setCell ⟨g, 2, none⟩ c) g t [a, b, c] := by
  obtain ⟨-, -, ⟨l, h3, h4, -⟩, -⟩ := h
  obtain ⟨x, y, z, rfl⟩ : ∃ x y z, l = [x, y, z] := by
    match l, h3 with
    | [x, y, z], _ => exact ⟨x, y, z, rfl⟩
  exact ((h4.put 0 a).put 1 b).put 2 c
theorem Hold.frozen {W w : World} {g n : Nat} {t : TypeId} (h : Hold W g t n w) (i : Nat) : w.frozen? ⟨g, i, none⟩ = false := by
  obtain ⟨h1, h2, ⟨l, h3, h4, h5⟩, h6⟩ := h
  exact h4.frozen i
theorem Hold.blk {W w : World} {g n b : Nat} {t s : TypeId} {l : List Value} (h : Hold W g t n w) (hB : Blk W b s l) (hne : b ≠ g) : Blk w b s l := hB.grown h.1 hne
theorem Hold.below {W w : World} {g n B : Nat} {t : TypeId} (h : Hold W g t n w) (hB : B ≤ g) : Below B W w :=
  ⟨h.1.os, h.1.tape, h.1.output, h.1.size, fun k hk => h.1.block k (Nat.lt_of_lt_of_le (Nat.lt_of_lt_of_le hk hB) (Nat.le_of_lt h.lt)) (by intro h; cases h; omega)⟩
theorem SN.apart {w w' : World} {A : Option Addr} {m c k g : Nat} {t : TypeId} {l : List Value} (hs : SN w A m c k) (hB : Blk w g t l) (hl : No32 l) (hk : ∀ b, b < w.heap.size → b ≠ g → w'.heap[b]? = w.heap[b]?) : SN w' A m c k := by
  obtain ⟨⟨A', c', h1, h2, h3, h4⟩, hd⟩ := hs
  refine ⟨⟨A', c', h1, h2, h3, fun hp => ?_⟩, hd⟩
  obtain ⟨b, o, h5, h6⟩ := h4 hp
  have hne : b ≠ g := by
    rintro rfl
    have hl' : 0 < (wordsOf k).length := by simpa [U32] using hp
    have h0 := h6 0 _ (U32_get _ 0 hl')
    rw [hB.cell] at h0
    exact hl _ (List.mem_of_getElem? h0) _ rfl
  refine ⟨b, o, h5, fun j x hx => ?_⟩
  have := h6 j x hx
  rw [← this]
  unfold World.cell?
  rw [hk b (World.block_lt_of_cell? w _ this) hne]
theorem Hold.sn {W w : World} {g n : Nat} {t : TypeId} (h : Hold W g t n w) {A : Option Addr} {m c k : Nat} (hs : SN W A m c k) : SN w A m c k := by
  obtain ⟨l, hB, hl⟩ := h.was
  exact hs.apart hB hl fun b hb hne => h.1.block b hb (by intro h; cases h; exact hne rfl)
/-- A number keeps its words where a held block is written. -/
theorem SN.hset {W w : World} {g n : Nat} {t : TypeId} {A : Option Addr} {m c k : Nat} (hs : SN w A m c k) (h : Hold W g t n w) (i : Nat) (u : Value) : SN (w.setCell ⟨g, i, none⟩ u) A m c k := by
  obtain ⟨l, -, hB, hl⟩ := h.is
  exact hs.apart hB hl fun b hb hne => Below.heap_setCell _ _ _ _ hne
theorem SN.drew {w : World} {A : Option Addr} {m c k : Nat} (hs : SN w A m c k) : SN w.drew A m c k := hs.below ((Below.refl _ _).drew) (Nat.le_refl _)

/-- The sign and the slice of a number with a sign. -/
structure RZ (w : World) (b : Bool) (A : Option Addr) (n c : Nat) (z : Int) : Prop where
  sign : b = decide (z < 0)
  sn : SN w A n c z.natAbs
/-- A number is returned. -/
def RetN (e : Ending) (w' : World) (k : Nat) : Prop := ∃ A n c, e = .returned (.agg #[.slice A n c]) ∧ SN w' A n c k
/-- A number with a sign is returned. -/
def RetZ (e : Ending) (w' : World) (z : Int) : Prop := ∃ b A n c, e = .returned (.agg #[.bool b, .slice A n c]) ∧ RZ w' b A n c z

set_option maxRecDepth 100000 in
theorem num_zero (w : World) (A : Option Addr) (n c k : Nat) (h : SN w A n c k) (hk : Big k) :
    Calls Tryz.prog 201 #[.agg #[.slice A n c]] w fun e w' => e = .returned (.bool (decide (k = 0))) ∧ Below w.heap.size w w' := by
  have HX := Lib.hid h
  have HK := Lib.hid hk
  clear h hk
  go_enter Tryz.func201, Tryz.ntmps201
  go_wp2_with fail
  have BB : Below w.heap.size w (w.alloc (.cells #[.slice A n c] 24)) := (Below.refl _ _).alloc (Nat.le_refl _) _
  refine (nat_Cmp _ _ _ (wordsOf k) (wordsOf 0) (HX.out.below BB (Nat.le_refl _)) (SN.zero _ _ _) (Nat.le_trans HK.out (by omega)) (by simp [wordsOf_zero])).mono ?_
  rintro e w1 ⟨rfl, hb⟩
  rw [val_wordsOf, val_wordsOf]
  have hcmp : (cmpN k 0 == 0) = decide (k = 0) := by
    by_cases h : k = 0
    · rw [cmpN_eq h]; simp [h]
    · rw [cmpN_gt (Nat.pos_of_ne_zero h)]; simp [h]
  generalize cmpN k 0 = z at *
  have Hb := Lib.hid (BB.trans (hb.mono BB.size))
  clear hb BB
  dsimp only
  go_wp2
  go_ret
  exact ⟨by rw [← hcmp]; rfl, Hb.out⟩

set_option maxRecDepth 100000 in
theorem rat_zero (w : World) (A : Option Addr) (n c k : Nat) (h : SN w A n c k) (hk : Big k) :
    Calls Tryz.prog 138 #[.agg #[.slice A n c]] w fun e w' => e = .returned (.bool (decide (k = 0))) ∧ Below w.heap.size w w' := by
  have HX := Lib.hid h
  have HK := Lib.hid hk
  clear h hk
  go_enter Tryz.func138, Tryz.ntmps138
  go_wp2_with fail
  have BB : Below w.heap.size w (w.alloc (.cells #[.slice A n c] 24)) := (Below.refl _ _).alloc (Nat.le_refl _) _
  refine (nat_Cmp _ _ _ (wordsOf k) (wordsOf 0) (HX.out.below BB (Nat.le_refl _)) (SN.zero _ _ _) (Nat.le_trans HK.out (by omega)) (by simp [wordsOf_zero])).mono ?_
  rintro e w1 ⟨rfl, hb⟩
  rw [val_wordsOf, val_wordsOf]
  have hcmp : (cmpN k 0 == 0) = decide (k = 0) := by
    by_cases h : k = 0
    · rw [cmpN_eq h]; simp [h]
    · rw [cmpN_gt (Nat.pos_of_ne_zero h)]; simp [h]
  generalize cmpN k 0 = z at *
  have Hb := Lib.hid (BB.trans (hb.mono BB.size))
  clear hb BB
  dsimp only
  go_wp2
  go_ret
  exact ⟨by rw [← hcmp]; rfl, Hb.out⟩

set_option maxRecDepth 100000 in
theorem dec_zero (w : World) (A : Option Addr) (n c k : Nat) (h : SN w A n c k) (hk : Big k) :
    Calls Tryz.prog 76 #[.agg #[.slice A n c]] w fun e w' => e = .returned (.bool (decide (k = 0))) ∧ Below w.heap.size w w' := by
  have HX := Lib.hid h
  have HK := Lib.hid hk
  clear h hk
  go_enter Tryz.func76, Tryz.ntmps76
  go_wp2_with fail
  have BB : Below w.heap.size w (w.alloc (.cells #[.slice A n c] 24)) := (Below.refl _ _).alloc (Nat.le_refl _) _
  refine (nat_Cmp _ _ _ (wordsOf k) (wordsOf 0) (HX.out.below BB (Nat.le_refl _)) (SN.zero _ _ _) (Nat.le_trans HK.out (by omega)) (by simp [wordsOf_zero])).mono ?_
  rintro e w1 ⟨rfl, hb⟩
  rw [val_wordsOf, val_wordsOf]
  have hcmp : (cmpN k 0 == 0) = decide (k = 0) := by
    by_cases h : k = 0
    · rw [cmpN_eq h]; simp [h]
    · rw [cmpN_gt (Nat.pos_of_ne_zero h)]; simp [h]
  generalize cmpN k 0 = z at *
  have Hb := Lib.hid (BB.trans (hb.mono BB.size))
  clear hb BB
  dsimp only
  go_wp2
  go_ret
  exact ⟨by rw [← hcmp]; rfl, Hb.out⟩

end Go.Proofs.YtdgleeglndcjhaaGreatDoor
