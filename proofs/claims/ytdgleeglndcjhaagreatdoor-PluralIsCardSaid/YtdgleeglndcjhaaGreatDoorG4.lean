/- Package rule: list. -/
import Derived.Test.YtdgleeglndcjhaaGreatDoorG3
namespace Go.Proofs.YtdgleeglndcjhaaGreatDoor
open Go.RowKit
set_option linter.unusedVariables false
set_option linter.unusedSimpArgs false

theorem rule_number_some (w : World) (l : Bs) (n : Nat) (hl : l.length ≤ 1000000) (h : num? l = some n) :
    Calls Tryz.prog 82 #[.string ⟨l.toArray⟩] w fun e w' => e = .returned (.tuple #[.int .i64 (n : Int), .bool true]) ∧ Below w.heap.size w w' := by
  have := rule_number w ⟨l.toArray⟩ (by rw [Lib.size_eq]; simpa using hl)
  simp only [List.toList_toArray, h, Option.getD_some, Option.isSome_some] at this
  exact this
theorem rule_number_none (w : World) (l : Bs) (hl : l.length ≤ 1000000) (h : num? l = none) :
    Calls Tryz.prog 82 #[.string ⟨l.toArray⟩] w fun e w' => e = .returned (.tuple #[.int .i64 0, .bool false]) ∧ Below w.heap.size w w' := by
  have := rule_number w ⟨l.toArray⟩ (by rw [Lib.size_eq]; simpa using hl)
  simp only [List.toList_toArray, h, Option.getD_none, Option.isSome_none] at this
  exact this
theorem str_cut_is (w : World) (l : Bs) (a b : Bs) (two : Bool) (hg : GW w) (hl : l.length ≤ 1000000) (h : Lib.cut l [46, 46] = (a, b, two)) :
    Calls Tryz.prog 104 #[.string ⟨l.toArray⟩, .string ⟨#[46, 46]⟩] w fun e w' => e = .returned (.tuple #[.string ⟨a.toArray⟩, .string ⟨b.toArray⟩, .bool two]) ∧ Below w.heap.size w w' := by
  have := str_cut ⟨l.toArray⟩ ⟨#[46, 46]⟩ w hg (by rw [Lib.size_eq]; simpa using hl)
  simp only [List.toList_toArray, h] at this
  exact this
theorem cut_lens (l sep : Bs) : (Lib.cut l sep).1.length ≤ l.length ∧ (Lib.cut l sep).2.1.length ≤ l.length := by
  unfold Lib.cut
  split
  · simp; omega
  · simp

theorem Apart.symm {x y : Value} (h : Apart x y) : Apart y x := by
  unfold Apart at *
  rcases h with h | h
  · cases hy : y.ownBlock with
    | none => exact .inl rfl
    | some k => right; rw [h]; simp
  · right; exact Ne.symm h

def ints (l : List Int) : List Value := l.map (Value.int .i64)
/-- The slice holds these whole numbers. -/
def IntsAre (w : World) (A : Option Addr) (n c : Nat) (l : List Int) : Prop := SlC w (.slice A n c) 1 l.length (ints l)
theorem IntsAre.below {w w' : World} {A : Option Addr} {n c B : Nat} {l : List Int} (h : IntsAre w A n c l) (hb : Below B w w') (hB : w.heap.size ≤ B) : IntsAre w' A n c l := SlC.below h hb hB
def IntsV (w : World) (v : Value) (l : List Int) : Prop := ∃ A n c, v = .slice A n c ∧ IntsAre w A n c l
def OwnI (w : World) (B : Nat) (x : Value) (l : List Int) : Prop := w.ownsRow B 3 1 x l.length (ints l)
theorem OwnI.ints {w : World} {B : Nat} {x : Value} {l : List Int} (h : OwnI w B x l) : IntsV w x l := by
  have h1 := SlC.own h
  obtain ⟨A, c, rfl, -⟩ := h1
  exact ⟨A, _, c, rfl, SlC.own h⟩
theorem OwnI.form {w : World} {B : Nat} {x : Value} {l : List Int} (h : OwnI w B x l) : ∃ A n c, x = .slice A n c := by
  obtain ⟨A, n, c, rfl, -⟩ := h.ints
  exact ⟨A, n, c, rfl⟩
structure ListI (w W : World) (g : Nat) (pre : List Value) (vF vT : Value) (F T : List Int) : Prop where
  blk : Blk w g 47 (pre ++ [vF, vT])
  fr : OwnI w W.heap.size vF F
  tl : OwnI w W.heap.size vT T
  ap : Apart vF vT
  gr : W.grownBy w (some g)
theorem Blk.kept {w w' : World} {g : Nat} {t : TypeId} {l : List Value} {row : Option Nat} (h : Blk w g t l) (hg : w.grownBy w' row) (hne : some g ≠ row) : Blk w' g t l := by
  have := h.lt
  unfold Blk at *
  rw [hg.block g this hne]; exact h
theorem grown_alloc {w : World} {row : Option Nat} (o : Obj) : w.grownBy (w.alloc o) row := World.grownBy_alloc w o row
theorem ListI.alloc {w W : World} {g : Nat} {pre : List Value} {vF vT : Value} {F T : List Int} (h : ListI w W g pre vF vT F T) (o : Obj) : ListI (w.alloc o) W g pre vF vT F T :=
  ⟨h.blk.alloc o, h.fr.alloc o, h.tl.alloc o, h.ap, h.gr.trans (grown_alloc o)⟩
theorem ListI.below {w w' W : World} {g : Nat} {pre : List Value} {vF vT : Value} {F T : List Int} (h : ListI w W g pre vF vT F T) (hb : Below w.heap.size w w') : ListI w' W g pre vF vT F T := by
  have hg : w.grownBy w' none := ⟨hb.os, hb.tape, hb.output, hb.size, fun k hk _ => hb.block k hk⟩
  refine ⟨h.blk.kept hg (by simp), World.ownsRow.kept h.fr hg ?_, World.ownsRow.kept h.tl hg ?_, h.ap, h.gr.trans ⟨hb.os, hb.tape, hb.output, hb.size, fun k hk _ => hb.block k hk⟩⟩
  · cases e : vF.ownBlock with
    | none => exact .inl rfl
    | some k => exact .inr (by simp)
  · cases e : vT.ownBlock with
    | none => exact .inl rfl
    | some k => exact .inr (by simp)
theorem own_ne {w : World} {B g : Nat} {x : Value} {e : TypeId} {sz n : Nat} {xs : List Value} (h : w.ownsRow B e sz x n xs) (hg : g < B) : some g ≠ x.ownBlock := by
  intro e
  have := (h.lt g e.symm).1
  omega
theorem ListI.cells {w W : World} {g : Nat} {l m nt : Value} {vF vT : Value} {F T : List Int} (h : ListI w W g [l, m, nt] vF vT F T) :
    w.cell? ⟨g, 3, none⟩ = some vF ∧ w.cell? ⟨g, 4, none⟩ = some vT ∧ w.frozen? ⟨g, 3, none⟩ = false ∧ w.frozen? ⟨g, 4, none⟩ = false :=
  ⟨h.blk.cell 3, h.blk.cell 4, h.blk.frozen 3, h.blk.frozen 4⟩
theorem grown_up {W w w1 : World} {g : Nat} {row : Option Nat} (h : W.grownBy w (some g)) (hg : w.grownBy w1 row) (hr : ∀ k, row = some k → W.heap.size ≤ k) : W.grownBy w1 (some g) :=
  ⟨hg.os.trans h.os, hg.tape.trans h.tape, hg.output.trans h.output, Nat.le_trans h.size hg.size, fun k hk hne => (hg.block k (Nat.lt_of_lt_of_le hk h.size) (fun e => by have := hr k e.symm; omega)).trans (h.block k hk hne)⟩
theorem grown_put {W w : World} {g : Nat} (h : W.grownBy w (some g)) (i : Nat) (u : Value) : W.grownBy (w.setCell ⟨g, i, none⟩ u) (some g) :=
  h.trans ⟨rfl, rfl, rfl, by simp, fun k _ hk => Below.heap_setCell _ _ _ _ (by intro e; exact hk (by simp [e]))⟩
/-- One number more ahead. -/
theorem ListI.from {w w1 W : World} {g g' cap : Nat} {l m nt : Value} {vF vT : Value} {F T : List Int} {x : Int} (h : ListI w W g [l, m, nt] vF vT F T) (hgW : g < W.heap.size)
    (hg : w.grownBy w1 vF.ownBlock) (ho : w1.ownsRow W.heap.size 3 1 (.slice (some ⟨g', 0, none⟩) (F.length + 1) cap) (F.length + 1) (ints F ++ [.int .i64 x])) (hat : vF.ownBlock = some g' ∨ g' = w.heap.size) :
    ListI (w1.setCell ⟨g, 3, none⟩ (.slice (some ⟨g', 0, none⟩) (F.length + 1) cap)) W g [l, m, nt] (.slice (some ⟨g', 0, none⟩) (F.length + 1) cap) vT (F ++ [x]) T ∧ w1.cell? ⟨g, 3, none⟩ = some vF ∧ w1.cell? ⟨g, 4, none⟩ = some vT ∧ w1.frozen? ⟨g, 3, none⟩ = false ∧ w1.frozen? ⟨g, 4, none⟩ = false := by
  have b1 := h.blk.kept hg (own_ne h.fr hgW)
  have hT : OwnI w1 W.heap.size vT T := World.ownsRow.kept h.tl hg h.ap.symm
  have hset : w1.grownBy (w1.setCell ⟨g, 3, none⟩ (.slice (some ⟨g', 0, none⟩) (F.length + 1) cap)) (some g) := ⟨rfl, rfl, rfl, by simp, fun k _ hk => Below.heap_setCell _ _ _ _ (by intro e; exact hk (by simp [e]))⟩
  refine ⟨⟨b1.put 3 _, ?_, World.ownsRow.kept hT hset (.inr (Ne.symm (own_ne hT hgW))), ?_, grown_put (grown_up h.gr hg (fun k hk => (World.ownsRow.lt h.fr k hk).1)) 3 _⟩, b1.cell 3, b1.cell 4, b1.frozen 3, b1.frozen 4⟩
  · show World.ownsRow _ _ 3 1 _ (F ++ [x]).length (ints (F ++ [x]))
    rw [List.length_append]
    have e : ints (F ++ [x]) = ints F ++ [.int .i64 x] := by simp [ints]
    rw [e]
    exact World.ownsRow.kept ho hset (.inr (Ne.symm (own_ne ho hgW)))
  · right
    rcases hat with e | e
    · show some g' ≠ _
      rw [← e]
      rcases h.ap with h' | h'
      · rw [h'] at e; cases e
      · exact h'
    · intro e'
      have := (World.ownsRow.lt h.tl g' e'.symm).2
      omega
/-- One number more behind. -/
theorem ListI.till {w w1 W : World} {g g' cap : Nat} {l m nt : Value} {vF vT : Value} {F T : List Int} {x : Int} (h : ListI w W g [l, m, nt] vF vT F T) (hgW : g < W.heap.size)
    (hg : w.grownBy w1 vT.ownBlock) (ho : w1.ownsRow W.heap.size 3 1 (.slice (some ⟨g', 0, none⟩) (T.length + 1) cap) (T.length + 1) (ints T ++ [.int .i64 x])) (hat : vT.ownBlock = some g' ∨ g' = w.heap.size) :
    ListI (w1.setCell ⟨g, 4, none⟩ (.slice (some ⟨g', 0, none⟩) (T.length + 1) cap)) W g [l, m, nt] vF (.slice (some ⟨g', 0, none⟩) (T.length + 1) cap) F (T ++ [x]) ∧ w1.cell? ⟨g, 4, none⟩ = some vT ∧ w1.frozen? ⟨g, 4, none⟩ = false := by
  have b1 := h.blk.kept hg (own_ne h.tl hgW)
  have hF : OwnI w1 W.heap.size vF F := World.ownsRow.kept h.fr hg h.ap
  have hset : w1.grownBy (w1.setCell ⟨g, 4, none⟩ (.slice (some ⟨g', 0, none⟩) (T.length + 1) cap)) (some g) := ⟨rfl, rfl, rfl, by simp, fun k _ hk => Below.heap_setCell _ _ _ _ (by intro e; exact hk (by simp [e]))⟩
  refine ⟨⟨b1.put 4 _, World.ownsRow.kept hF hset (.inr (Ne.symm (own_ne hF hgW))), ?_, Apart.symm ?_, grown_put (grown_up h.gr hg (fun k hk => (World.ownsRow.lt h.tl k hk).1)) 4 _⟩, b1.cell 4, b1.frozen 4⟩
  · show World.ownsRow _ _ 3 1 _ (T ++ [x]).length (ints (T ++ [x]))
    rw [List.length_append]
    have e : ints (T ++ [x]) = ints T ++ [.int .i64 x] := by simp [ints]
    rw [e]
    exact World.ownsRow.kept ho hset (.inr (Ne.symm (own_ne ho hgW)))
  · right
    rcases hat with e | e
    · show some g' ≠ _
      rw [← e]
      rcases h.ap.symm with h' | h'
      · rw [h'] at e; cases e
      · exact h'
    · intro e'
      have := (World.ownsRow.lt h.fr g' e'.symm).2
      omega
/-- .. in memory from block B on. -/
def IntsB (w : World) (B : Nat) (v : Value) (l : List Int) : Prop := IntsV w v l ∧ ∀ k, v.ownBlock = some k → B ≤ k ∧ k < w.heap.size
theorem OwnI.intsB {w : World} {B B' : Nat} {x : Value} {l : List Int} (h : OwnI w B x l) (hB : B' ≤ B) : IntsB w B' x l := ⟨h.ints, fun k hk => ⟨Nat.le_trans hB (World.ownsRow.lt h k hk).1, (World.ownsRow.lt h k hk).2⟩⟩
theorem IntsB.mono {w : World} {B B' : Nat} {v : Value} {l : List Int} (h : IntsB w B v l) (hB : B' ≤ B) : IntsB w B' v l := ⟨h.1, fun k hk => ⟨Nat.le_trans hB (h.2 k hk).1, (h.2 k hk).2⟩⟩
/-- The block of the slice is as it was. -/
theorem IntsB.kept {w w' : World} {B : Nat} {v : Value} {l : List Int} (h : IntsB w B v l) (hs : w.heap.size ≤ w'.heap.size) (hk : ∀ k, v.ownBlock = some k → w'.heap[k]? = w.heap[k]?) : IntsB w' B v l := by
  obtain ⟨⟨A, n, c, rfl, A', c', h1, h2, h3, h4⟩, h5⟩ := h
  refine ⟨⟨A, n, c, rfl, A', c', h1, h2, h3, fun hp => ?_⟩, fun k hk' => ⟨(h5 k hk').1, Nat.lt_of_lt_of_le (h5 k hk').2 hs⟩⟩
  obtain ⟨b, o, h6, h7⟩ := h4 hp
  refine ⟨b, o, h6, fun j x hx => ?_⟩
  rw [← h7 j x hx]
  unfold World.cell?
  rw [hk b (by rw [show A = A' from (Value.slice.inj h1).1, h6]; rfl)]
theorem IntsB.set {w : World} {B g : Nat} {v : Value} {l : List Int} (h : IntsB w B v l) (hg : g < B) (i : Nat) (u : Value) : IntsB (w.setCell ⟨g, i, none⟩ u) B v l :=
  h.kept (by simp) fun k hk => Below.heap_setCell _ _ _ _ (by have := (h.2 k hk).1; simp; omega)
theorem IntsB.below {w w' : World} {B : Nat} {v : Value} {l : List Int} (h : IntsB w B v l) (hb : Below w.heap.size w w') : IntsB w' B v l :=
  h.kept hb.size fun k hk => hb.block k (h.2 k hk).2
theorem IntsV.below {w w' : World} {v : Value} {B : Nat} {l : List Int} (h : IntsV w v l) (hb : Below B w w') (hB : w.heap.size ≤ B) : IntsV w' v l := by
  obtain ⟨A, n, c, rfl, h⟩ := h
  exact ⟨A, n, c, rfl, h.below hb hB⟩
def firsts (L : List (Nat × Nat)) : List Int := L.map fun e => (e.1 : Int)
def seconds (L : List (Nat × Nat)) : List Int := L.map fun e => (e.2 : Int)
def ListPost (w : World) (g : Nat) (pre : List Value) (s : Bs) (e : Ending) (w' : World) : Prop :=
  ∃ vF vT, Blk w' g 47 (pre ++ [vF, vT]) ∧ w.grownBy w' (some g) ∧ (∃ A n c, vF = .slice A n c) ∧ (∃ A n c, vT = .slice A n c) ∧
    ((∃ L, list? s = some L ∧ e = .returned (.bool true) ∧ IntsB w' w.heap.size vF (firsts L) ∧ IntsB w' w.heap.size vT (seconds L)) ∨ (list? s = none ∧ e = .returned (.bool false)))
/-- What holds at the head of a round of list. -/
def ListW (W : World) (g : Nat) (pre : List Value) (ws : List Bs) (i : Value) (wr : World) : Prop :=
  ∃ (k : Nat) (L : List (Nat × Nat)) (vF vT : Value), k ≤ ws.length ∧ i = .int .i64 k ∧ all? item? (ws.take k) = some L ∧ L.length = k ∧ ListI wr W g pre vF vT (firsts L) (seconds L)
theorem all?_snoc {α β : Type} {f : α → Option β} {l : List α} {r : List β} {a : α} {b : β} (h : all? f l = some r) (hb : f a = some b) : all? f (l ++ [a]) = some (r ++ [b]) :=
  all?_append h (by simp [all?, hb])
theorem all?_bad {α β : Type} {f : α → Option β} : ∀ {l : List α} {k : Nat} {a : α}, l[k]? = some a → f a = none → all? f l = none
  | [], _, _, h, _ => by simp at h
  | b :: l, 0, a, h, hf => by
    have : b = a := by simpa using h
    subst this
    simp [all?, hf]
  | b :: l, k + 1, a, h, hf => by
    have := all?_bad (l := l) (k := k) (by simpa using h) hf
    unfold all?
    split
    · rfl
    · rw [this]
end Go.Proofs.YtdgleeglndcjhaaGreatDoor
