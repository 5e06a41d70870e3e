/- Rows of texts that a call makes; package rule: cut. -/
import Derived.Test.YtdgleeglndcjhaaGreatDoorG1
import Derived.Deep.AppendLies
import Derived.Maps.AppendAt
namespace Go.Proofs.YtdgleeglndcjhaaGreatDoor
open Go.RowKit
set_option linter.unusedVariables false
set_option linter.unusedSimpArgs false

theorem Tryz_info9 : (Tryz.prog.info? 9).map (fun i => (i.zero, i.size, i.bytes)) = some (some (.string ByteArray.empty), 1, 16) := by kernel_rfl
theorem Tryz_info54 : (Tryz.prog.info? 54).map (fun i => (i.zero, i.size, i.bytes)) = some (some (.slice none 0 0), 1, 24) := by kernel_rfl

def strs (ws : List Bs) : List Value := ws.map fun b => Value.string ⟨b.toArray⟩
theorem strs_len (ws : List Bs) : (strs ws).length = ws.length := by simp [strs]
theorem strs_app (a b : List Bs) : strs (a ++ b) = strs a ++ strs b := by simp [strs]
def OwnS (w : World) (B : Nat) (x : Value) (ws : List Bs) : Prop := w.ownsRow B 9 1 x ws.length (strs ws)
def Apart (x y : Value) : Prop := x.ownBlock = none ∨ x.ownBlock ≠ y.ownBlock
/-- Rows of texts, each in memory of its own. -/
structure CutI (w : World) (B : Nat) (v : Value) (xs : List Value) (rows : List (List Bs)) : Prop where
  out : w.ownsRow B 54 1 v rows.length xs
  rows : F2 (OwnS w B) xs rows
  apart : ∀ x ∈ xs, Apart x v
  pair : xs.Pairwise Apart
theorem F2.snoc {α β : Type} {R : α → β → Prop} : ∀ {l : List α} {r : List β} {a : α} {b : β}, F2 R l r → R a b → F2 R (l ++ [a]) (r ++ [b])
  | _, _, _, _, .nil, h => .cons h .nil
  | _, _, _, _, .cons k ks, h => .cons k (ks.snoc h)
theorem F2.unsnoc {α β : Type} {R : α → β → Prop} : ∀ {l : List α} {r : List β} {b : β}, F2 R l (r ++ [b]) → ∃ l' a, l = l' ++ [a] ∧ F2 R l' r ∧ R a b
  | _, [], _, .cons h .nil => ⟨[], _, rfl, .nil, h⟩
  | _, _ :: r, _, .cons h hs => by
    obtain ⟨l', a, rfl, h1, h2⟩ := F2.unsnoc hs
    exact ⟨_ :: l', a, rfl, .cons h h1, h2⟩
theorem F2.mono_mem {α β : Type} {R S : α → β → Prop} : ∀ {l : List α} {r : List β}, F2 R l r → (∀ a ∈ l, ∀ b, R a b → S a b) → F2 S l r
  | _, _, .nil, _ => .nil
  | _, _, .cons h hs, k => .cons (k _ (by simp) _ h) (hs.mono_mem fun a ha => k a (List.mem_cons_of_mem _ ha))
theorem Apart.kept {x y : Value} (h : Apart x y) : x.ownBlock = none ∨ x.ownBlock ≠ y.ownBlock := h
theorem OwnS.lt {w : World} {B : Nat} {x : Value} {ws : List Bs} (h : OwnS w B x ws) {k : Nat} (hk : x.ownBlock = some k) : k < w.heap.size := (World.ownsRow.lt h k hk).2
theorem OwnS.kept {w w' : World} {B : Nat} {x v : Value} {ws : List Bs} (h : OwnS w B x ws) (hg : w.grownBy w' v.ownBlock) (ha : Apart x v) : OwnS w' B x ws := World.ownsRow.kept h hg ha
theorem OwnS.alloc {w : World} {B : Nat} {x : Value} {ws : List Bs} (h : OwnS w B x ws) (o : Obj) : OwnS (w.alloc o) B x ws := World.ownsRow.alloc h o

theorem CutI.alloc {w : World} {B : Nat} {v : Value} {xs : List Value} {rows : List (List Bs)} (h : CutI w B v xs rows) (o : Obj) : CutI (w.alloc o) B v xs rows :=
  ⟨h.out.alloc o, h.rows.mono fun _ _ k => k.alloc o, h.apart, h.pair⟩
theorem CutI.form {w : World} {B : Nat} {v : Value} {xs : List Value} {rows : List (List Bs)} (h : CutI w B v xs rows) (h0 : rows ≠ []) : ∃ g cap, v = .slice (some ⟨g, 0, none⟩) rows.length cap := by
  rcases h.out.2 with ⟨-, hn⟩ | ⟨g, cap, cur, hv, -⟩
  · exact absurd (List.eq_nil_of_length_eq_zero hn) h0
  · exact ⟨g, cap, hv⟩
theorem CutI.first (w : World) (B : Nat) (hB : B ≤ w.heap.size) : CutI (w.alloc (.cells #[.slice none 0 0] 54)) B (.slice (some ⟨w.heap.size, 0, none⟩) 1 1) [.slice none 0 0] [[]] :=
  ⟨World.ownsRow_lit w #[.slice none 0 0] 1 hB (by decide) rfl, .cons (World.ownsRow_nil _ _ _ _) .nil, fun x hx => by
    have : x = .slice none 0 0 := by simpa using hx
    subst this; exact .inl rfl, by simp⟩
/-- A new row. -/
theorem CutI.push {w w' : World} {B : Nat} {v v' : Value} {xs : List Value} {rows : List (List Bs)} (h : CutI w B v xs rows) (hg : w.grownBy w' v.ownBlock)
    (ho : w'.ownsRow B 54 1 v' (rows.length + 1) (xs ++ [.slice none 0 0])) (hat : v.ownBlock = v'.ownBlock ∨ v'.ownBlock = some w.heap.size) : CutI w' B v' (xs ++ [.slice none 0 0]) (rows ++ [[]]) := by
  refine ⟨by simpa using ho, ?_, ?_, ?_⟩
  · exact (h.rows.mono_mem fun x hx ws k => k.kept hg (h.apart x hx)).snoc (World.ownsRow_nil _ _ _ _)
  · intro x hx
    rcases List.mem_append.1 hx with hx | hx
    · rcases hat with e | e
      · unfold Apart; rw [← e]; exact h.apart x hx
      · cases hb : x.ownBlock with
        | none => exact .inl hb
        | some k =>
          right
          rw [e, hb]
          have := F2.left (p := fun x => ∀ k, x.ownBlock = some k → k < w.heap.size) (fun a b hab k hk => hab.lt hk) h.rows x hx k hb
          intro e'; cases e'; omega
    · have : x = .slice none 0 0 := by simpa using hx
      subst this; exact .inl rfl
  · rw [List.pairwise_append]
    refine ⟨h.pair, by simp, fun x hx y hy => ?_⟩
    have : y = .slice none 0 0 := by simpa using hy
    subst this
    cases hb : x.ownBlock with
    | none => exact .inl hb
    | some k => exact .inr (by rw [hb]; simp [Value.ownBlock])
/-- The last row is one text longer. -/
theorem CutI.grow {w w' : World} {B g cap n g' cap' : Nat} {xs : List Value} {x : Value} {rows : List (List Bs)} {r : List Bs} {t : Bs} (hl : xs.length = n)
    (h : CutI w B (.slice (some ⟨g, 0, none⟩) (n + 1) cap) (xs ++ [x]) (rows ++ [r])) (hg : w.grownBy w' x.ownBlock)
    (ho : w'.ownsRow B 9 1 (.slice (some ⟨g', 0, none⟩) (r.length + 1) cap') (r.length + 1) (strs r ++ [.string ⟨t.toArray⟩])) (hat : x.ownBlock = some g' ∨ g' = w.heap.size) :
    CutI (w'.setCell ⟨g, n, none⟩ (.slice (some ⟨g', 0, none⟩) (r.length + 1) cap')) B (.slice (some ⟨g, 0, none⟩) (n + 1) cap) (xs ++ [.slice (some ⟨g', 0, none⟩) (r.length + 1) cap']) (rows ++ [r ++ [t]]) ∧ w'.cell? ⟨g, n, none⟩ = some x ∧ w'.frozen? ⟨g, n, none⟩ = false := by
  obtain ⟨hxs, -, hr⟩ := F2.unsnoc h.rows |>.imp fun _ h => h.imp fun _ h => h
  have hF := h.rows
  obtain ⟨l', a, e, hF1, hF2⟩ := F2.unsnoc hF
  obtain ⟨rfl, e2⟩ := List.append_inj' e rfl
  cases e2
  have hlen : rows.length = n := by rw [← hF1.len, hl]
  have hout := h.out
  have hax : Apart x (.slice (some ⟨g, 0, none⟩) (n + 1) cap) := h.apart x (by simp)
  have hvx : Value.ownBlock (.slice (some ⟨g, 0, none⟩) (n + 1) cap) = none ∨ Value.ownBlock (.slice (some ⟨g, 0, none⟩) (n + 1) cap) ≠ x.ownBlock := by
    right
    rcases hax with h | h
    · rw [h]; simp [Value.ownBlock]
    · exact Ne.symm h
  have hn : (rows ++ [r]).length = n + 1 := by simp [hlen]
  rw [hn] at hout
  have ho1 := hout.kept hg hvx
  have hst := ho1.stored n (.slice (some ⟨g', 0, none⟩) (r.length + 1) cap')
  have hgne : g' ≠ g := by
    rintro rfl
    rcases hat with h | h
    · rcases hax with h' | h'
      · rw [h'] at h; cases h
      · exact h' h
    · have := (hout.lt g' rfl).2; omega
  have hset : (xs ++ [x]).set n (.slice (some ⟨g', 0, none⟩) (r.length + 1) cap') = xs ++ [.slice (some ⟨g', 0, none⟩) (r.length + 1) cap'] := by
    rw [List.set_append_right _ _ (by omega), hl]; simp
  rw [hset] at hst
  refine ⟨⟨?_, ?_, ?_, ?_⟩, ?_, ho1.frozenAt n⟩
  · have e : (rows ++ [r ++ [t]]).length = n + 1 := by simp [hlen]
    rw [e]; exact hst.1
  · refine F2.snoc ?_ ?_
    · refine (hF1.mono_mem fun y hy ws k => ?_)
      have hyx : Apart y x := (List.pairwise_append.1 h.pair).2.2 y hy x (by simp)
      have k1 := k.kept hg hyx
      exact World.ownsRow.kept k1 hst.2 (h.apart y (by simp [hy]))
    · show World.ownsRow _ B 9 1 _ (r ++ [t]).length (strs (r ++ [t]))
      rw [strs_app, List.length_append]
      exact ho.kept hst.2 (.inr (by simp only [Value.ownBlock, ne_eq, Option.some.injEq]; exact hgne))
  · intro y hy
    rcases List.mem_append.1 hy with hy | hy
    · exact h.apart y (by simp [hy])
    · have : y = .slice (some ⟨g', 0, none⟩) (r.length + 1) cap' := by simpa using hy
      subst this
      exact .inr (by simp only [Value.ownBlock, ne_eq, Option.some.injEq]; exact hgne)
  · rw [List.pairwise_append]
    refine ⟨(List.pairwise_append.1 h.pair).1, by simp, fun y hy z hz => ?_⟩
    have : z = .slice (some ⟨g', 0, none⟩) (r.length + 1) cap' := by simpa using hz
    subst this
    cases hb : y.ownBlock with
    | none => exact .inl hb
    | some k =>
      right
      rw [hb]
      rcases hat with e | e
      · have hyx : Apart y x := (List.pairwise_append.1 h.pair).2.2 y hy x (by simp)
        rcases hyx with h' | h'
        · rw [h'] at hb; cases hb
        · rw [hb, e] at h'; exact h'
      · have := F2.left (p := fun x => ∀ k, x.ownBlock = some k → k < w.heap.size) (fun a b hab k hk => hab.lt hk) hF1 y hy k hb
        simp only [Value.ownBlock, ne_eq, Option.some.injEq]; omega
  · rw [ho1.cellAt n (by omega), List.getElem?_append_right (by omega), hl]; simp

theorem F2.at {α β : Type} {R : α → β → Prop} : ∀ {l : List α} {r : List β}, F2 R l r → ∀ (j : Nat) (b : β), r[j]? = some b → ∃ a, l[j]? = some a ∧ R a b
  | _, _, .nil, j, b, h => by simp at h
  | _, _, .cons h hs, 0, b, hb => by simp at hb; subst hb; exact ⟨_, rfl, h⟩
  | _, _, .cons h hs, j + 1, b, hb => by simpa using hs.at j b (by simpa using hb)
/-- The slice holds these rows of texts, all of it in memory from block B on. -/
def RowsAre (w : World) (B : Nat) (A : Option Addr) (n c : Nat) (rows : List (List Bs)) : Prop :=
  ∃ xs : List Value, SlC w (.slice A n c) 1 rows.length xs ∧ (∀ k, Value.ownBlock (.slice A n c) = some k → B ≤ k) ∧ F2 (fun x ws => ∃ A n c, x = .slice A n c ∧ StrsAre w A n c ws ∧ ∀ k, x.ownBlock = some k → B ≤ k) xs rows
theorem RowsAre.below {w w' : World} {C : Nat} {A : Option Addr} {n c B : Nat} {rows : List (List Bs)} (h : RowsAre w C A n c rows) (hb : Below B w w') (hB : w.heap.size ≤ B) : RowsAre w' C A n c rows := by
  obtain ⟨xs, h1, h2, h3⟩ := h
  exact ⟨xs, h1.below hb hB, h2, h3.mono fun x ws ⟨A, n, c, e, k, h⟩ => ⟨A, n, c, e, k.below hb hB, h⟩⟩
theorem RowsAre.len {w : World} {C : Nat} {A : Option Addr} {n c : Nat} {rows : List (List Bs)} (h : RowsAre w C A n c rows) : n = rows.length := by
  obtain ⟨xs, ⟨A', c', h1, -⟩, -⟩ := h
  exact (Value.slice.inj h1).2.1
theorem RowsAre.at {w : World} {C : Nat} {A : Option Addr} {n c : Nat} {rows : List (List Bs)} (h : RowsAre w C A n c rows) (h0 : 0 < rows.length) : ∃ b o, A = some ⟨b, o, none⟩ ∧ C ≤ b ∧ ∀ j r, rows[j]? = some r → ∃ A n c, w.cell? ⟨b, o + j, none⟩ = some (.slice A n c) ∧ StrsAre w A n c r ∧ ∀ k, Value.ownBlock (.slice A n c) = some k → C ≤ k := by
  obtain ⟨xs, ⟨A', c', h1, h2, h3, h4⟩, h8, h5⟩ := h
  obtain ⟨b, o, h6, h7⟩ := h4 (by omega)
  obtain ⟨rfl, -, -⟩ := Value.slice.inj h1
  refine ⟨b, o, h6, h8 b (by rw [h6]; rfl), fun j r hr => ?_⟩
  obtain ⟨x, hx, A, n, c, rfl, hs, hk⟩ := h5.at j r hr
  exact ⟨A, n, c, h7 j _ hx, hs, hk⟩
theorem CutI.are {w : World} {B : Nat} {v : Value} {xs : List Value} {rows : List (List Bs)} (h : CutI w B v xs rows) : ∃ A n c, v = .slice A n c ∧ RowsAre w B A n c rows := by
  have h1 := SlC.own h.out
  obtain ⟨A, c, rfl, -⟩ := h1
  refine ⟨A, _, c, rfl, xs, SlC.own h.out, fun k hk => (h.out.lt k hk).1, h.rows.mono fun x ws k => ?_⟩
  have k1 := SlC.own k
  obtain ⟨A, c, rfl, -⟩ := k1
  exact ⟨A, _, c, rfl, SlC.own k, fun j hj => (World.ownsRow.lt k j hj).1⟩
/-- Rows of texts are returned. -/
def RetSS (e : Ending) (w' : World) (B : Nat) (rows : List (List Bs)) : Prop := ∃ A n c, e = .returned (.slice A n c) ∧ RowsAre w' B A n c rows

theorem splitG_snoc_eq {α : Type} [DecidableEq α] (c : α) (l : List α) : splitG c (l ++ [c]) = splitG c l ++ [[]] := splitG_app c l []
theorem splitG_snoc_ne {α : Type} [DecidableEq α] {c x : α} (h : x ≠ c) : ∀ l : List α, ∃ i r, splitG c l = i ++ [r] ∧ splitG c (l ++ [x]) = i ++ [r ++ [x]]
  | [] => ⟨[], [], rfl, splitG_other h rfl⟩
  | b :: l => by
    obtain ⟨i, r, e1, e2⟩ := splitG_snoc_ne h l
    by_cases hb : b = c
    · subst hb
      exact ⟨[] :: i, r, by rw [splitG_eq, e1]; rfl, by rw [List.cons_append, splitG_eq, e2]; rfl⟩
    · cases i with
      | nil => exact ⟨[], b :: r, by rw [splitG_other hb e1]; rfl, by rw [List.cons_append, splitG_other hb e2]; rfl⟩
      | cons y i => exact ⟨(b :: y) :: i, r, by rw [splitG_other hb e1]; rfl, by rw [List.cons_append, splitG_other hb e2]; rfl⟩
end Go.Proofs.YtdgleeglndcjhaaGreatDoor
