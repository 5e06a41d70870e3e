/- Rows of conditions, rules in memory. -/
import Derived.Test.YtdgleeglndcjhaaGreatDoorG6
namespace Go.Proofs.YtdgleeglndcjhaaGreatDoor
open Go.RowKit
set_option linter.unusedVariables false
set_option linter.unusedSimpArgs false

theorem Tryz_info47 : (Tryz.prog.info? 47).map (fun i => (i.zero, i.size, i.bytes)) = some (some (.agg #[.int .u8 0, .int .i64 0, .bool false, .slice none 0 0, .slice none 0 0]), 5, 72) := by kernel_rfl
theorem Tryz_info48 : (Tryz.prog.info? 48).map (fun i => (i.zero, i.size, i.bytes)) = some (some (.slice none 0 0), 1, 24) := by kernel_rfl

abbrev E3 := Cnd × Value × Value
def five (e : E3) : List Value := [.int .u8 (e.1.letter : Int), .int .i64 e.1.mod, .bool e.1.nt, e.2.1, e.2.2]
def cellsC : List E3 → List Value
  | [] => []
  | e :: es => five e ++ cellsC es
theorem cellsC_len : ∀ es : List E3, (cellsC es).length = es.length * 5
  | [] => rfl
  | e :: es => by simp only [cellsC, List.length_append, cellsC_len es, List.length_cons, five, List.length_nil]; omega
theorem cellsC_snoc : ∀ (es : List E3) (e : E3), cellsC (es ++ [e]) = cellsC es ++ five e
  | [], e => by simp [cellsC]
  | a :: es, e => by simp only [List.cons_append, cellsC, cellsC_snoc es e, List.append_assoc]
theorem cellsC_at : ∀ (es : List E3) (j i : Nat) (e : E3), es[j]? = some e → i < 5 → (cellsC es)[j * 5 + i]? = (five e)[i]?
  | [], j, i, e, h, hi => by simp at h
  | a :: es, 0, i, e, h, hi => by
    have : a = e := by simpa using h
    subst this
    simp only [cellsC, Nat.zero_mul, Nat.zero_add]
    rw [List.getElem?_append_left (by simp [five]; omega)]
  | a :: es, j + 1, i, e, h, hi => by
    simp only [cellsC]
    rw [List.getElem?_append_right (by simp [five]; omega)]
    rw [← cellsC_at es j i e (by simpa using h) hi]
    congr 1; simp [five]; omega
def IntsOk (w : World) (B : Nat) (e : E3) : Prop := IntsB w B e.2.1 e.1.fr ∧ IntsB w B e.2.2 e.1.to ∧ (∃ A n c, e.2.1 = .slice A n c) ∧ (∃ A n c, e.2.2 = .slice A n c)
theorem IntsOk.kept {w w' : World} {B : Nat} {e : E3} (h : IntsOk w B e) (hs : w.heap.size ≤ w'.heap.size) (hk : ∀ k, e.2.1.ownBlock = some k ∨ e.2.2.ownBlock = some k → w'.heap[k]? = w.heap[k]?) : IntsOk w' B e :=
  ⟨h.1.kept hs fun k h' => hk k (.inl h'), h.2.1.kept hs fun k h' => hk k (.inr h'), h.2.2⟩
theorem IntsOk.lt {w : World} {B : Nat} {e : E3} (h : IntsOk w B e) {k : Nat} (hk : e.2.1.ownBlock = some k ∨ e.2.2.ownBlock = some k) : B ≤ k ∧ k < w.heap.size := by
  rcases hk with hk | hk
  · exact h.1.2 k hk
  · exact h.2.1.2 k hk
theorem IntsOk.mono {w : World} {B B' : Nat} {e : E3} (h : IntsOk w B e) (hB : B' ≤ B) : IntsOk w B' e := ⟨h.1.mono hB, h.2.1.mono hB, h.2.2⟩
/-- Conditions that the call appends to. -/
structure OwnC (w : World) (B : Nat) (v : Value) (es : List E3) : Prop where
  own : w.ownsRow B 47 5 v es.length (cellsC es)
  ok : ∀ e ∈ es, IntsOk w B e
  apart : ∀ e ∈ es, ∀ k, e.2.1.ownBlock = some k ∨ e.2.2.ownBlock = some k → v.ownBlock ≠ some k
theorem OwnC.nil (w : World) (B : Nat) : OwnC w B (.slice none 0 0) [] := ⟨World.ownsRow_nil _ _ _ _, fun e h => (by cases h), fun e h => (by cases h)⟩
theorem OwnC.below {w w' : World} {B : Nat} {v : Value} {es : List E3} (h : OwnC w B v es) (hb : Below w.heap.size w w') : OwnC w' B v es := by
  have hg : w.grownBy w' none := ⟨hb.os, hb.tape, hb.output, hb.size, fun k hk _ => hb.block k hk⟩
  refine ⟨h.own.kept hg ?_, fun e he => (h.ok e he).kept hb.size fun k hk => hb.block k ((h.ok e he).lt hk).2, h.apart⟩
  cases e : v.ownBlock with
  | none => exact .inl rfl
  | some k => exact .inr (by simp)
theorem OwnC.alloc {w : World} {B : Nat} {v : Value} {es : List E3} (h : OwnC w B v es) (o : Obj) : OwnC (w.alloc o) B v es := h.below ((Below.refl _ _).alloc (Nat.le_refl _) _)
theorem OwnC.push {w w1 : World} {B g cap : Nat} {v : Value} {es : List E3} {e : E3} (h : OwnC w B v es) (he : IntsOk w B e) (ha : ∀ k, e.2.1.ownBlock = some k ∨ e.2.2.ownBlock = some k → v.ownBlock ≠ some k)
    (hg : w.grownBy w1 v.ownBlock) (ho : w1.ownsRow B 47 5 (.slice (some ⟨g, 0, none⟩) (es.length + 1) cap) (es.length + 1) (cellsC es ++ five e)) (hat : v.ownBlock = some g ∨ g = w.heap.size) :
    OwnC w1 B (.slice (some ⟨g, 0, none⟩) (es.length + 1) cap) (es ++ [e]) := by
  have kept : ∀ e' : E3, IntsOk w B e' → (∀ k, e'.2.1.ownBlock = some k ∨ e'.2.2.ownBlock = some k → v.ownBlock ≠ some k) → IntsOk w1 B e' := fun e' hi hap =>
    hi.kept hg.size fun k hk => hg.block k (hi.lt hk).2 (Ne.symm (hap k hk))
  have apart : ∀ e' : E3, IntsOk w B e' → (∀ k, e'.2.1.ownBlock = some k ∨ e'.2.2.ownBlock = some k → v.ownBlock ≠ some k) → ∀ k, e'.2.1.ownBlock = some k ∨ e'.2.2.ownBlock = some k → some g ≠ some k := by
    intro e' hi hap k hk hgk
    rcases hat with h' | h'
    · exact hap k hk (h'.trans hgk)
    · have := (hi.lt hk).2; cases hgk; omega
  refine ⟨?_, fun e' he' => ?_, fun e' he' => ?_⟩
  · rw [cellsC_snoc, List.length_append]; exact ho
  · rcases List.mem_append.1 he' with h' | h'
    · exact kept e' (h.ok e' h') (h.apart e' h')
    · obtain rfl : e' = e := by simpa using h'
      exact kept e' he ha
  · rcases List.mem_append.1 he' with h' | h'
    · exact apart e' (h.ok e' h') (h.apart e' h')
    · obtain rfl : e' = e := by simpa using h'
      exact apart e' he ha
/-- The slice holds these conditions, all of it in memory from block B on. -/
def CondsB (w : World) (B : Nat) (v : Value) (l : List Cnd) : Prop :=
  ∃ es : List E3, es.map (·.1) = l ∧ SlC w v 5 es.length (cellsC es) ∧ (∀ e ∈ es, IntsOk w B e) ∧ ∀ k, v.ownBlock = some k → B ≤ k ∧ k < w.heap.size
theorem OwnC.conds {w : World} {B : Nat} {v : Value} {es : List E3} (h : OwnC w B v es) : CondsB w B v (es.map (·.1)) :=
  ⟨es, rfl, SlC.own h.own, h.ok, fun k hk => World.ownsRow.lt h.own k hk⟩
theorem SlC.stable {w w' : World} {v : Value} {sz n : Nat} {cs : List Value} (h : SlC w v sz n cs) (hk : ∀ k, v.ownBlock = some k → k < w.heap.size → w'.heap[k]? = w.heap[k]?) : SlC w' v sz n cs := by
  obtain ⟨A, c, rfl, h2, h3, h4⟩ := h
  refine ⟨A, c, rfl, h2, h3, fun hp => ?_⟩
  obtain ⟨b, o, rfl, h6⟩ := h4 hp
  refine ⟨b, o, rfl, fun j x hx => ?_⟩
  rw [← h6 j x hx]
  unfold World.cell?
  rw [hk b rfl (World.block_lt_of_cell? w _ (h6 j x hx))]
theorem CondsB.stable {w w' : World} {B : Nat} {v : Value} {l : List Cnd} (h : CondsB w B v l) (hs : w.heap.size ≤ w'.heap.size) (hk : ∀ b, B ≤ b → b < w.heap.size → w'.heap[b]? = w.heap[b]?) : CondsB w' B v l := by
  obtain ⟨es, h1, h2, h3, h4⟩ := h
  exact ⟨es, h1, h2.stable fun k h' _ => hk k (h4 k h').1 (h4 k h').2, fun e he => (h3 e he).kept hs fun k h' => hk k ((h3 e he).lt h').1 ((h3 e he).lt h').2, fun k h' => ⟨(h4 k h').1, Nat.lt_of_lt_of_le (h4 k h').2 hs⟩⟩
theorem CondsB.form {w : World} {B : Nat} {v : Value} {l : List Cnd} (h : CondsB w B v l) : ∃ A n c, v = .slice A n c := by
  obtain ⟨es, h1, ⟨A, c, rfl, -⟩, -⟩ := h
  exact ⟨A, _, c, rfl⟩
/-- A finished row: nothing writes to it any more. -/
def RowK (w : World) (v : Value) (T : Nat) (x : Value) (l : List Cnd) : Prop :=
  ∃ lo, ∃ w0 : World, CondsB w0 lo x l ∧ w0.heap.size ≤ w.heap.size ∧ T < lo ∧ (∀ b, lo ≤ b → b < w0.heap.size → w.heap[b]? = w0.heap[b]?) ∧ ∀ k, v.ownBlock = some k → k < lo ∨ w0.heap.size ≤ k
theorem RowK.step {w w' : World} {v v' : Value} {T : Nat} {x : Value} {l : List Cnd} (h : RowK w v T x l) (hs : w.heap.size ≤ w'.heap.size) (hk : ∀ b, b < w.heap.size → T < b → some b ≠ v.ownBlock → w'.heap[b]? = w.heap[b]?)
    (hv : v'.ownBlock = v.ownBlock ∨ ∃ k, v'.ownBlock = some k ∧ w.heap.size ≤ k) : RowK w' v' T x l := by
  obtain ⟨lo, w0, h1, h2, h3, h4, h5⟩ := h
  refine ⟨lo, w0, h1, Nat.le_trans h2 hs, h3, fun b hb hb2 => ?_, fun k h' => ?_⟩
  · rw [hk b (by omega) (by omega) ?_, h4 b hb hb2]
    intro e
    rcases h5 b e.symm with h | h <;> omega
  · rcases hv with e | ⟨k', e, hle⟩
    · exact h5 k (by rw [← e]; exact h')
    · rw [e] at h'; cases h'; right; omega
theorem RowK.conds {w : World} {v : Value} {T : Nat} {x : Value} {l : List Cnd} (h : RowK w v T x l) : ∃ lo, CondsB w lo x l := by
  obtain ⟨lo, w0, h1, h2, h3, h4, -⟩ := h
  exact ⟨lo, h1.stable h2 h4⟩
theorem RowK.condsT {w : World} {v : Value} {T : Nat} {x : Value} {l : List Cnd} (h : RowK w v T x l) : ∃ lo, T < lo ∧ CondsB w lo x l := by
  obtain ⟨lo, w0, h1, h2, h3, h4, -⟩ := h
  exact ⟨lo, h3, h1.stable h2 h4⟩
/-- The slice holds this rule's rows. -/
def RuleAre (w : World) (A : Option Addr) (n c : Nat) (r : Rl) : Prop :=
  ∃ xs : List Value, SlC w (.slice A n c) 1 r.length xs ∧ F2 (fun x l => ∃ lo, CondsB w lo x l) xs r
theorem RuleAre.below {w w' : World} {A : Option Addr} {n c B : Nat} {r : Rl} (h : RuleAre w A n c r) (hb : Below B w w') (hB : w.heap.size ≤ B) : RuleAre w' A n c r := by
  obtain ⟨xs, h1, h2⟩ := h
  exact ⟨xs, h1.below hb hB, h2.mono fun x l ⟨lo, k⟩ => ⟨lo, k.stable hb.size fun b _ hb2 => hb.block b (Nat.lt_of_lt_of_le hb2 hB)⟩⟩
/-- The same, all of it in memory from block lo on. -/
def RuleAreB (lo : Nat) (w : World) (A : Option Addr) (n c : Nat) (r : Rl) : Prop :=
  ∃ xs : List Value, SlC w (.slice A n c) 1 r.length xs ∧ (∀ k, Value.ownBlock (.slice A n c) = some k → lo ≤ k ∧ k < w.heap.size) ∧ F2 (fun x l => CondsB w lo x l) xs r
theorem RuleAreB.are {lo : Nat} {w : World} {A : Option Addr} {n c : Nat} {r : Rl} (h : RuleAreB lo w A n c r) : RuleAre w A n c r := by
  obtain ⟨xs, h1, -, h2⟩ := h
  exact ⟨xs, h1, h2.mono fun x l h => ⟨lo, h⟩⟩
theorem RuleAreB.stable {lo : Nat} {w w' : World} {A : Option Addr} {n c : Nat} {r : Rl} (h : RuleAreB lo w A n c r) (hs : w.heap.size ≤ w'.heap.size) (hk : ∀ b, lo ≤ b → b < w.heap.size → w'.heap[b]? = w.heap[b]?) : RuleAreB lo w' A n c r := by
  obtain ⟨xs, h1, h2, h3⟩ := h
  exact ⟨xs, h1.stable fun k hk' hlt => hk k (h2 k hk').1 hlt, fun k hk' => ⟨(h2 k hk').1, Nat.lt_of_lt_of_le (h2 k hk').2 hs⟩, h3.mono fun x l h => h.stable hs hk⟩
theorem RuleAreB.nil (lo : Nat) (w : World) : RuleAreB lo w none 0 0 [] := ⟨[], SlC.nil _ _ _ _, fun k h => by simp [Value.ownBlock] at h, .nil⟩
theorem RuleAre.nil (w : World) : RuleAre w none 0 0 [] := ⟨[], SlC.nil _ _ _ _, .nil⟩
def ParsePost (w : World) (s : Bs) (e : Ending) (w' : World) : Prop :=
  ∃ A n c, e = .returned (.tuple #[.agg #[.slice A n c], .int .i64 ((parseR s).1 : Int)]) ∧ RuleAreB w.heap.size w' A n c (parseR s).2 ∧ Below w.heap.size w w'
/-- What holds at the head of a round over the rows. -/
structure OutI (w W3 wr : World) (rows : List (List Bs)) (k : Nat) (vOr : Value) (xs : List Value) (R : Rl) : Prop where
  parsed : all? row? (rows.take k) = some R
  res : Blk wr w.heap.size 30 [.slice none 0 0]
  rule : Blk wr (w.heap.size + 1) 30 [vOr]
  own : wr.ownsRow W3.heap.size 48 1 vOr R.length xs
  two : w.heap.size + 2 ≤ W3.heap.size
  gr : W3.grownBy wr (some (w.heap.size + 1))
  rows : F2 (RowK wr vOr (w.heap.size + 1)) xs R
  bel : Below w.heap.size w wr
theorem own_kept_below {w w' : World} {B : Nat} {e : TypeId} {sz n : Nat} {v : Value} {xs : List Value} (h : w.ownsRow B e sz v n xs) (hb : Below w.heap.size w w') : w'.ownsRow B e sz v n xs := by
  have hg : w.grownBy w' none := ⟨hb.os, hb.tape, hb.output, hb.size, fun k hk _ => hb.block k hk⟩
  refine h.kept hg ?_
  cases e : v.ownBlock with
  | none => exact .inl rfl
  | some k => exact .inr (by simp)
theorem OutI.below {w W3 wr w' : World} {rows : List (List Bs)} {k : Nat} {vOr : Value} {xs : List Value} {R : Rl} (h : OutI w W3 wr rows k vOr xs R) (hb : Below wr.heap.size wr w') : OutI w W3 w' rows k vOr xs R :=
  ⟨h.parsed, h.res.below hb h.res.lt, h.rule.below hb h.rule.lt, own_kept_below h.own hb, h.two, h.gr.trans ⟨hb.os, hb.tape, hb.output, hb.size, fun k hk _ => hb.block k hk⟩, h.rows.mono fun x l k => k.step hb.size (fun b hb' _ _ => hb.block b hb') (.inl rfl), h.bel.trans (hb.mono h.bel.size)⟩
/-- A row more. -/
theorem OutI.push {w W3 wr w1 w2 : World} {rows : List (List Bs)} {row : List Bs} {k : Nat} {vOr : Value} {xs : List Value} {R : Rl} {g cap : Nat} {x : Value} {l : List Cnd} (h : OutI w W3 wr rows k vOr xs R)
    (hrow : rows[k]? = some row) (hr : row? row = some l) (hb : Below wr.heap.size wr w1) (hc : CondsB w1 wr.heap.size x l) (hg : w1.grownBy w2 vOr.ownBlock)
    (ho : w2.ownsRow W3.heap.size 48 1 (.slice (some ⟨g, 0, none⟩) (R.length + 1) cap) (R.length + 1) (xs ++ [x])) (hat : vOr.ownBlock = some g ∨ g = w1.heap.size) :
    OutI w W3 (w2.setCell ⟨w.heap.size + 1, 0, none⟩ (.slice (some ⟨g, 0, none⟩) (R.length + 1) cap)) rows (k + 1) (.slice (some ⟨g, 0, none⟩) (R.length + 1) cap) (xs ++ [x]) (R ++ [l]) ∧
      w2.cell? ⟨w.heap.size + 1, 0, none⟩ = some vOr ∧ w2.frozen? ⟨w.heap.size + 1, 0, none⟩ = false := by
  have h1 := h.below hb
  have hne : ∀ j, j < w.heap.size + 2 → some j ≠ vOr.ownBlock := fun j hj e => by have := (h.own.lt j e.symm).1; have := h.two; omega
  have b0 := h1.res.kept hg (hne _ (by omega))
  have b1 := h1.rule.kept hg (hne _ (by omega))
  have hgb : w.heap.size + 2 ≤ g := Nat.le_trans h.two (ho.lt g rfl).1
  have hset : w2.grownBy (w2.setCell ⟨w.heap.size + 1, 0, none⟩ (.slice (some ⟨g, 0, none⟩) (R.length + 1) cap)) (some (w.heap.size + 1)) := ⟨rfl, rfl, rfl, by simp, fun k _ hk => Below.heap_setCell _ _ _ _ (by intro e; exact hk (by simp [e]))⟩
  have hsz : w1.heap.size ≤ (w2.setCell ⟨w.heap.size + 1, 0, none⟩ (.slice (some ⟨g, 0, none⟩) (R.length + 1) cap)).heap.size := by simpa using hg.size
  have hheap : ∀ b, b < w1.heap.size → w.heap.size + 1 < b → some b ≠ vOr.ownBlock → (w2.setCell ⟨w.heap.size + 1, 0, none⟩ (.slice (some ⟨g, 0, none⟩) (R.length + 1) cap)).heap[b]? = w1.heap[b]? := fun b hb' hT hn => by
    rw [hset.block b (Nat.lt_of_lt_of_le hb' hg.size) (by intro e; cases e; omega), hg.block b hb' hn]
  have hv' : Value.ownBlock (.slice (some ⟨g, 0, none⟩) (R.length + 1) cap) = vOr.ownBlock ∨ ∃ j, Value.ownBlock (.slice (some ⟨g, 0, none⟩) (R.length + 1) cap) = some j ∧ w1.heap.size ≤ j := by
    rcases hat with e | e
    · exact .inl e.symm
    · exact .inr ⟨g, rfl, by omega⟩
  refine ⟨⟨?_, b0.kept hset (by simp), b1.put 0 _, ?_, h.two, grown_put (grown_up h1.gr hg (fun k hk => (h.own.lt k hk).1)) 0 _, ?_, ?_⟩, b1.cell 0, b1.frozen 0⟩
  · rw [List.take_add_one, hrow]; exact all?_snoc h.parsed hr
  · rw [List.length_append]; exact ho.kept hset (.inr (by simp only [Value.ownBlock, ne_eq, Option.some.injEq]; omega))
  · refine F2.snoc (h1.rows.mono fun y m k => k.step hsz hheap hv') ?_
    have hT : w.heap.size + 1 < wr.heap.size := h.rule.lt
    have hrk : RowK w1 vOr (w.heap.size + 1) x l := ⟨wr.heap.size, w1, hc, Nat.le_refl _, hT, fun b _ _ => rfl, fun k hk => .inl (h.own.lt k hk).2⟩
    exact hrk.step hsz hheap hv'
  · exact below_set (below_grown h1.bel hg (Nat.le_trans h1.bel.size (Nat.le_refl _)) (fun j hj => by have := (h.own.lt j hj).1; have := h.two; omega)) _ _ (by omega) _
theorem CondsB.mono {w : World} {B B' : Nat} {v : Value} {l : List Cnd} (h : CondsB w B v l) (hB : B' ≤ B) : CondsB w B' v l := by
  obtain ⟨es, h1, h2, h3, h4⟩ := h
  exact ⟨es, h1, h2, fun e he => (h3 e he).mono hB, fun k hk => ⟨Nat.le_trans hB (h4 k hk).1, (h4 k hk).2⟩⟩
/-- All rows are read. -/
theorem OutI.fin {w W3 wr : World} {rows : List (List Bs)} {k : Nat} {vOr : Value} {xs : List Value} {R : Rl} (h : OutI w W3 wr rows k vOr xs R) (u : Value) :
    ∃ A n c, vOr = .slice A n c ∧ RuleAreB w.heap.size (wr.setCell ⟨w.heap.size, 0, none⟩ u) A n c R := by
  have hset : wr.grownBy (wr.setCell ⟨w.heap.size, 0, none⟩ u) (some w.heap.size) := ⟨rfl, rfl, rfl, by simp, fun k _ hk => Below.heap_setCell _ _ _ _ (by intro e; exact hk (by simp [e]))⟩
  have ho := h.own.kept hset (by
    cases e : vOr.ownBlock with
    | none => exact .inl rfl
    | some j => exact .inr (by have := (h.own.lt j e).1; have := h.two; simp; omega))
  have h1 := SlC.own ho
  obtain ⟨A, c, rfl, -⟩ := h1
  refine ⟨A, _, c, rfl, xs, SlC.own ho, fun k hk => ⟨by have := (ho.lt k hk).1; have := h.two; omega, (ho.lt k hk).2⟩, h.rows.mono fun x l k => ?_⟩
  obtain ⟨lo, hlo, hc⟩ := (k.step (v' := .slice A _ c) (by simp) (fun b hb hT _ => hset.block b hb (by intro e; cases e; omega)) (.inl rfl)).condsT
  exact hc.mono (by omega)
theorem five_one (e : E3) (h : (∃ A n c, e.2.1 = .slice A n c) ∧ (∃ A n c, e.2.2 = .slice A n c)) : ∀ u ∈ five e, u.oneCell' = true := by
  obtain ⟨⟨A, n, c, h1⟩, ⟨A', n', c', h2⟩⟩ := h
  intro u hu
  simp only [five, h1, h2, List.mem_cons, List.not_mem_nil, or_false] at hu
  rcases hu with rfl | rfl | rfl | rfl | rfl <;> simp [Value.oneCell']
end Go.Proofs.YtdgleeglndcjhaaGreatDoor
