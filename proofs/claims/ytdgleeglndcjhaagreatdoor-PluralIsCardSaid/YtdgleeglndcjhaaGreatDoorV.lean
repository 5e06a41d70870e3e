/- Words for the walks of this seat: what a slice reads as, and that it stays so in every later world. -/
import Derived.Test.YtdgleeglndcjhaaGreatDoorProg
import Derived.WalkKit
import Derived.ProofKit
import Derived.Below
import Derived.Tactics
import Derived.Tactics2
import Derived.OwnWalk
import Derived.WalkSpells
import Derived.Laws.MakeOwn
import Derived.Laws.OwnMore
import Derived.Laws.NewBlocks
import Derived.Deep.RegionHeld3
import Derived.Deep.LoopGhost
import Derived.Deep.DeepCutAuto
import Derived.Deep.QuietTactic
import Derived.BigQuiet
import Derived.KernelRfl
import Derived.Lib.Hide
import Derived.IntWalk
namespace Go.Proofs.YtdgleeglndcjhaaGreatDoor
open Go.RowKit

/-- The slice value v has n elements, of sz cells each; its cells are cs. -/
def SlC (w : World) (v : Value) (sz n : Nat) (cs : List Value) : Prop :=
  ∃ A c, v = .slice A n c ∧ n ≤ c ∧ cs.length = n * sz ∧ (0 < cs.length → ∃ b o, A = some ⟨b, o, none⟩ ∧ ∀ j x, cs[j]? = some x → w.cell? ⟨b, o + j, none⟩ = some x)

theorem SlC.below {w w' : World} {v : Value} {sz n : Nat} {cs : List Value} {B : Nat} (h : SlC w v sz n cs) (hb : Below B w w') (hB : w.heap.size ≤ B) : SlC w' v sz n cs := by
  obtain ⟨A, c, h1, h2, h3, h4⟩ := h
  refine ⟨A, c, h1, h2, h3, fun hp => ?_⟩
  obtain ⟨b, o, h5, h6⟩ := h4 hp
  exact ⟨b, o, h5, fun j x hx => (hb.cell (Nat.lt_of_lt_of_le (World.block_lt_of_cell? w _ (h6 j x hx)) hB)).trans (h6 j x hx)⟩

theorem SlC.nil (w : World) (sz : Nat) (c : Nat) (A : Option Addr) : SlC w (.slice A 0 c) sz 0 [] := ⟨A, c, rfl, Nat.zero_le _, by simp, fun h => by simp at h⟩

/-- A row of the call's own reads so. -/
theorem SlC.own {w : World} {base : Nat} {e : TypeId} {sz n : Nat} {v : Value} {xs : List Value} (h : w.ownsRow base e sz v n xs) : SlC w v sz n xs := by
  have hl := h.1
  rcases h.2 with ⟨rfl, rfl⟩ | ⟨g, cap, cur, rfl, hb, hh, hc, _⟩
  · have : xs = [] := List.eq_nil_of_length_eq_zero (by simpa using hl)
    subst this
    exact SlC.nil w sz 0 none
  · refine ⟨_, cap, rfl, hc, hl, fun _ => ⟨g, 0, rfl, fun j x hx => ?_⟩⟩
    have := h.cells (g := g) rfl j x hx
    have he : (⟨g, 0, none⟩ : Addr).add j = ⟨g, 0 + j, none⟩ := by unfold Addr.add; split <;> simp_all
    rw [← he]; exact this

theorem SlC.take {w : World} {A : Option Addr} {sz n c : Nat} {cs : List Value} (h : SlC w (.slice A n c) sz n cs) (k : Nat) (hk : k ≤ n) : SlC w (.slice A k c) sz k (cs.take (k * sz)) := by
  obtain ⟨A', c', h1, h2, h3, h4⟩ := h
  obtain ⟨rfl, _, rfl⟩ := Value.slice.inj h1
  have hm : k * sz ≤ n * sz := Nat.mul_le_mul_right sz hk
  refine ⟨A, c, rfl, by omega, by rw [List.length_take]; omega, fun hp => ?_⟩
  obtain ⟨b, o, h5, h6⟩ := h4 (by rw [List.length_take] at hp; omega)
  refine ⟨b, o, h5, fun j x hx => h6 j x ?_⟩
  rw [List.getElem?_take] at hx
  split at hx <;> simp_all

/-- The world behind a bundle of facts: a letter in its place. -/
theorem wp_letter {P : Program} {c : Code} {Q : Exit → Act → World → Prop} {a : Act} {w : World} (R : World → Prop) (h : R w) (k : ∀ w1, R w1 → c.wp P Q a w1) : c.wp P Q a w := k w h

theorem bcell {B : Nat} {W w1 : World} (hb : Below B W w1) : (∀ b o, b < B → w1.cell? ⟨b, o, none⟩ = W.cell? ⟨b, o, none⟩) ∧ (∀ b o, b < B → w1.frozen? ⟨b, o, none⟩ = W.frozen? ⟨b, o, none⟩) :=
  ⟨fun b o h => hb.cell (p := ⟨b, o, none⟩) h, fun b o h => hb.frozen (p := ⟨b, o, none⟩) h⟩

theorem below_after {B : Nat} {w a b : World} (h : Below B w a) (hB : B ≤ w.heap.size) (k : Below a.heap.size a b) : Below B w b := h.trans (k.mono (Nat.le_trans hB h.size))

theorem run_field24 (v : Value) (w : World) : (Instr.field 24 (.agg #[v]) 0).run Tryz.prog w = .ok v w := by
  simp [Instr.field, asAgg, go_sem]
theorem run_field37_0 (s v u : Value) (w : World) : (Instr.field 37 (.agg #[s, v, u]) 0).run Tryz.prog w = .ok (.agg #[s, v]) w := by
  simp [Instr.field, asAgg, go_sem]
attribute [go_sem] run_field24 run_field37_0

theorem quiet_eq {P : Program} {f : FuncId} {args : Array Value} {w : World} {n : Nat} {v : Value}
    (h : Calls P f args (w.drewN n) fun e w' => e = .returned v ∧ w.drewN n = w') : Calls P f args (w.drewN n) fun e w'' => e = .returned v ∧ ∃ m, w'' = w.drewN m :=
  h.mono fun _ _ ⟨he, hm⟩ => ⟨he, n, hm.symm⟩
theorem below_drewN {B : Nat} {a w : World} (h : Below B a w) (n : Nat) : Below B a (w.drewN n) := ⟨h.os, h.tape, h.output, h.size, h.block⟩

/-- A later step, behind a letter's world. -/
theorem below_on {N : Nat} {w1 a b : World} (h : Below N w1 a) (hN : N ≤ w1.heap.size) (k : Below a.heap.size a b) : Below N w1 b := h.trans (k.mono (Nat.le_trans hN h.size))

theorem below_set {N : Nat} {w1 a : World} (h : Below N w1 a) (b o : Nat) (hb : N ≤ b) (u : Value) : Below N w1 (a.setCell ⟨b, o, none⟩ u) := h.setCell hb u

end Go.Proofs.YtdgleeglndcjhaaGreatDoor
namespace Go.Proofs.YtdgleeglndcjhaaGreatDoor
open Go.RowKit
/-- Block g has just these cells, none frozen. -/
def Blk (w : World) (g : Nat) (t : TypeId) (l : List Value) : Prop := w.heap[g]? = some (.cells l.toArray t (0, 0))
theorem Blk.lt {w : World} {g : Nat} {t : TypeId} {l : List Value} (h : Blk w g t l) : g < w.heap.size := (Array.getElem?_eq_some_iff.1 h).1
theorem Blk.cell {w : World} {g : Nat} {t : TypeId} {l : List Value} (h : Blk w g t l) (i : Nat) : w.cell? ⟨g, i, none⟩ = l[i]? := by
  unfold Blk at h
  simp [World.cell?, h]
theorem Blk.frozen {w : World} {g : Nat} {t : TypeId} {l : List Value} (h : Blk w g t l) (i : Nat) : w.frozen? ⟨g, i, none⟩ = false := by
  unfold Blk at h
  simp [World.frozen?, h]
theorem Blk.put {w : World} {g : Nat} {t : TypeId} {l : List Value} (h : Blk w g t l) (i : Nat) (u : Value) : Blk (w.setCell ⟨g, i, none⟩ u) g t (l.set i u) := by
  unfold Blk at *
  simp [World.setCell, Array.getElem?_modify, h]
theorem Blk.below {w w' : World} {g B : Nat} {t : TypeId} {l : List Value} (h : Blk w g t l) (hb : Below B w w') (hB : g < B) : Blk w' g t l := by
  unfold Blk at *
  rw [hb.block g hB]; exact h
theorem Blk.alloc {w : World} {g : Nat} {t : TypeId} {l : List Value} (h : Blk w g t l) (o : Obj) : Blk (w.alloc o) g t l := by
  have := h.lt
  unfold Blk at *
  rw [Below.heap_alloc _ _ _ this]; exact h
theorem Blk.new (w : World) (t : TypeId) (l : List Value) : Blk (w.alloc (.cells l.toArray t (0, 0))) w.heap.size t l := by
  show (w.heap.push _)[w.heap.size]? = _
  simp
theorem Blk.made (w : World) (t : TypeId) (l : List Value) (g : Nat) (c : Array Value) (hg : g = w.heap.size) (hc : c = l.toArray) : Blk (w.alloc (.cells c t (0, 0))) g t l := by
  subst hg; subst hc; exact Blk.new w t l
theorem madeCells_one (z : Value) (n : Nat) : madeCells #[z] n = (List.replicate n z).toArray := by
  rw [← toList_madeCells_one]
/-- 'make' of n elements of one cell each: a new block of noughts. -/
theorem wpList_make_blk {P : Program} (w : World) {ops : Array Oper} {rest : List Oper} {o : Oper} {a : Act} {Q : Exit → Act → World → Prop}
    (hg : o.guard = none) (l c : Operand) (t : TypeId) (hop : o.op = Op.makeSlice t l c)
    (e : TypeId) (i : TypeInfo) (z : Value) (h1 : P.underlying t = some (.slice e)) (h2 : P.info? e = some i) (h3 : i.zero = some z) (h4 : i.size = 1) (hz : z.cells = #[z])
    (kl kc : IntKind) (L C : Int) (n : Nat) (hl : a.eval l = .int kl L) (hc : a.eval c = .int kc C) (hL : L = (n : Int)) (hC : C = (n : Int)) (b2 : i.bytes * n ≤ 281474976710656) (b3 : n ≤ maxLen)
    (hK : wpList P ops Q rest (a.put o.dst (.slice (some ⟨w.heap.size, 0, none⟩) n n)) (w.alloc (.cells (List.replicate n z).toArray e))) :
    wpList P ops Q (o :: rest) a w := by
  refine wpList_plain hg fun K hK' => ?_
  have h63' : (n : Int) ≤ 9223372036854775807 := by
    have h := b3
    simp [maxLen] at h
    omega
  have hb' : (i.bytes : Int) * (n : Int) ≤ 281474976710656 := by
    have h : ((i.bytes * n : Nat) : Int) ≤ 281474976710656 := by omega
    rwa [Int.natCast_mul] at h
  have hr := run_make (P := P) w t e i z h1 h2 h3 kl kc n n (by omega) (Int.le_refl _) hb' h63'
  simp only [Int.toNat_natCast, h4, Nat.mul_one, hz, madeCells_one] at hr
  subst hL
  subst hC
  unfold Oper.wp
  simp [execOp, hop, hl, hc, hr, Result.andThen]
  exact hK' _ _ hK
theorem Tryz_info43 : (Tryz.prog.info? 43).map (fun i => (i.zero, i.size, i.bytes)) = some (some (.int .u32 0), 1, 4) := by kernel_rfl
theorem Tryz_info3 : (Tryz.prog.info? 3).map (fun i => (i.zero, i.size, i.bytes)) = some (some (.int .i64 0), 1, 8) := by kernel_rfl
theorem Blk.slc {w : World} {g : Nat} {t : TypeId} {l : List Value} (h : Blk w g t l) (n c : Nat) (hn : n ≤ l.length) (hc : n ≤ c) : SlC w (.slice (some ⟨g, 0, none⟩) n c) 1 n (l.take n) := by
  refine ⟨_, c, rfl, hc, by simp; omega, fun _ => ⟨g, 0, rfl, fun j x hx => ?_⟩⟩
  rw [Nat.zero_add, h.cell j]
  rw [List.getElem?_take] at hx
  split at hx <;> simp_all
end Go.Proofs.YtdgleeglndcjhaaGreatDoor
