/- Package rule: write of a condition. -/
import Derived.Test.YtdgleeglndcjhaaGreatDoorG8
import Derived.Laws.IdiomStrings
import Derived.Deep.CutBlock
namespace Go.Proofs.YtdgleeglndcjhaaGreatDoor
open Go.RowKit
set_option linter.unusedVariables false
set_option linter.unusedSimpArgs false

theorem below_grow (B : Nat) (w : World) (os : Array Obj) (h : B ≤ w.heap.size) : Below B w (Sort.grow w os) :=
  ⟨rfl, rfl, rfl, by simp [Sort.grow], fun k hk => by simp only [Sort.grow]; rw [Array.getElem?_append_left (by omega)]⟩
theorem str_itoa (w : World) (n : Int) (hg : GW w) (h0 : -9223372036854775808 ≤ n) (h1 : n ≤ 9223372036854775807) :
    Calls Tryz.prog 154 #[.int .i64 n] w fun e w' => e = .returned (.string ⟨(Lib.itoa n).toArray⟩) ∧ Below w.heap.size w w' := by
  refine (Tryz.strconv_Itoa n h0 h1 w hg.pow10).mono ?_
  rintro e w' ⟨rfl, k, os, rfl⟩
  exact ⟨rfl, (below_drews w k).trans ((below_grow _ _ _ (Nat.le_refl _)).mono (by simp [World.drewN]))⟩
theorem str_join (w : World) (A : Option Addr) (n c : Nat) (ws : List Bs) (sep : ByteArray) (h : StrsAre w A n c ws) (hn : ws.length ≤ 1000000) (hlen : (Lib.join ws sep.data.toList).length ≤ 140737488355328) :
    Calls Tryz.prog 101 #[.slice A n c, .string sep] w fun e w' => e = .returned (.string ⟨(Lib.join ws sep.data.toList).toArray⟩) ∧ Below w.heap.size w w' := by
  obtain rfl : n = ws.length := h.len
  have hc := h.cap
  by_cases h0 : 0 < ws.length
  · obtain ⟨b, o, rfl, hcell⟩ := h.at h0
    have hb : b < w.heap.size := World.block_lt_of_cell? w _ (hcell 0 ws[0] (List.getElem?_eq_getElem h0))
    have hm : (ws.map fun b : Bs => (⟨b.toArray⟩ : ByteArray)).map (·.data.toList) = ws := by simp [List.map_map, Function.comp_def]
    have := Tryz.strings_Join b o c (ws.map fun b : Bs => (⟨b.toArray⟩ : ByteArray)) sep w (fun j x hx => by
      rw [List.getElem?_map] at hx
      obtain ⟨y, hy, rfl⟩ := Option.map_eq_some_iff.1 hx
      exact hcell j y hy) hb (by simp; omega) (by simpa using hc) (by rw [hm]; exact hlen)
    rw [hm, List.length_map] at this
    exact this
  · have : ws = [] := List.eq_nil_of_length_eq_zero (by omega)
    subst this
    refine (Tryz.strings_Join_none A c sep w).mono ?_
    rintro e w' ⟨rfl, rfl⟩
    exact ⟨rfl, Below.refl _ _⟩

/-- The number fits. -/
def In64 (x : Int) : Prop := -9223372036854775808 ≤ x ∧ x ≤ 9223372036854775807
theorem decDigits_len64 (u : Nat) (h : u ≤ 9223372036854775808) : (Lib.decDigits u).length ≤ 19 := by
  rw [Lib.decDigits_length]
  rcases Nat.lt_or_ge 19 (Lib.nDigits u) with h9 | h9
  · exfalso
    have : ∀ (k u : Nat), k + 1 < Lib.nDigits u → 10 ^ (k + 1) ≤ u := by
      intro k
      induction k with
      | zero =>
        intro u hu
        by_cases h : u < 10
        · rw [Lib.nDigits_small h] at hu; omega
        · simp; omega
      | succ k ih =>
        intro u hu
        by_cases h : u < 10
        · rw [Lib.nDigits_small h] at hu; omega
        · rw [Lib.nDigits_big h] at hu
          have := ih (u / 10) (by omega)
          rw [Nat.pow_succ]; omega
    have := this 18 u h9
    simp at this; omega
  · exact h9
theorem itoa_len {x : Int} (h : In64 x) : (Lib.itoa x).length ≤ 20 := by
  obtain ⟨h1, h2⟩ := h
  unfold Lib.itoa
  split
  · have := decDigits_len64 x.natAbs (by omega)
    simp; omega
  · have := decDigits_len64 x.toNat (by omega)
    omega
theorem itemW_len64 {f t : Int} (hf : In64 f) (ht : In64 t) : (itemW f t).length ≤ 42 := by
  have h1 := itoa_len hf
  have h2 := itoa_len ht
  unfold itemW
  split <;> simp <;> omega
theorem items_len : ∀ f t : List Int, (items f t).length = min f.length t.length
  | [], _ => by simp [items]
  | _ :: _, [] => by simp [items]
  | a :: f, b :: t => by simp [items, items_len f t]
theorem items_at : ∀ (f t : List Int) (k : Nat) (a b : Int), f[k]? = some a → t[k]? = some b → (items f t)[k]? = some (itemW a b)
  | [], _, k, a, b, h, _ => by simp at h
  | _ :: _, [], k, a, b, _, h => by simp at h
  | x :: f, y :: t, 0, a, b, h, h' => by simp at h h'; subst h; subst h'; simp [items]
  | x :: f, y :: t, k + 1, a, b, h, h' => by simpa [items] using items_at f t k a b (by simpa using h) (by simpa using h')
theorem items_small : ∀ f t : List Int, (∀ x ∈ f, In64 x) → (∀ x ∈ t, In64 x) → ∀ w ∈ items f t, w.length ≤ 42
  | [], _, _, _, w, h => by simp [items] at h
  | _ :: _, [], _, _, w, h => by simp [items] at h
  | x :: f, y :: t, hf, ht, w, h => by
    rcases List.mem_cons.1 h with rfl | h
    · exact itemW_len64 (hf x (by simp)) (ht y (by simp))
    · exact items_small f t (fun x hx => hf x (List.mem_cons_of_mem _ hx)) (fun x hx => ht x (List.mem_cons_of_mem _ hx)) w h
theorem join_le (sep : Bs) (N m : Nat) : ∀ ws : List Bs, (∀ w ∈ ws, w.length ≤ m) → ws.length ≤ N → (Lib.join ws sep).length ≤ (m + sep.length) * N
  | [], _, _ => by simp [Lib.join_nil]
  | x :: r, h, hN => by
    rw [Lib.join_length]
    have aux : ∀ l : List Bs, (∀ w ∈ l, w.length ≤ m) → Lib.lens l ≤ m * l.length := by
      intro l
      induction l with
      | nil => intro _; simp [Lib.lens]
      | cons a l ih =>
        intro h
        have h1 := h a (by simp)
        have h2 := ih (fun w hw => h w (List.mem_cons_of_mem _ hw))
        simp only [Lib.lens, List.map_cons, List.sum_cons, List.length_cons, Nat.mul_add, Nat.mul_one] at h2 ⊢
        omega
    have h1 := aux (x :: r) h
    have h2 : sep.length * r.length ≤ sep.length * N := Nat.mul_le_mul_left _ (by simp at hN; omega)
    have h3 : m * (x :: r).length ≤ m * N := Nat.mul_le_mul_left _ hN
    rw [Nat.add_mul]; omega
/-- A condition that a call may write. -/
structure SmallC (c : Cnd) : Prop where
  letter : c.letter < 256
  mod : In64 c.mod
  fr : ∀ x ∈ c.fr, In64 x
  tl : ∀ x ∈ c.to, In64 x
  nf : c.fr.length ≤ 1000
  nt : c.to.length ≤ 1000
theorem writeC_len {c : Cnd} (h : SmallC c) : (writeC c).length ≤ 50000 := by
  have h1 := join_le [44] 1000 42 (items c.fr c.to) (items_small _ _ h.fr h.tl) (by rw [items_len]; have := h.nf; omega)
  have h2 := itoa_len h.mod
  unfold writeC
  simp only [List.length_append, List.length_cons, List.length_nil] at h1 ⊢
  split <;> split <;> simp <;> omega
end Go.Proofs.YtdgleeglndcjhaaGreatDoor
