/- What the library's calls do, as this seat uses them; the package-level variables that they read. -/
import Derived.Test.YtdgleeglndcjhaaGreatDoorV
import Derived.Test.YtdgleeglndcjhaaGreatDoorShelf
import Derived.Test.YtdgleeglndcjhaaGreatDoorPl
import Derived.Lib.SmallJoins
namespace Go.Proofs.YtdgleeglndcjhaaGreatDoor
open Go.RowKit
set_option linter.unusedVariables false
set_option linter.unusedSimpArgs false

/-- The package-level variables that are read hold what they should. -/
structure GW (w : World) : Prop where
  maxLen : ∃ m : Int, w.cell? ⟨0, 0, none⟩ = some (.int .i64 m)
  pow10 : Lib.TabIs Tryz.prog w "internal/strconv.uint64pow10" .u64 Lib.pow10Tab
theorem pow10_named : Tryz.prog.globalNamed "internal/strconv.uint64pow10" = some 5 := by kernel_rfl
theorem GW.below {w w' : World} {B : Nat} (h : GW w) (hb : Below B w w') (hB : w.heap.size ≤ B) : GW w' := by
  obtain ⟨⟨m, hm⟩, ht⟩ := h
  exact ⟨⟨m, (hb.cell (Nat.lt_of_lt_of_le (World.block_lt_of_cell? w _ hm) hB)).trans hm⟩, Go.Joins.tab_stays pow10_named ht hb hB⟩

/-- The slice holds these texts. -/
def StrsAre (w : World) (A : Option Addr) (n c : Nat) (ws : List Bs) : Prop := SlC w (.slice A n c) 1 ws.length (ws.map fun b => Value.string ⟨b.toArray⟩)
theorem StrsAre.below {w w' : World} {A : Option Addr} {n c B : Nat} {ws : List Bs} (h : StrsAre w A n c ws) (hb : Below B w w') (hB : w.heap.size ≤ B) : StrsAre w' A n c ws := SlC.below h hb hB
theorem StrsAre.len {w : World} {A : Option Addr} {n c : Nat} {ws : List Bs} (h : StrsAre w A n c ws) : n = ws.length := by
  obtain ⟨A', c', h1, -⟩ := h
  exact (Value.slice.inj h1).2.1
theorem StrsAre.cap {w : World} {A : Option Addr} {n c : Nat} {ws : List Bs} (h : StrsAre w A n c ws) : n ≤ c := by
  obtain ⟨A', c', h1, h2, -⟩ := h
  obtain ⟨-, rfl, rfl⟩ := Value.slice.inj h1
  exact h2
theorem StrsAre.at {w : World} {A : Option Addr} {n c : Nat} {ws : List Bs} (h : StrsAre w A n c ws) (h0 : 0 < ws.length) : ∃ b o, A = some ⟨b, o, none⟩ ∧ ∀ j x, ws[j]? = some x → w.cell? ⟨b, o + j, none⟩ = some (.string ⟨x.toArray⟩) := by
  obtain ⟨A', c', h1, h2, h3, h4⟩ := h
  obtain ⟨b, o, h5, h6⟩ := h4 (by simpa using h0)
  obtain ⟨rfl, -, -⟩ := Value.slice.inj h1
  exact ⟨b, o, h5, fun j x hx => h6 j _ (by simp [hx])⟩
/-- Texts are returned. -/
def RetS (e : Ending) (w' : World) (ws : List Bs) : Prop := ∃ A n c, e = .returned (.slice A n c) ∧ StrsAre w' A n c ws

theorem below_drews {B : Nat} (w : World) (n : Nat) : Below B w (w.drewN n) := below_drewN (Below.refl _ _) n
theorem mk_data (s : ByteArray) : (⟨s.data.toList.toArray⟩ : ByteArray) = s := by
  obtain ⟨a⟩ := s; simp

theorem str_split (s : ByteArray) (c : UInt8) (w : World) (hg : GW w) (hs : s.size ≤ 1000000) :
    Calls Tryz.prog 46 #[.string s, .string ⟨#[c]⟩] w fun e w' => RetS e w' (splitG c s.data.toList) ∧ Below w.heap.size w w' := by
  obtain ⟨m, hm⟩ := hg.maxLen
  refine (Tryz.strings_Split s ⟨#[c]⟩ m w (by omega) hm (Nat.le_refl 1)).mono ?_
  rintro e w' ⟨rfl, rfl⟩
  have hlen := Lib.splitB_all ⟨#[c]⟩ (Nat.le_refl 1) 0 (Lib.countB s ⟨#[c]⟩) s rfl
  have hl2 := congrArg List.length (splitB_eq c s)
  rw [List.length_map] at hl2
  rw [hlen] at hl2
  refine ⟨⟨_, _, _, rfl, _, _, by rw [hl2], ?_, ?_, fun _ => ⟨w.heap.size, 0, rfl, fun j x hx => ?_⟩⟩, (Below.refl _ _).alloc (Nat.le_refl _) _⟩
  · omega
  · simp
  · rw [← splitB_eq, List.map_map] at hx
    have e : (List.map ((fun b : Bs => Value.string ⟨b.toArray⟩) ∘ fun x => x.data.toList) (Lib.splitB ⟨#[c]⟩ 0 (Lib.countB s ⟨#[c]⟩) s)) = (Lib.splitB ⟨#[c]⟩ 0 (Lib.countB s ⟨#[c]⟩) s).map Value.string := List.map_congr_left fun b _ => by simp [mk_data]
    rw [e] at hx
    rw [Nat.zero_add]
    simp only [World.cell?, World.alloc, Array.getElem?_push_size]
    simpa using hx

theorem str_cut (s sep : ByteArray) (w : World) (hg : GW w) (hs : s.size ≤ 1000000) :
    Calls Tryz.prog 104 #[.string s, .string sep] w fun e w' => e = .returned (.tuple #[.string ⟨(Lib.cut s.data.toList sep.data.toList).1.toArray⟩, .string ⟨(Lib.cut s.data.toList sep.data.toList).2.1.toArray⟩, .bool (Lib.cut s.data.toList sep.data.toList).2.2]) ∧ Below w.heap.size w w' := by
  obtain ⟨m, hm⟩ := hg.maxLen
  refine (Tryz.strings_Cut s sep m w (by omega) hm).mono ?_
  rintro e w' ⟨rfl, n, rfl⟩
  exact ⟨rfl, below_drews w n⟩

theorem str_contains (s sub : ByteArray) (w : World) (hg : GW w) (hs : s.size ≤ 1000000) :
    Calls Tryz.prog 81 #[.string s, .string sub] w fun e w' => e = .returned (.bool (Lib.contains s.data.toList sub.data.toList)) ∧ Below w.heap.size w w' := by
  obtain ⟨m, hm⟩ := hg.maxLen
  refine (Tryz.strings_Contains s sub m w (by omega) hm).mono ?_
  rintro e w' ⟨rfl, rfl⟩
  exact ⟨rfl, Below.refl _ _⟩

/-! ### Trim at the digits -/
def digs : Bs := [48, 49, 50, 51, 52, 53, 54, 55, 56, 57]
theorem digs_is (b : UInt8) : digs.contains b = isDig b := by
  have : ∀ n : Fin 256, digs.contains (UInt8.ofNat n.val) = isDig (UInt8.ofNat n.val) := by decide +kernel
  have h := this ⟨b.toNat, b.toNat_lt⟩
  simpa using h
theorem dropWhile_nil {α : Type} (p : α → Bool) : ∀ l : List α, l.dropWhile p = [] ↔ ∀ b ∈ l, p b = true
  | [] => by simp
  | a :: l => by
    rw [List.dropWhile_cons]
    split
    · rename_i h; rw [dropWhile_nil p l]; simp [h]
    · rename_i h; simp [h]
theorem dropWhile_head {α : Type} (p : α → Bool) : ∀ (l : List α) {x : α} {r : List α}, l.dropWhile p = x :: r → p x = false
  | [], _, _, h => by simp at h
  | a :: l, x, r, h => by
    rw [List.dropWhile_cons] at h
    split at h
    · exact dropWhile_head p l h
    · rename_i hp; cases h; simpa using hp
theorem trim_nil (l : Bs) : Lib.trimS l digs = [] ↔ ∀ b ∈ l, isDig b = true := by
  unfold Lib.trimS Lib.trimLeftS Lib.trimRightS
  constructor
  · intro h
    have h1 := (dropWhile_nil _ _).1 h
    intro b hb
    by_cases hd : isDig b = true
    · exact hd
    · exfalso
      have hne : List.dropWhile (fun x => digs.contains x) l.reverse ≠ [] := fun e => by
        have := (dropWhile_nil _ _).1 e b (by simpa using hb)
        rw [digs_is] at this; exact hd this
      obtain ⟨x, r, hx⟩ := List.exists_cons_of_ne_nil hne
      have hh := dropWhile_head _ _ hx
      have := h1 x (by rw [hx]; simp)
      rw [this] at hh; cases hh
  · intro h
    have : List.dropWhile (fun x => digs.contains x) l.reverse = [] := (dropWhile_nil _ _).2 fun b hb => by
      rw [digs_is]; exact h b (by simpa using hb)
    rw [this]; rfl
theorem trim_table : (Tryz.prog.info? 250).map (fun i => (i.zero, i.size)) = some (some (.agg (Array.replicate 256 (.bool false))), 256) := by kernel_rfl
theorem str_trim (s : ByteArray) (w : World) (hs : s.size ≤ 1000000) :
    Calls Tryz.prog 128 #[.string s, .string ⟨#[48, 49, 50, 51, 52, 53, 54, 55, 56, 57]⟩] w fun e w' => e = .returned (.string ⟨(Lib.trimS s.data.toList digs).toArray⟩) ∧ Below w.heap.size w w' :=
  Any.strings_Trim_laid Tryz.lays160 trim_table s ⟨#[48, 49, 50, 51, 52, 53, 54, 55, 56, 57]⟩ w (by omega) (by decide) (ascii_of_all (by decide))

/-! ### Numbers -/
theorem num?_isSome {l : Bs} (h1 : l ≠ []) (h2 : l.length ≤ 9) (h3 : ∀ b ∈ l, isDig b = true) (h4 : ¬ (1 < l.length ∧ l.head? = some 48)) : ∃ n, num? l = some n ∧ Lib.atoi l = some (n : Int) := by
  have key : ∀ (l : Bs) (acc : Nat), (∀ b ∈ l, isDig b = true) → ∃ n, Lib.decFrom acc l = some n := by
    intro l
    induction l with
    | nil => exact fun acc _ => ⟨acc, rfl⟩
    | cons b l ih =>
      intro acc h
      have hb := h b (by simp)
      rw [isDig_val] at hb
      obtain ⟨d, hd⟩ := Option.isSome_iff_exists.1 hb
      obtain ⟨n, hn⟩ := ih (acc * 10 + d) (fun b hb => h b (List.mem_cons_of_mem _ hb))
      exact ⟨n, by simp only [Lib.decFrom, hd]; exact hn⟩
  obtain ⟨n, hn⟩ := key l 0 h3
  have hdec : Lib.decNat l = some n := by
    unfold Lib.decNat
    rw [if_neg (by simpa using h1)]; exact hn
  refine ⟨n, ?_, ?_⟩
  · unfold num?
    rw [if_neg (by rintro (h | h | h); exact h1 h; omega; exact h4 h)]
    exact hdec
  · match l, h1, h3, hdec with
    | b :: r, _, h3, hdec =>
      have hb := h3 b (by simp)
      have h45 : (b == 45) = false := by
        rw [beq_eq_false_iff_ne]; rintro rfl; cases hb
      have h43 : (b == 43) = false := by
        rw [beq_eq_false_iff_ne]; rintro rfl; cases hb
      unfold Lib.atoi
      simp [h45, h43, hdec]
theorem num?_none {l : Bs} (h : l = [] ∨ 9 < l.length ∨ (∃ b ∈ l, isDig b = false) ∨ (1 < l.length ∧ l.head? = some 48)) : num? l = none := by
  unfold num?
  rcases h with h | h | ⟨b, hb, hd⟩ | h
  · rw [if_pos (.inl h)]
  · rw [if_pos (.inr (.inl h))]
  · split
    · rfl
    · cases e : Lib.decNat l with
      | none => rfl
      | some n =>
        exfalso
        obtain ⟨-, hn⟩ := Lib.decNat_some e
        obtain ⟨k, hk⟩ := List.getElem?_of_mem hb
        obtain ⟨d, hv⟩ := Lib.digit_of_decFrom _ _ _ hn k b hk
        rw [isDig_val, hv] at hd; cases hd
  · rw [if_pos (.inr (.inr h))]
end Go.Proofs.YtdgleeglndcjhaaGreatDoor
