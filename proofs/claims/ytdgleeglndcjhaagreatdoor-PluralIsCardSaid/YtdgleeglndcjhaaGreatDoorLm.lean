/- The map of plurals, as a function from texts to values. -/
import Derived.Test.YtdgleeglndcjhaaGreatDoorV
import Derived.Maps.Own
import Derived.Maps.OwnOps
import Derived.Maps.Views
import Derived.Maps.OwnSet
import Derived.Test.YtdgleeglndcjhaaGreatDoorG0
import Derived.Test.YtdgleeglndcjhaaGreatDoorLr
namespace Go.Proofs.YtdgleeglndcjhaaGreatDoor
open Go.RowKit Go.Maps
set_option linter.unusedVariables false
set_option linter.unusedSimpArgs false

abbrev rawR (v : Value) : Option (DataW Value × List MemPlace) := some (.held v, [])
theorem law9 : Keyed Tryz.prog 9 := string_keyed Tryz.underlying9
theorem zero125 (w : World) : (zeroValue 125).run Tryz.prog w = .ok (.slice none 0 0) w := by kernel_rfl
/-- Block g is a map with the value f k at each text k. -/
def MapF (w : World) (g n : Nat) (f : List UInt8 → Value) : Prop :=
  ∃ D : DataW Value, w.ownsMap Tryz.prog 9 rawR g n D ∧ ∀ k : List UInt8, D.atKey (.string k) (.held (.slice none 0 0)) = .held (f k)
theorem key9 (k : List UInt8) (h : k.length ≤ maxLen) : keyOf Tryz.prog 9 (.string ⟨k.toArray⟩) = some (.string k) := by
  have := WideMaps.keyOf_string_mk (P := Tryz.prog) Tryz.underlying9 (s := ⟨k.toArray⟩) (by show k.toArray.size ≤ maxLen; simpa using h)
  exact this
theorem MapF.made (w : World) : MapF (w.alloc (.map #[] 0)) w.heap.size 0 (fun _ => .slice none 0 0) :=
  ⟨_, World.ownsMap_made w Tryz.prog 9 rawR, fun k => rfl⟩
theorem MapF.look {w : World} {g n : Nat} {f : List UInt8 → Value} (h : MapF w g n f) (k : List UInt8) (hk : k.length ≤ maxLen) : (Instr.lookup 126 (.map (some g)) (.string ⟨k.toArray⟩) false).run Tryz.prog w = .ok (f k) w := by
  obtain ⟨D, ho, hf⟩ := h
  obtain ⟨v, ps, hrun, hv⟩ := ho.lookup law9 Tryz.underlying126 (zero125 w) (zd := .held (.slice none 0 0)) (zp := []) rfl (key9 k hk)
  rw [hf k] at hv
  have e : v = f k := by have := hv; simp [rawR] at this; exact this.1
  rw [← e]; exact hrun
theorem MapF.lt {w : World} {g n : Nat} {f : List UInt8 → Value} (h : MapF w g n f) : g < w.heap.size := h.choose_spec.1.lt
theorem MapF.kept {w w' : World} {g n : Nat} {f : List UInt8 → Value} {row : Option Nat} (h : MapF w g n f) (hg : w.grownBy w' row) (hne : some g ≠ row) : MapF w' g n f := by
  obtain ⟨D, ho, hf⟩ := h
  exact ⟨D, ho.kept hg hne, hf⟩
theorem MapF.below {w w' : World} {g n : Nat} {f : List UInt8 → Value} (h : MapF w g n f) (hb : Below w.heap.size w w') : MapF w' g n f :=
  h.kept (row := none) ⟨hb.os, hb.tape, hb.output, hb.size, fun k hk _ => hb.block k hk⟩ (by simp)
theorem MapF.mono {w : World} {g n m : Nat} {f : List UInt8 → Value} (h : MapF w g n f) (hn : n ≤ m) : MapF w g m f := by
  obtain ⟨D, ho, hf⟩ := h
  exact ⟨D, ho.mono hn, hf⟩
theorem MapF.put {w : World} {g n : Nat} {f : List UInt8 → Value} (h : MapF w g n f) (k : List UInt8) (v : Value) (hk : k.length ≤ maxLen) (hn : n < maxLen) :
    ∃ w', (Instr.mapUpdate 126 (.map (some g)) (.string ⟨k.toArray⟩) v).run Tryz.prog w = .ok () w' ∧ MapF w' g (n + 1) (fun k' => if k' = k then v else f k') ∧ w.grownBy w' (some g) := by
  obtain ⟨D, ho, hf⟩ := h
  obtain ⟨w', hrun, h1, h2⟩ := ho.update law9 Tryz.underlying126 hn (key9 k hk) (d := .held v) (ps := []) (val := v) rfl
  refine ⟨w', hrun, ⟨_, h1, fun k' => ?_⟩, h2⟩
  show _ = DataW.held (if k' = k then v else f k')
  by_cases e : k' = k
  · subst e
    rw [if_pos rfl]
    exact atKey_put_same ho.isMap (by trivial) _ _
  · rw [if_neg e, atKey_put_other (by simpa using e)]
    exact hf k'
/-- No place with cells is the map's. -/
theorem MapF.cell {w : World} {g n : Nat} {f : List UInt8 → Value} (h : MapF w g n f) (o : Nat) : w.cell? ⟨g, o, none⟩ = none := by
  obtain ⟨D, ⟨es, clock, hb, -⟩, -⟩ := h
  simp [World.cell?, hb]
end Go.Proofs.YtdgleeglndcjhaaGreatDoor
/- Package plural: lang, Category. -/
namespace Go.Proofs.YtdgleeglndcjhaaGreatDoor
open Go.RowKit
set_option linter.unusedVariables false
set_option linter.unusedSimpArgs false

def az : Bs := [97, 98, 99, 100, 101, 102, 103, 104, 105, 106, 107, 108, 109, 110, 111, 112, 113, 114, 115, 116, 117, 118, 119, 120, 121, 122]
def langP (s : Bs) : Bool := decide (2 ≤ s.length) && (decide (s.length ≤ 3) && s.all fun b => az.contains b)
theorem trim_nilC (l cs : Bs) : Lib.trimS l cs = [] ↔ ∀ b ∈ l, cs.contains b = true := by
  unfold Lib.trimS Lib.trimLeftS Lib.trimRightS
  constructor
  · intro h
    have h1 := (dropWhile_nil _ _).1 h
    intro b hb
    by_cases hd : cs.contains b = true
    · exact hd
    · exfalso
      have hne : List.dropWhile (fun x => cs.contains x) l.reverse ≠ [] := fun e => hd ((dropWhile_nil _ _).1 e b (by simpa using hb))
      obtain ⟨x, r, hx⟩ := List.exists_cons_of_ne_nil hne
      have hh := dropWhile_head _ _ hx
      have := h1 x (by rw [hx]; simp)
      rw [this] at hh; cases hh
  · intro h
    have : List.dropWhile (fun x => cs.contains x) l.reverse = [] := (dropWhile_nil _ _).2 fun b hb => h b (by simpa using hb)
    rw [this]; rfl
theorem str_trim_az (s : ByteArray) (w : World) (hs : s.size ≤ 1000000) :
    Calls Tryz.prog 128 #[.string s, .string ⟨#[97, 98, 99, 100, 101, 102, 103, 104, 105, 106, 107, 108, 109, 110, 111, 112, 113, 114, 115, 116, 117, 118, 119, 120, 121, 122]⟩] w fun e w' => e = .returned (.string ⟨(Lib.trimS s.data.toList az).toArray⟩) ∧ Below w.heap.size w w' :=
  Any.strings_Trim_laid Tryz.lays160 trim_table s ⟨#[97, 98, 99, 100, 101, 102, 103, 104, 105, 106, 107, 108, 109, 110, 111, 112, 113, 114, 115, 116, 117, 118, 119, 120, 121, 122]⟩ w (by omega) (by decide) (ascii_of_all (by decide))

set_option maxRecDepth 100000 in
theorem plural_lang (w : World) (s : Bs) (hs : s.length ≤ 1000000) :
    Calls Tryz.prog 120 #[.string ⟨s.toArray⟩] w fun e w' => e = .returned (.bool (langP s)) ∧ Below w.heap.size w w' := by
  have HL : Hid (langP s = (decide (2 ≤ s.length) && (decide (s.length ≤ 3) && s.all fun b => az.contains b))) := rfl
  by_cases h2 : 2 ≤ s.length
  case neg =>
    have hI : ¬ (2 : Int) ≤ (s.length : Int) := by omega
    have hl : langP s = false := by rw [HL.out]; simp [h2]
    rw [hl]
    clear hl h2
    go_enter Tryz.func120, Tryz.ntmps120
    go_wp2_with fail
    go_ret
    exact ⟨rfl, Below.refl _ _⟩
  have hI : (2 : Int) ≤ (s.length : Int) := by omega
  by_cases h3 : s.length ≤ 3
  case neg =>
    have hI3 : ¬ (s.length : Int) ≤ 3 := by omega
    have hl : langP s = false := by rw [HL.out]; simp [h3]
    rw [hl]
    clear hl h2 h3
    go_enter Tryz.func120, Tryz.ntmps120
    go_wp2_with fail
    go_ret
    exact ⟨rfl, Below.refl _ _⟩
  have hI3 : (s.length : Int) ≤ 3 := by omega
  have hl : langP s = s.all fun b => az.contains b := by rw [HL.out]; simp [h2, h3]
  have HLL := Lib.hid hl
  clear hl h2 h3
  go_enter Tryz.func120, Tryz.ntmps120
  go_wp2_with fail
  refine (str_trim_az ⟨s.toArray⟩ w (by rw [Lib.size_eq]; exact hs)).mono ?_
  rw [show (⟨s.toArray⟩ : ByteArray).data.toList = s from rfl]
  rintro e w1 ⟨rfl, hb⟩
  have HB := Lib.hid hb
  clear hb
  dsimp only
  by_cases ht : Lib.trimS s az = []
  · have hte : (Lib.trimS s az).isEmpty = true := by rw [ht]; rfl
    have hv : langP s = true := by rw [HLL.out, List.all_eq_true]; exact (trim_nilC _ _).1 ht
    have HV := Lib.hid hv
    clear hv ht
    go_wp2_with fail
    go_ret
    exact ⟨by rw [HV.out]; rfl, HB.out⟩
  · have hte : (Lib.trimS s az).isEmpty = false := by simpa using ht
    have hv : langP s = false := by
      rw [HLL.out]
      cases h : s.all fun b => az.contains b with
      | false => rfl
      | true => exact absurd ((trim_nilC _ _).2 (List.all_eq_true.1 h)) ht
    have HV := Lib.hid hv
    clear hv ht
    go_wp2_with fail
    go_ret
    exact ⟨by rw [HV.out]; rfl, HB.out⟩

def catP (s : Bs) : Bool := decide (s = [122, 101, 114, 111]) || decide (s = [111, 110, 101]) || decide (s = [116, 119, 111]) || decide (s = [102, 101, 119]) || decide (s = [109, 97, 110, 121]) || decide (s = [111, 116, 104, 101, 114])
set_option maxRecDepth 100000 in
theorem plural_Category (w : World) (s : Bs) : Calls Tryz.prog 36 #[.string ⟨s.toArray⟩] w fun e w' => e = .returned (.bool (catP s)) ∧ Below w.heap.size w w' := by
  have HL : Hid (catP s = (decide (s = [122, 101, 114, 111]) || decide (s = [111, 110, 101]) || decide (s = [116, 119, 111]) || decide (s = [102, 101, 119]) || decide (s = [109, 97, 110, 121]) || decide (s = [111, 116, 104, 101, 114]))) := rfl
  by_cases h0 : s = [122, 101, 114, 111]
  · have e0 : (s == [122, 101, 114, 111]) = true := by simpa using h0
    have hv : catP s = true := by rw [HL.out]; simp [h0]
    rw [hv]
    clear h0 hv
    go_enter Tryz.func36, Tryz.ntmps36
    go_wp2_with fail
    go_ret
    exact ⟨rfl, Below.refl _ _⟩
  have e0 : (s == [122, 101, 114, 111]) = false := by simpa using h0
  by_cases h1 : s = [111, 110, 101]
  · have e1 : (s == [111, 110, 101]) = true := by simpa using h1
    have hv : catP s = true := by rw [HL.out]; simp [h1]
    rw [hv]
    clear h1 hv
    go_enter Tryz.func36, Tryz.ntmps36
    go_wp2_with fail
    go_ret
    exact ⟨rfl, Below.refl _ _⟩
  have e1 : (s == [111, 110, 101]) = false := by simpa using h1
  by_cases h2 : s = [116, 119, 111]
  · have e2 : (s == [116, 119, 111]) = true := by simpa using h2
    have hv : catP s = true := by rw [HL.out]; simp [h2]
    rw [hv]
    clear h2 hv
    go_enter Tryz.func36, Tryz.ntmps36
    go_wp2_with fail
    go_ret
    exact ⟨rfl, Below.refl _ _⟩
  have e2 : (s == [116, 119, 111]) = false := by simpa using h2
  by_cases h3 : s = [102, 101, 119]
  · have e3 : (s == [102, 101, 119]) = true := by simpa using h3
    have hv : catP s = true := by rw [HL.out]; simp [h3]
    rw [hv]
    clear h3 hv
    go_enter Tryz.func36, Tryz.ntmps36
    go_wp2_with fail
    go_ret
    exact ⟨rfl, Below.refl _ _⟩
  have e3 : (s == [102, 101, 119]) = false := by simpa using h3
  by_cases h4 : s = [109, 97, 110, 121]
  · have e4 : (s == [109, 97, 110, 121]) = true := by simpa using h4
    have hv : catP s = true := by rw [HL.out]; simp [h4]
    rw [hv]
    clear h4 hv
    go_enter Tryz.func36, Tryz.ntmps36
    go_wp2_with fail
    go_ret
    exact ⟨rfl, Below.refl _ _⟩
  have e4 : (s == [109, 97, 110, 121]) = false := by simpa using h4
  by_cases h5 : s = [111, 116, 104, 101, 114]
  · have e5 : (s == [111, 116, 104, 101, 114]) = true := by simpa using h5
    have hv : catP s = true := by rw [HL.out]; simp [h5]
    rw [hv]
    clear h5 hv
    go_enter Tryz.func36, Tryz.ntmps36
    go_wp2_with fail
    go_ret
    exact ⟨rfl, Below.refl _ _⟩
  have e5 : (s == [111, 116, 104, 101, 114]) = false := by simpa using h5
  have hv : catP s = false := by rw [HL.out]; simp [h0, h1, h2, h3, h4, h5]
  rw [hv]
  clear h0 h1 h2 h3 h4 h5 hv
  go_enter Tryz.func36, Tryz.ntmps36
  go_wp2_with fail
  go_ret
  exact ⟨rfl, Below.refl _ _⟩
end Go.Proofs.YtdgleeglndcjhaaGreatDoor
/- The plurals in memory, and how a row more goes in. -/
namespace Go.Proofs.YtdgleeglndcjhaaGreatDoor
open Go.RowKit
set_option linter.unusedVariables false
set_option linter.unusedSimpArgs false

abbrev Pe := Bs × Value × Rl
def pcell (e : Pe) : Value × Value := (.string ⟨e.1.toArray⟩, e.2.1)
def prow (e : Pe) : Bs × Rl := (e.1, e.2.2)
/-- A rule that no store of the map's or its rows' touches. -/
def KeptR (lo : Nat) (w : World) (M : Nat → Prop) (e : Pe) : Prop :=
  ∃ A n c rl, ∃ w0 : World, e.2.1 = .slice A n c ∧ lo ≤ rl ∧ RuleAreB rl w0 A n c e.2.2 ∧ w0.heap.size ≤ w.heap.size ∧ (∀ b, rl ≤ b → b < w0.heap.size → w.heap[b]? = w0.heap[b]?) ∧ ∀ m, M m → m < rl ∨ w0.heap.size ≤ m
theorem KeptR.step {lo : Nat} {w w' : World} {M M' : Nat → Prop} {e : Pe} (h : KeptR lo w M e) (hs : w.heap.size ≤ w'.heap.size) (hk : ∀ b, b < w.heap.size → ¬ M b → w'.heap[b]? = w.heap[b]?) (hM : ∀ m, M' m → M m ∨ w.heap.size ≤ m) : KeptR lo w' M' e := by
  obtain ⟨A, n, c, rl, w0, h1, h0, h2, h3, h4, h5⟩ := h
  refine ⟨A, n, c, rl, w0, h1, h0, h2, Nat.le_trans h3 hs, fun b hb hb2 => ?_, fun m hm => ?_⟩
  · rw [hk b (by omega) (fun e => by rcases h5 b e with h | h <;> omega), h4 b hb hb2]
  · rcases hM m hm with h | h
    · exact h5 m h
    · right; omega
theorem KeptR.is {lo : Nat} {w : World} {M : Nat → Prop} {e : Pe} (h : KeptR lo w M e) : ∃ A n c, e.2.1 = .slice A n c ∧ RuleIs w A n c e.2.2 := by
  obtain ⟨A, n, c, rl, w0, h1, -, h2, h3, h4, h5⟩ := h
  exact ⟨A, n, c, h1, (h2.stable h3 h4).is⟩
/-- Stores below all that is its own leave it. -/
theorem KeptR.low {lo : Nat} {w w' : World} {M : Nat → Prop} {e : Pe} (h : KeptR lo w M e) (hs : w.heap.size ≤ w'.heap.size) (hk : ∀ b, lo ≤ b → b < w.heap.size → w'.heap[b]? = w.heap[b]?) : KeptR lo w' M e := by
  obtain ⟨A, n, c, rl, w0, h1, h0, h2, h3, h4, h5⟩ := h
  exact ⟨A, n, c, rl, w0, h1, h0, h2, Nat.le_trans h3 hs, fun b hb hb2 => (hk b (by omega) (by omega)).trans (h4 b hb hb2), h5⟩
def Mut (gm : Nat) (f : Bs → Value) (m : Nat) : Prop := m = gm ∨ ∃ k, (f k).ownBlock = some m
/-- The plurals that the call makes: W: the world in which the map was there already; its entries' rows come behind it. -/
structure PlI (W w : World) (gm n : Nat) (f : Bs → Value) (es : Bs → List Pe) : Prop where
  map : MapF w gm n f
  lt : gm < W.heap.size
  gr : W.grownBy w (some gm)
  row : ∀ k, w.ownsRow W.heap.size 130 2 (f k) (es k).length (cells2 ((es k).map pcell))
  apart : ∀ k k' b, k ≠ k' → (f k).ownBlock = some b → (f k').ownBlock ≠ some b
  rule : ∀ k e, e ∈ es k → KeptR W.heap.size w (Mut gm f) e
  few : ∀ k, (es k).length ≤ n
theorem grown_of {w w' : World} (hb : Below w.heap.size w w') (r : Option Nat) : w.grownBy w' r := ⟨hb.os, hb.tape, hb.output, hb.size, fun k hk _ => hb.block k hk⟩
theorem PlI.mut_lt {W w : World} {gm n : Nat} {f : Bs → Value} {es : Bs → List Pe} (h : PlI W w gm n f es) {m : Nat} (hm : Mut gm f m) : m < w.heap.size := by
  rcases hm with rfl | ⟨k, hk⟩
  · exact h.map.lt
  · exact (World.ownsRow.lt (h.row k) m hk).2
theorem PlI.below {W w w' : World} {gm n : Nat} {f : Bs → Value} {es : Bs → List Pe} (h : PlI W w gm n f es) (hb : Below w.heap.size w w') : PlI W w' gm n f es :=
  ⟨h.map.below hb, h.lt, h.gr.trans (grown_of hb _), fun k => own_kept_below (h.row k) hb, h.apart, fun k e he => (h.rule k e he).step hb.size (fun b hlt _ => hb.block b hlt) (fun m hm => .inl hm), h.few⟩
theorem PlI.start (w W : World) (gm : Nat) (hm : MapF W gm 0 (fun _ => .slice none 0 0)) : PlI W W gm 0 (fun _ => .slice none 0 0) (fun _ => []) :=
  ⟨hm, hm.lt, ⟨rfl, rfl, rfl, Nat.le_refl _, fun _ _ _ => rfl⟩, fun k => World.ownsRow_nil _ _ _ _, fun k k' b _ h => by simp [Value.ownBlock] at h, fun k e he => (by cases he), fun k => Nat.le_refl _⟩
/-- A row more, behind its rule's reading. -/
theorem PlI.push {W wa w w1 w2 : World} {gm n g cap : Nat} {f : Bs → Value} {es : Bs → List Pe} {k : Bs} {c : Bs} {A : Option Addr} {rn rc : Nat} {r : Rl} (h : PlI W wa gm n f es) (hb : Below wa.heap.size wa w) (hr : RuleAreB wa.heap.size w A rn rc r)
    (hg : w.grownBy w1 (f k).ownBlock) (ho : w1.ownsRow W.heap.size 130 2 (.slice (some ⟨g, 0, none⟩) ((es k).length + 1) cap) ((es k).length + 1) (cells2 ((es k).map pcell) ++ [.string ⟨c.toArray⟩, .slice A rn rc])) (hat : (f k).ownBlock = some g ∨ g = w.heap.size)
    (hm : MapF w2 gm (n + 1) (fun k' => if k' = k then .slice (some ⟨g, 0, none⟩) ((es k).length + 1) cap else f k')) (hg2 : w1.grownBy w2 (some gm)) :
    PlI W w2 gm (n + 1) (fun k' => if k' = k then .slice (some ⟨g, 0, none⟩) ((es k).length + 1) cap else f k') (fun k' => if k' = k then es k ++ [(c, .slice A rn rc, r)] else es k') := by
  have hw := h.below hb
  have hgB : W.heap.size ≤ g := (ho.lt g rfl).1
  have hgm : gm < W.heap.size := h.lt
  have hne : ∀ k', (f k').ownBlock ≠ some gm := fun k' e => by have := (World.ownsRow.lt (hw.row k') gm e).1; omega
  have hmut : ∀ m, Mut gm (fun k' => if k' = k then .slice (some ⟨g, 0, none⟩) ((es k).length + 1) cap else f k') m → Mut gm f m ∨ w.heap.size ≤ m := by
    rintro m (rfl | ⟨k', hk'⟩)
    · exact .inl (.inl rfl)
    · dsimp only at hk'
      split at hk'
      · obtain rfl : g = m := by simpa [Value.ownBlock] using hk'
        rcases hat with e | e
        · exact .inl (.inr ⟨k, e⟩)
        · exact .inr (by omega)
      · exact .inl (.inr ⟨k', hk'⟩)
  have hsame : ∀ b, b < w.heap.size → ¬ Mut gm f b → w2.heap[b]? = w.heap[b]? := fun b hlt hnm => by
    rw [hg2.block b (Nat.lt_of_lt_of_le hlt hg.size) (fun e => hnm (.inl (by cases e; rfl))), hg.block b hlt (fun e => hnm (.inr ⟨k, e.symm⟩))]
  have hsz : w.heap.size ≤ w2.heap.size := Nat.le_trans hg.size hg2.size
  refine ⟨hm, hgm, (grown_up hw.gr hg (fun j hj => (World.ownsRow.lt (hw.row k) j hj).1)).trans hg2, fun k' => ?_, fun k1 k2 b hk12 hb1 hb2 => ?_, fun k' e he => ?_, fun k' => ?_⟩
  · skip
    split
    · rw [List.map_append, List.length_append, show [((c, .slice A rn rc, r) : Pe)].map pcell = [pcell (c, .slice A rn rc, r)] from rfl, cells2_snoc]
      exact ho.kept hg2 (.inr (by simp only [Value.ownBlock, ne_eq, Option.some.injEq]; omega))
    · rename_i hk'
      have h1 := (hw.row k').kept hg (by
        cases e : (f k').ownBlock with
        | none => exact .inl rfl
        | some j => exact .inr (by rw [← e]; intro e2; exact hw.apart k' k j hk' e (by rw [← e2]; exact e)))
      exact h1.kept hg2 (by
        cases e : (f k').ownBlock with
        | none => exact .inl rfl
        | some j => exact .inr (by rw [← e]; exact hne k'))
  · skip
    by_cases e1 : k1 = k <;> by_cases e2 : k2 = k
    · exact hk12 (e1.trans e2.symm)
    · rw [if_pos e1] at hb1; rw [if_neg e2] at hb2
      obtain rfl : g = b := by simpa [Value.ownBlock] using hb1
      rcases hat with e | e
      · exact hw.apart k k2 g (fun e3 => e2 e3.symm) e hb2
      · have := (World.ownsRow.lt (hw.row k2) g hb2).2; omega
    · rw [if_neg e1] at hb1; rw [if_pos e2] at hb2
      obtain rfl : g = b := by simpa [Value.ownBlock] using hb2
      rcases hat with e | e
      · exact hw.apart k1 k g e1 hb1 e
      · have := (World.ownsRow.lt (hw.row k1) g hb1).2; omega
    · rw [if_neg e1] at hb1; rw [if_neg e2] at hb2
      exact hw.apart k1 k2 b hk12 hb1 hb2
  · have key : KeptR W.heap.size w (Mut gm f) e ∨ e = (c, .slice A rn rc, r) := by
      skip
      split at he
      · rcases List.mem_append.1 he with h' | h'
        · exact .inl (hw.rule k e h')
        · exact .inr (List.mem_singleton.1 h')
      · exact .inl (hw.rule k' e he)
    rcases key with h' | rfl
    · exact h'.step hsz hsame hmut
    · have : KeptR W.heap.size w (Mut gm f) (c, .slice A rn rc, r) := ⟨A, rn, rc, wa.heap.size, w, rfl, h.gr.size, hr, Nat.le_refl _, fun b _ _ => rfl, fun m hm => .inl (h.mut_lt hm)⟩
      exact this.step hsz hsame hmut
  · skip
    split
    · have := h.few k; simp; omega
    · have := h.few k'; omega
end Go.Proofs.YtdgleeglndcjhaaGreatDoor
