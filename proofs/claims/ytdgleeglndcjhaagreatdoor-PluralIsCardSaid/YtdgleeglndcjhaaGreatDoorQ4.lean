/- Rows that came in, opened. -/
import Derived.Test.YtdgleeglndcjhaaGreatDoorQ2
import Derived.Test.YtdgleeglndcjhaaGreatDoorLr
import Derived.Deep.Slices
import Derived.Deep.Strs
namespace Go.Proofs.YtdgleeglndcjhaaGreatDoor
open Go.ChangeShapes Go.WideShapes Go.ChangeAt Go.RowKit Go.Deep
set_option linter.unusedVariables false
set_option linter.constructorNameAsVariable false

theorem spot_of_cell {W : World} {a : Addr} {u : Value} (h : W.cell? a = some u) : a = ⟨a.block, a.off, none⟩ := by
  obtain ⟨b, o, s⟩ := a
  have : s = none := by simpa using World.cell?_spot h
  rw [this]
/-- Texts that came in. -/
theorem open_texts {H : Type} {enc : TypeId × Value → H} {W : World} {n : Nat} {v : Value} {y : DataW H × List MemPlace} (h : DataW.trod enc Tryz.prog W 0 (fun _ => true) true n 54 [v] = some y) :
    ∃ A k c ws, v = .slice A k c ∧ StrsAre W A k c ws := by
  rcases open_strs Tryz.underlying54 Tryz.underlying9 (by kernel_rfl) h with ⟨hcs, -⟩ | ⟨a, len, cap, m, Sx, hcs, -, hl, -, hm, -, hc⟩
  · obtain rfl : v = .slice none 0 0 := by simpa using hcs
    exact ⟨none, 0, 0, [], rfl, SlC.nil _ _ _ _⟩
  · obtain rfl : v = .slice (some a) len cap := by simpa using hcs
    rw [if_pos rfl] at hm
    refine ⟨some a, len, cap, (List.range len).map fun i => (Sx i).data.toList, rfl, ?_⟩
    have hlen : ((List.range len).map fun i => (Sx i).data.toList).length = len := by simp
    refine ⟨some a, cap, by rw [hlen], by rw [hlen]; exact hl, by simp, fun hp => ?_⟩
    have h0 : 0 < len := by simpa using hp
    obtain ⟨hc0, -⟩ := hc 0 (by omega)
    have hsp : a = ⟨a.block, a.off, none⟩ := by
      have := spot_of_cell hc0
      simpa [Addr.add] using this
    refine ⟨a.block, a.off, by rw [← hsp], fun j x hx => ?_⟩
    simp only [List.map_map, List.getElem?_map, Option.map_eq_some_iff, Function.comp] at hx
    obtain ⟨i, hi, rfl⟩ := hx
    rw [List.getElem?_eq_some_iff] at hi
    obtain ⟨hi1, hi2⟩ := hi
    have hjl : j < len := by simpa using hi1
    obtain rfl : j = i := by simpa using hi2
    have := (hc j (by omega)).1
    rw [hsp, add_plain] at this
    rw [this]
theorem cells_two {W : World} {a : Addr} {cs : List Value} (h : W.cells? 0 a 2 = some cs) : ∃ x y, cs = [x, y] ∧ W.cell? a = some x ∧ W.cell? (a.add 1) = some y := by
  obtain ⟨-, hl, hc⟩ := World.cells?_some h
  match cs, hl with
  | [x, y], _ =>
    have h0 := hc 0 (by omega)
    have h1 := hc 1 (by omega)
    exact ⟨x, y, rfl, by simpa [Addr.add] using h0, by simpa using h1⟩
/-- Rows that came in. -/
theorem open_rows {H : Type} {enc : TypeId × Value → H} {W : World} {n : Nat} {v : Value} {y : DataW H × List MemPlace} (h : DataW.trod enc Tryz.prog W 0 (fun _ => true) true n 82 [v] = some y) :
    ∃ A k c L, v = .slice A k c ∧ RowsIs W A k c L := by
  rcases open_slice Tryz.underlying82 h with ⟨hcs, -⟩ | ⟨a, len, cap, m, n', D, Pl, hcs, -, hl, -, hm, -, hc⟩
  · obtain rfl : v = .slice none 0 0 := by simpa using hcs
    exact ⟨none, 0, 0, [], rfl, [], rfl, SlC.nil _ _ _ _, fun e he => by cases he⟩
  · obtain rfl : v = .slice (some a) len cap := by simpa using hcs
    rw [if_pos rfl] at hm
    have each : ∀ i, i < len → ∃ e : Re, W.cell? (a.add (i * 2)) = some (.int .i64 e.1) ∧ W.cell? ((a.add (i * 2)).add 1) = some e.2.2 ∧ ∃ A n c, e.2.2 = .slice A n c ∧ StrsAre W A n c e.2.1 := fun i hi => by
      obtain ⟨cs', h1, h2⟩ := hc i (by omega)
      rw [show Tryz.prog.cellsOf 132 = 2 by kernel_rfl] at h1
      obtain ⟨x, y, rfl, h3, h4⟩ := cells_two h1
      obtain ⟨y0, y1, n2, -, -, h5, h6⟩ := trod_struct2 Tryz.underlying132 h2
      rw [show Tryz.prog.cellsOf 3 = 1 by kernel_rfl] at h5
      rw [show Tryz.prog.cellsOf 54 = 1 by kernel_rfl] at h6
      obtain ⟨z, hz, -⟩ := DataW.trod_int Tryz.underlying3 h5
      obtain rfl : x = .int .i64 z := by simpa using hz
      obtain ⟨A, k, c, ws, hv, hS⟩ := open_texts (enc := enc) (n := n2) (v := y) (by simpa using h6)
      exact ⟨(z, ws, y), h3, h4, A, k, c, hv, hS⟩
    have hne : Nonempty Re := ⟨(0, [], .slice none 0 0)⟩
    obtain ⟨F, hF⟩ : ∃ F : Nat → Re, ∀ i, i < len → W.cell? (a.add (i * 2)) = some (.int .i64 (F i).1) ∧ W.cell? ((a.add (i * 2)).add 1) = some (F i).2.2 ∧ ∃ A n c, (F i).2.2 = .slice A n c ∧ StrsAre W A n c (F i).2.1 := by
      haveI : Inhabited Re := ⟨(0, [], .slice none 0 0)⟩
      exact choose_lt each
    refine ⟨some a, len, cap, ((List.range len).map F).map rrow, rfl, (List.range len).map F, rfl, ?_, fun e he => ?_⟩
    · have hlen : ((List.range len).map F).length = len := by simp
      refine ⟨some a, cap, by rw [hlen], by rw [hlen]; exact hl, by rw [cells2_len]; simp, fun hp => ?_⟩
      have h0 : 0 < len := by rw [cells2_len] at hp; simp at hp; omega
      have hsp : a = ⟨a.block, a.off, none⟩ := by
        have := spot_of_cell (hF 0 h0).1
        simpa [Addr.add] using this
      refine ⟨a.block, a.off, by rw [← hsp], fun j x hx => ?_⟩
      have hjl : j < len * 2 := by
        obtain ⟨hj, -⟩ := List.getElem?_eq_some_iff.1 hx
        rw [cells2_len] at hj
        simpa using hj
      have hat := cells2_at (((List.range len).map F).map rcell) (j / 2) (rcell (F (j / 2))) (by
        rw [List.getElem?_map, List.getElem?_map, List.getElem?_range (by omega)]; rfl)
      obtain ⟨f1, f2, -⟩ := hF (j / 2) (by omega)
      rw [hsp, add_plain] at f1 f2
      rw [add_plain] at f2
      rcases Nat.mod_two_eq_zero_or_one j with e | e
      · have ej : j = j / 2 * 2 := by omega
        rw [ej, hat.1] at hx
        cases hx
        rw [show a.off + j = a.off + j / 2 * 2 by omega, f1]; rfl
      · have ej : j = j / 2 * 2 + 1 := by omega
        rw [ej, hat.2] at hx
        cases hx
        rw [show a.off + j = a.off + j / 2 * 2 + 1 by omega, f2]; rfl
    · obtain ⟨i, hi, rfl⟩ := List.mem_map.1 he
      exact (hF i (by simpa using hi)).2.2
end Go.Proofs.YtdgleeglndcjhaaGreatDoor
