/- The rows' common part: what the condition gives; a numeral that came in. -/
import Derived.Test.YtdgleeglndcjhaaGreatDoorQ1
namespace Go.Proofs.YtdgleeglndcjhaaGreatDoor
open Go.ChangeShapes Go.WideShapes Go.ChangeAt Go.RowKit
open Go.ChangeMaps (open_string shut_string)
set_option linter.unusedVariables false
set_option linter.constructorNameAsVariable false

theorem maxLen_row : (((begin Tryz.prog (fun _ _ => 0) default).world.heap[0]?).bind Obj.row?) = some (#[.int .i64 0], 3) := by kernel_rfl
theorem gw_of {W : World} (h : W.ShapedOpen Tryz.prog) (hL : laidMet Tryz.prog laidL W) : GW W := by
  refine ⟨cell_of_shapedOpen_int h (of_decide_eq_true (by kernel_rfl)) maxLen_row rfl (by kernel_rfl) (by kernel_rfl) Tryz.underlying3, ?_⟩
  exact Lib.tabIs_of_head pow10_named (t := 309) (e := 50) (n := 20) (by kernel_rfl) (by kernel_rfl) Tryz.underlying50 (by kernel_rfl) (by kernel_rfl) (hL.tail.tail)
/-- A number that came in, opened. -/
theorem open_words {H : Type} {enc : TypeId × Value → H} {W : World} {n : Nat} {v : Value} {y : DataW H × List MemPlace} (h : DataW.trod enc Tryz.prog W 0 (fun _ => true) true n 22 [v] = some y) :
    ∃ A k c l, v = .slice A k c ∧ RL W (.slice A k c) l := by
  rcases open_ints Tryz.underlying22 Tryz.underlying43 (by kernel_rfl) h with ⟨hcs, -⟩ | ⟨a, len, cap, zs, hcs, -, hl, -, hz, -, hcell, hwz⟩
  · obtain rfl : v = .slice none 0 0 := by simpa using hcs
    exact ⟨none, 0, 0, [], rfl, SlC.nil _ _ _ _, Wd.nil⟩
  · obtain rfl : v = .slice (some a) len cap := by simpa using hcs
    rw [if_pos rfl] at hz
    have wz : ∀ z ∈ zs, 0 ≤ z ∧ z < 4294967296 := fun z h => by
      have h5 := hwz z h
      have e1 : IntKind.u32.min = 0 := rfl
      have e2 : IntKind.u32.max = 4294967295 := rfl
      simp only [Lit.wf, e1, e2, Bool.and_eq_true, decide_eq_true_eq] at h5
      omega
    refine ⟨some a, len, cap, (zs.take len).map Int.toNat, rfl, ?_, ?_⟩
    · have hlen : ((zs.take len).map Int.toNat).length = len := by simp; omega
      rw [hlen]
      refine ⟨some a, cap, rfl, hl, by simp [U32]; omega, fun hp => ?_⟩
      obtain ⟨b, off, spot⟩ := a
      have hspot : spot = none := by
        have hz0 : 0 < zs.length := by
          simp [U32] at hp
          rcases Nat.eq_zero_or_pos zs.length with h0 | h0
          · omega
          · exact h0
        simpa [Addr.add] using World.cell?_spot (hcell 0 hz0)
      subst hspot
      refine ⟨b, off, rfl, fun j x hx => ?_⟩
      simp only [U32, List.map_map, List.getElem?_map, Option.map_eq_some_iff, Function.comp] at hx
      obtain ⟨z, hz1, rfl⟩ := hx
      have hj : j < (zs.take len).length := (List.getElem?_eq_some_iff.1 hz1).1
      have hj2 : j < zs.length := by rw [List.length_take] at hj; omega
      have hzj : zs[j]? = some z := by
        rw [List.getElem?_take] at hz1
        split at hz1
        · exact hz1
        · cases hz1
      have := hcell j hj2
      rw [← add_plain, this, List.getD_eq_getElem?_getD, hzj]
      have := wz z (List.mem_of_getElem? hzj)
      simp [Int.toNat_of_nonneg this.1]
    · intro x hx
      obtain ⟨z, hz1, rfl⟩ := List.mem_map.1 hx
      have := wz z (List.mem_of_mem_take hz1)
      omega
set_option maxRecDepth 100000 in
/-- A numeral that came in, opened. -/
theorem open_dec {H : Type} {enc : TypeId × Value → H} {W : World} {base : Nat} {v : Value} {d : DataW H} {p : List MemPlace} (hv : Value.okWide Tryz.prog W .any base 26 v) (h : DataW.Trod enc Tryz.prog W 0 (fun _ => true) true 26 v d p) :
    ∃ b A n c l sc, v = .agg #[.bool b, .slice A n c, .int .i64 sc] ∧ RL W (.slice A n c) l := by
  obtain ⟨v0, v1, v2, y0, y1, y2, n, rfl, -, -, h0, h1, h2⟩ := Joins.open_agg3 Tryz.underlying26 (by kernel_rfl) (by kernel_rfl) hv h
  obtain ⟨b, rfl⟩ : ∃ b, v0 = .bool b := by
    obtain ⟨b, hb, -⟩ := DataW.trod_bool Tryz.underlying4 h0
    exact ⟨b, by simpa using hb⟩
  obtain ⟨z, rfl⟩ : ∃ z, v2 = .int .i64 z := by
    obtain ⟨z, hz, -⟩ := DataW.trod_int Tryz.underlying3 h2
    exact ⟨z, by simpa using hz⟩
  obtain ⟨xs, m, hn, -, -, hlen, hf⟩ := DataW.trod_struct Tryz.underlying24 h1
  match xs, hlen with
  | [y], _ =>
    have h3 := hf 0 _ rfl
    obtain ⟨A, k, c, l, rfl, hl⟩ := open_words (enc := enc) (n := m) (v := v1) (y := y) (by simpa [show Tryz.prog.cellsOf 22 = 1 by kernel_rfl] using h3)
    exact ⟨b, A, k, c, l, z, rfl, hl⟩
end Go.Proofs.YtdgleeglndcjhaaGreatDoor
