/- Package rule: Holds. -/
import Derived.Test.YtdgleeglndcjhaaGreatDoorGs
import Derived.Test.YtdgleeglndcjhaaGreatDoorH1
namespace Go.Proofs.YtdgleeglndcjhaaGreatDoor
open Go.RowKit
set_option linter.unusedVariables false
set_option linter.unusedSimpArgs false

/-- What a numeral shows lies in block g. -/
def OpV (w : World) (g : Nat) (val : Nat → Nat × Nat) : Prop :=
  ∃ b A n c A' n' c' iA il ic fA fl fc tA tl tc k s m i v u f t, Blk w g 39 [.bool b, .slice A n c, .slice A' n' c', .slice iA il ic, .int .i64 (v : Nat), .int .i64 (u : Nat), .slice fA fl fc, .slice tA tl tc] ∧
    OpR w b A n c A' n' c' iA il ic fA fl fc tA tl tc k s m i v u f t ∧ 63 ≤ m ∧ m ≤ 40000 ∧ val = opVal k s i v u f t
theorem OpV.below {w w' : World} {g : Nat} {val : Nat → Nat × Nat} (h : OpV w g val) (hb : Below w.heap.size w w') : OpV w' g val := by
  obtain ⟨b, A, n, c, A', n', c', iA, il, ic, fA, fl, fc, tA, tl, tc, k, s, m, i, v, u, f, t, h1, h2, h3, h4, h5⟩ := h
  exact ⟨b, A, n, c, A', n', c', iA, il, ic, fA, fl, fc, tA, tl, tc, k, s, m, i, v, u, f, t, h1.below hb h1.lt, h2.below hb (Nat.le_refl _), h3, h4, h5⟩
theorem OpV.lt {w : World} {g : Nat} {val : Nat → Nat × Nat} (h : OpV w g val) : g < w.heap.size := by
  obtain ⟨b, A, n, c, A', n', c', iA, il, ic, fA, fl, fc, tA, tl, tc, k, s, m, i, v, u, f, t, h1, -⟩ := h
  exact h1.lt
theorem IntsAre.il {w : World} {A : Option Addr} {n c : Nat} {L : List Nat} (h : IntsAre w A n c (L.map fun x : Nat => (x : Int))) : IL w A n c L := by
  unfold IntsAre ints at h
  rw [List.map_map, List.length_map] at h
  exact h

theorem zip_back : ∀ L : List (Nat × Nat), (L.map (·.1)).zip (L.map (·.2)) = L
  | [] => rfl
  | e :: L => by rw [List.map_cons, List.map_cons, List.zip_cons_cons, zip_back L]
set_option maxRecDepth 100000 in
set_option maxHeartbeats 4000000 in
theorem holds_11 (w : World) (c : Cnd) (FA TA : Option Addr) (fn fc tn tc g : Nat) (val : Nat → Nat × Nat) (hf : IntsAre w FA fn fc c.fr) (ht : IntsAre w TA tn tc c.to) (hv : Valid c) (hs : SmallC c) (ho : OpV w g val) :
    Calls Tryz.prog 56 #[.agg #[.int .u8 (c.letter : Int), .int .i64 c.mod, .bool c.nt, .slice FA fn fc, .slice TA tn tc], .pointer (some ⟨g, 0, none⟩)] w fun e w' => e = .returned (.bool (!condV val c)) ∧ Below w.heap.size w w' := by
  obtain ⟨l, m, L, hl, hm, h0, h5, he⟩ := hv.mk'
  obtain ⟨b, A, n, cc, A', n', c', iA, il, ic, fA, fl, fcc, tA, tl, tcc, k, s, mm, i, v, u, f, t, hB, hO, h63, h40, hval⟩ := ho
  have hcv : condV val c = condHolds (opVal k s i v u f t l.toNat).1 (opVal k s i v u f t l.toNat).2 m c.nt ((L.map (·.1)).zip (L.map (·.2))) := by
    rw [he, condV_mk, hval]
    rw [zip_back]
    rfl
  rw [hcv]
  have efr : c.fr = (L.map (·.1)).map fun x : Nat => (x : Int) := by rw [he, List.map_map]; rfl
  have eto : c.to = (L.map (·.2)).map fun x : Nat => (x : Int) := by rw [he, List.map_map]; rfl
  rw [efr] at hf
  rw [eto] at ht
  have HFI := Lib.hid (IntsAre.il hf)
  have HTI := Lib.hid (IntsAre.il ht)
  have hlet : c.letter = l.toNat := by rw [he]; rfl
  have hmod : c.mod = (m : Int) := by rw [he]; rfl
  rw [hlet, hmod]
  have HBL := Lib.hid hB
  have HOP := Lib.hid hO
  have HL := Lib.hid h5
  have hlen : L.length ≤ 1000 := by have := hs.nf; rw [he] at this; simpa [mkC] using this
  generalize c.nt = nt at *
  clear hf ht hv hs hB hO hval hcv he hlet hmod h5 efr eto
  obtain ⟨q, hq⟩ : ∃ q, condHolds (opVal k s i v u f t l.toNat).1 (opVal k s i v u f t l.toNat).2 m nt ((L.map (·.1)).zip (L.map (·.2))) = q := ⟨_, rfl⟩
  rw [hq]
  have HQ := Lib.hid hq
  clear hq
  have hz := HBL.out.lt
  go_enter Tryz.func56, Tryz.ntmps56
  have hba := (Below.refl w.heap.size w).alloc (Nat.le_refl _) (.cells #[.int .u8 (l.toNat : Int), .int .i64 (m : Int), .bool nt, .slice FA fn fc, .slice TA tn tc] 47)
  have b1 := HBL.out.alloc (.cells #[.int .u8 (l.toNat : Int), .int .i64 (m : Int), .bool nt, .slice FA fn fc, .slice TA tn tc] 47)
  have HBA := Lib.hid hba
  go_upto_region 1 with fail
  refine wp_letter (fun w1 => Blk w1 w.heap.size 47 [.int .u8 (l.toNat : Int), .int .i64 (m : Int), .bool nt, .slice FA fn fc, .slice TA tn tc] ∧ Blk w1 g 39 [.bool b, .slice A n cc, .slice A' n' c', .slice iA il ic, .int .i64 (v : Nat), .int .i64 (u : Nat), .slice fA fl fcc, .slice tA tl tcc] ∧ Below w.heap.size w w1) ⟨Blk.made _ 47 _ _ _ rfl rfl, b1, hba⟩ ?_
  clear hba b1 HBA
  rintro w1 ⟨b0, b1, hb⟩
  have HB := Lib.hid hb
  have k0 := b0.cell 0
  have k1 := b0.cell 1
  have k2 := b0.cell 2
  have k3 := b0.cell 3
  have k4 := b0.cell 4
  have j0 := b1.cell 0
  have j1 := b1.cell 1
  have j2 := b1.cell 2
  have j3 := b1.cell 3
  have j4 := b1.cell 4
  have j5 := b1.cell 5
  have j6 := b1.cell 6
  have j7 := b1.cell 7
  simp only [List.getElem?_cons_zero, List.getElem?_cons_succ] at k0 k1 k2 k3 k4 j0 j1 j2 j3 j4 j5 j6 j7
  clear b0 b1 hb
  go_wp2_with fail
  refine (cond_holds w1 b nt A A' iA fA tA FA TA n cc n' c' il ic fl fcc tl tcc k s mm i v u f t l.toNat m fn fc tn tc (L.map (·.1)) (L.map (·.2)) (HOP.out.below HB.out (Nat.le_refl _)) h63 h40 (HFI.out.below HB.out (Nat.le_refl _)) (HTI.out.below HB.out (Nat.le_refl _)) (by simp) (by simp; omega) (by omega)
    (fun x hx => by obtain ⟨e, he, rfl⟩ := List.mem_map.1 hx; have := HL.out e he; omega) (fun x hx => by obtain ⟨e, he, rfl⟩ := List.mem_map.1 hx; have := HL.out e he; omega)).mono ?_
  rintro e w2 ⟨rfl, hb2⟩
  have HB2 := Lib.hid (HB.out.trans (hb2.mono HB.out.size))
  clear hb2 k0 k1 k2 k3 k4 j0 j1 j2 j3 j4 j5 j6 j7
  rw [HQ.out]
  dsimp only
  go_wp2_with fail
  go_ret
  exact ⟨rfl, HB2.out⟩
end Go.Proofs.YtdgleeglndcjhaaGreatDoor
