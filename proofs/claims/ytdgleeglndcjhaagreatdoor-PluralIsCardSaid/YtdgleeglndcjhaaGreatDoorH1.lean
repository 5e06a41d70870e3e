/- Package rule: Cond.holds. -/
import Derived.Test.YtdgleeglndcjhaaGreatDoorO2
import Derived.Deep.CutBlock
import Derived.Test.YtdgleeglndcjhaaGreatDoorD
import Derived.Test.YtdgleeglndcjhaaGreatDoorT
import Derived.Test.YtdgleeglndcjhaaGreatDoorPl
namespace Go.Proofs.YtdgleeglndcjhaaGreatDoor
open Go.RowKit
set_option linter.unusedVariables false
set_option linter.unusedSimpArgs false

/-- The slice holds these whole numbers. -/
def IL (w : World) (A : Option Addr) (n c : Nat) (l : List Nat) : Prop := SlC w (.slice A n c) 1 l.length (l.map fun x : Nat => Value.int .i64 (x : Int))
theorem IL.below {w w' : World} {A : Option Addr} {n c B : Nat} {l : List Nat} (h : IL w A n c l) (hb : Below B w w') (hB : w.heap.size ≤ B) : IL w' A n c l := SlC.below h hb hB
theorem IL.len {w : World} {A : Option Addr} {n c : Nat} {l : List Nat} (h : IL w A n c l) : n = l.length := by
  obtain ⟨A', c', h1, -⟩ := h
  exact (Value.slice.inj h1).2.1
theorem IL.at {w : World} {A : Option Addr} {n c : Nat} {l : List Nat} (h : IL w A n c l) (h0 : 0 < l.length) : ∃ b o, A = some ⟨b, o, none⟩ ∧ ∀ (j x : Nat), l[j]? = some x → w.cell? ⟨b, o + j, none⟩ = some (.int .i64 (x : Int)) := by
  obtain ⟨A', c', h1, h2, h3, h4⟩ := h
  obtain ⟨b, o, h5, h6⟩ := h4 (by simpa using h0)
  obtain ⟨rfl, -, -⟩ := Value.slice.inj h1
  exact ⟨b, o, h5, fun j x hx => h6 j _ (by simp [hx])⟩
/-- Is it in one of the entries? -/
def anyE (P q : Nat) (L : List (Nat × Nat)) : Bool := L.any fun e => decide (e.1 * q ≤ P) && decide (P ≤ e.2 * q)
theorem anyE_next {P q k f t : Nat} {fs ts : List Nat} (hf : fs[k]? = some f) (ht : ts[k]? = some t) : anyE P q ((fs.zip ts).take (k + 1)) = (anyE P q ((fs.zip ts).take k) || (decide (f * q ≤ P) && decide (P ≤ t * q))) := by
  have h : (fs.zip ts)[k]? = some (f, t) := by rw [List.getElem?_zip_eq_some]; exact ⟨hf, ht⟩
  rw [List.take_add_one, h]
  simp [anyE]
theorem sign_le {x : Int} : (x.sign ≤ 0) ↔ x ≤ 0 := by
  rcases Int.lt_trichotomy x 0 with h | h | h
  · rw [Int.sign_eq_neg_one_of_neg h]; omega
  · subst h; simp
  · rw [Int.sign_eq_one_of_pos h]; omega
theorem sign_low (f P q : Nat) : decide (((f : Int) * (q : Int) + -(P : Int) * ((1 : Nat) : Int)).sign ≤ 0) = decide (f * q ≤ P) := by
  rw [decide_eq_decide, sign_le]
  have : (f : Int) * (q : Int) = ((f * q : Nat) : Int) := by push_cast; rfl
  omega
theorem sign_high (t P q : Nat) : decide (((P : Int) * ((1 : Nat) : Int) + -(t : Int) * (q : Int)).sign ≤ 0) = decide (P ≤ t * q) := by
  rw [decide_eq_decide, sign_le, Int.neg_mul]
  have : (t : Int) * (q : Int) = ((t * q : Nat) : Int) := by push_cast; rfl
  omega
theorem RF.floor_lt {w : World} {b : Bool} {A A' : Option Addr} {n c n' c' : Nat} {p q k : Nat} (h : RF w b A n c A' n' c' p q k) : p / q < 2 ^ k := by
  obtain ⟨p', q', h1, h2, h3, h4, h5, h6, h7⟩ := h.ex
  obtain ⟨e0, e33⟩ := nat_terms h1 h2 h3
  rw [← floor_terms h1 h2 e33]
  exact Nat.lt_of_le_of_lt (Nat.div_le_self _ _) h6
theorem RF.to {w : World} {b : Bool} {A A' : Option Addr} {n c n' c' : Nat} {p r : Int} {q s k : Nat} (h : RF w b A n c A' n' c' p q k) (hp : p = r) (hq : q = s) : RF w b A n c A' n' c' r s k := by subst hp; subst hq; exact h
theorem mod_terms (p q m : Nat) : (p : Int) * ((1 * 1 : Nat) : Int) + (-(((p / (q * m) : Nat) : Int) * (m : Int))) * (q : Int) = ((p % (q * m) : Nat) : Int) := by
  have h := Nat.div_add_mod p (q * m)
  have h2 : ((q * m * (p / (q * m)) + p % (q * m) : Nat) : Int) = (p : Int) := by rw [h]
  push_cast at h2 ⊢
  generalize ((p : Int) / ((q : Int) * (m : Int))) = x at *
  generalize ((p : Int) % ((q : Int) * (m : Int))) = y at *
  grind

/-- The condition and what it is asked of lie in their blocks, and a fraction in block g. -/
def AtX (W : World) (B g : Nat) (p q k : Nat) (w : World) : Prop := ∃ b A n c A' n' c', B ≤ g ∧ Blk w g 37 [.bool b, .slice A n c, .slice A' n' c'] ∧ RF w b A n c A' n' c' p q k ∧ Below W.heap.size W w

def CondAt (W : World) (g : Nat) (cs : List Value) (p q k : Nat) (w : World) : Prop := Blk w W.heap.size 47 cs ∧ ∃ b A n c A' n' c', Blk w g 37 [.bool b, .slice A n c, .slice A' n' c'] ∧ RF w b A n c A' n' c' p q k ∧ Below W.heap.size W w
set_option maxRecDepth 100000 in
set_option maxHeartbeats 8000000 in
theorem cond_holds (w : World) (b nt : Bool) (A A' iA fA tA frA toA : Option Addr) (n c n' c' il ic fl fc tl tc k s m i v u f t l mod frn frc ton toc : Nat) (fs ts : List Nat) (h : OpR w b A n c A' n' c' iA il ic fA fl fc tA tl tc k s m i v u f t) (hm : 63 ≤ m) (hm2 : m ≤ 40000)
    (hfr : IL w frA frn frc fs) (hto : IL w toA ton toc ts) (hl : fs.length = ts.length) (hl2 : fs.length ≤ 1000000000) (hmod : mod < 4294967296) (hf : ∀ x ∈ fs, x < 4294967296) (ht : ∀ x ∈ ts, x < 4294967296) :
    Calls Tryz.prog 57 #[.agg #[.int .u8 l, .int .i64 mod, .bool nt, .slice frA frn frc, .slice toA ton toc], .agg #[.bool b, .slice A n c, .slice A' n' c', .slice iA il ic, .int .i64 v, .int .i64 u, .slice fA fl fc, .slice tA tl tc]] w fun e w' => e = .returned (.bool (condHolds (opVal k s i v u f t l).1 (opVal k s i v u f t l).2 mod nt (fs.zip ts))) ∧ Below w.heap.size w w' := by
  have HX := Lib.hid h
  have HM := Lib.hid hm
  have HM2 := Lib.hid hm2
  have HFR := Lib.hid hfr
  have HTO := Lib.hid hto
  have HL := Lib.hid hl
  have HL2 := Lib.hid hl2
  have HMOD := Lib.hid hmod
  have HFB := Lib.hid hf
  have HTB := Lib.hid ht
  clear h hm hm2 hfr hto hl hl2 hmod hf ht
  go_enter Tryz.func57, Tryz.ntmps57
  go_upto_region 1 with fail
  refine wp_letter (fun w1 => Blk w1 w.heap.size 47 [.int .u8 l, .int .i64 mod, .bool nt, .slice frA frn frc, .slice toA ton toc] ∧ Blk w1 (w.heap.size + 1) 39 [.bool b, .slice A n c, .slice A' n' c', .slice iA il ic, .int .i64 v, .int .i64 u, .slice fA fl fc, .slice tA tl tc] ∧ Below w.heap.size w w1) ⟨((Blk.made _ 47 _ _ _ (by simp) rfl).alloc _), (Blk.made _ 39 _ _ _ (by simp) rfl), (((Below.refl _ _).alloc (by simp; try omega) _).alloc (by simp; try omega) _)⟩ ?_
  rintro w1 ⟨b0, b1, hb⟩
  have k00 := b0.cell 0
  have k01 := b0.cell 1
  have k02 := b0.cell 2
  have k03 := b0.cell 3
  have k04 := b0.cell 4
  have k10 := b1.cell 0
  have k11 := b1.cell 1
  have k12 := b1.cell 2
  have k13 := b1.cell 3
  have k14 := b1.cell 4
  have k15 := b1.cell 5
  have k16 := b1.cell 6
  have k17 := b1.cell 7
  simp only [List.getElem?_cons_zero, List.getElem?_cons_succ] at k00 k01 k02 k03 k04 k10 k11 k12 k13 k14 k15 k16 k17
  have HB := Lib.hid hb
  have H0 := Lib.hid b0
  have H1 := Lib.hid b1
  have hz := b1.lt
  clear hb b0 b1
  have HX1 := Lib.hid (HX.out.below HB.out (Nat.le_refl _))
  go_wp2_with fail
  refine (oper_Value _ b A A' iA fA tA n c n' c' il ic fl fc tl tc k s m i v u f t l HX1.out HM.out (by have := HM2.out; omega)).mono ?_
  rintro e w2 ⟨⟨b2, A2, n2, c2, A3, n3, c3, ok, rfl, hr⟩, hb2⟩
  obtain ⟨p, hp⟩ : ∃ p, (opVal k s i v u f t l).1 = p := ⟨_, rfl⟩
  obtain ⟨q, hq⟩ : ∃ q, (opVal k s i v u f t l).2 = q := ⟨_, rfl⟩
  rw [hp, hq] at hr
  have HPV := Lib.hid hp
  have HQV := Lib.hid hq
  clear hp hq
  dsimp only
  go_upto_region 2 with fail
  generalize hg : w2.heap.size = g
  refine wp_letter (fun w3 => Blk w3 w.heap.size 47 [.int .u8 l, .int .i64 mod, .bool nt, .slice frA frn frc, .slice toA ton toc] ∧ Blk w3 g 37 [.bool b2, .slice A2 n2 c2, .slice A3 n3 c3] ∧ RF w3 b2 A2 n2 c2 A3 n3 c3 p q m ∧ Below w.heap.size w w3)
    ⟨(H0.out.below hb2 H0.out.lt).alloc _, Blk.made _ 37 _ _ _ hg.symm rfl, hr.below ((Below.refl _ _).alloc (Nat.le_refl _) _) (Nat.le_refl _), (HB.out.trans (hb2.mono HB.out.size)).alloc (by have := hb2.size; omega) _⟩ ?_
  have hgn : w.heap.size + 1 < g := by have := hb2.size; omega
  clear k00 k01 k02 k03 k04 k10 k11 k12 k13 k14 k15 k16 k17 hr hb2 hg HX1 H0 H1 HB hz HX
  rintro w3 ⟨b0, b5, r5, hb3⟩
  have C0 := Lib.hid b0
  have C5 := Lib.hid b5
  have R5 := Lib.hid r5
  have HB3 := Lib.hid hb3
  have k0 := b0.cell 0
  have k1 := b0.cell 1
  have k5 := b5.cell 0
  have k6 := b5.cell 1
  have k7 := b5.cell 2
  simp only [List.getElem?_cons_zero, List.getElem?_cons_succ] at k0 k1 k5 k6 k7
  clear b0 b5 r5 hb3
  go_upto_if 26 with fail
  go_cut [] (fun wx => CondAt w g [.int .u8 l, .int .i64 mod, .bool nt, .slice frA frn frc, .slice toA ton toc] (if 0 < mod then p % (q * mod) else p) q (2 * m + 400) wx)
  case first =>
    by_cases hm0 : 0 < mod
    · have HM0 := Lib.hid hm0
      have hmI : (0 : Int) < (mod : Int) := by omega
      clear hm0
      go_wp2_with fail
      refine (rat_Int _ mod (by have := HMOD.out; omega)).mono ?_
      rintro e w4 ⟨⟨b4, A4, n4, c4, B4, m4, d4, rfl, r4⟩, hb4⟩
      dsimp only
      go_wp2_with fail
      refine (rat_Inv _ b4 A4 B4 n4 c4 m4 d4 mod 1 63 r4 (by omega) HM0.out).mono ?_
      rintro e w5 ⟨⟨b5, A5, n5, c5, B5, m5, d5, rfl, r5⟩, hb5⟩
      have hz5 : w3.heap.size ≤ w5.heap.size := Nat.le_trans hb4.size hb5.size
      have y5 := ((C5.out.below hb4 C5.out.lt).below hb5 (Nat.lt_of_lt_of_le C5.out.lt hb4.size)).alloc (.cells #[.bool b5, .slice A5 n5 c5, .slice B5 m5 d5] 37)
      have t0 := y5.cell 0
      have t1 := y5.cell 1
      have t2 := y5.cell 2
      simp only [List.getElem?_cons_zero, List.getElem?_cons_succ] at t0 t1 t2
      dsimp only
      go_wp2_with fail
      have hba : Below w5.heap.size w5 (w5.alloc (.cells #[.bool b5, .slice A5 n5 c5, .slice B5 m5 d5] 37)) := (Below.refl _ _).alloc (Nat.le_refl _) _
      have h35 : Below w3.heap.size w3 w5 := hb4.trans (hb5.mono hb4.size)
      have h36 := Lib.hid (h35.trans (hba.mono h35.size))
      have r6 := r5.below hba (Nat.le_refl _)
      refine (rat_Mul _ b2 b5 A2 A3 A5 B5 n2 c2 n3 c3 n5 c5 m5 d5 p ((1 : Nat) : Int) q mod m 63 (R5.out.below h36.out (Nat.le_refl _)) r6 (by have := HM2.out; omega) (by omega)).mono ?_
      rintro e w6 ⟨⟨b6, A6, n6, c6, B6, m6, d6, rfl, r7⟩, hb6⟩
      have R7 := Lib.hid (r7.to (r := (p : Int)) (s := q * mod) (by simp) rfl)
      have FL := Lib.hid (RF.floor_lt (p := p) R7.out)
      clear t0 t1 t2 r7
      dsimp only
      go_wp2_with fail
      refine (rat_Floor _ b6 A6 B6 n6 c6 m6 d6 p (q * mod) (m + 63) R7.out (by have := HM2.out; omega)).mono ?_
      rintro e w7 ⟨⟨b7, A7, n7, c7, rfl, r7⟩, hb7⟩
      dsimp only
      go_wp2_with fail
      refine (natOf _ 1 (by omega)).mono ?_
      rintro e w8 ⟨⟨A8, n8, c8, rfl, r8⟩, hb8⟩
      dsimp only
      go_wp2_with fail
      refine (rat_Of _ b7 A7 A8 n7 c7 n8 c8 ((p / (q * mod) : Nat) : Int) 1 (m + 63) (r7.below hb8 (Nat.le_refl _)) r8 (by omega) (by rw [Int.natAbs_natCast]; exact FL.out) (Nat.one_lt_two_pow (by omega)) (by have := HM2.out; omega)).mono ?_
      rintro e w9 ⟨⟨b9, A9, n9, c9, B9, m9, d9, rfl, r9⟩, hb9⟩
      dsimp only
      go_wp2_with fail
      generalize hg9 : w9.heap.size = g9
      have h39 : Below w3.heap.size w3 w9 := ((((h36.out.trans (hb6.mono h36.out.size)).trans (hb7.mono (Nat.le_trans h36.out.size hb6.size))).trans (hb8.mono (Nat.le_trans h36.out.size (Nat.le_trans hb6.size hb7.size)))).trans (hb9.mono (Nat.le_trans h36.out.size (Nat.le_trans hb6.size (Nat.le_trans hb7.size hb8.size)))))
      have hbz : Below w9.heap.size w9 (w9.alloc (.cells #[.bool b9, .slice A9 n9 c9, .slice B9 m9 d9] 37)) := (Below.refl _ _).alloc (Nat.le_refl _) _
      have h3z := h39.trans (hbz.mono h39.size)
      refine wp_letter (fun wa => Blk wa w.heap.size 47 [.int .u8 l, .int .i64 mod, .bool nt, .slice frA frn frc, .slice toA ton toc] ∧ Blk wa g 37 [.bool b2, .slice A2 n2 c2, .slice A3 n3 c3] ∧ Blk wa g9 37 [.bool b9, .slice A9 n9 c9, .slice B9 m9 d9] ∧ RF wa b2 A2 n2 c2 A3 n3 c3 p q m ∧ RF wa b9 A9 n9 c9 B9 m9 d9 ((p / (q * mod) : Nat) : Int) 1 (m + 63) ∧ Below w.heap.size w wa)
        ⟨C0.out.below h3z C0.out.lt, C5.out.below h3z C5.out.lt, Blk.made _ 37 _ _ _ hg9.symm rfl, R5.out.below h3z (Nat.le_refl _), r9.below hbz (Nat.le_refl _), HB3.out.trans (h3z.mono HB3.out.size)⟩ ?_
      have hg9' : g < g9 := by have := C5.out.lt; have := h39.size; omega
      clear hbz h3z h39 hg9 r9 hb9 r8 hb8 r7 hb7 hb6 R7 FL r6 h36 h35 hba y5 hz5 r5 hb5 r4 hb4 k0 k1 k5 k6 k7 C0 C5 R5 HB3
      rintro wa ⟨b0, bg, bg9, ra, r9, hba⟩
      have G0 := Lib.hid b0
      have G5 := Lib.hid bg
      have G9 := Lib.hid bg9
      have RA := Lib.hid ra
      have R9 := Lib.hid r9
      have HBA := Lib.hid hba
      have hza := bg9.lt
      clear b0 bg bg9 ra r9 hba
      have HF : Hid (∀ w', Below wa.heap.size wa w' → w'.cell? ⟨w.heap.size, 1, none⟩ = some (.int .i64 mod) ∧ w'.cell? ⟨g, 0, none⟩ = some (.bool b2) ∧ w'.cell? ⟨g, 1, none⟩ = some (.slice A2 n2 c2) ∧ w'.cell? ⟨g, 2, none⟩ = some (.slice A3 n3 c3) ∧ w'.cell? ⟨g9, 0, none⟩ = some (.bool b9) ∧ w'.cell? ⟨g9, 1, none⟩ = some (.slice A9 n9 c9) ∧ w'.cell? ⟨g9, 2, none⟩ = some (.slice B9 m9 d9) ∧ w'.frozen? ⟨g, 0, none⟩ = false ∧ w'.frozen? ⟨g, 1, none⟩ = false ∧ w'.frozen? ⟨g, 2, none⟩ = false) := fun w' h => ⟨(h.cell (by simp; omega)).trans (G0.out.cell 1), (h.cell (by simp; omega)).trans (G5.out.cell 0), (h.cell (by simp; omega)).trans (G5.out.cell 1), (h.cell (by simp; omega)).trans (G5.out.cell 2), (h.cell (by simp; omega)).trans (G9.out.cell 0), (h.cell (by simp; omega)).trans (G9.out.cell 1), (h.cell (by simp; omega)).trans (G9.out.cell 2), (h.frozen (by simp; omega)).trans (G5.out.frozen 0), (h.frozen (by simp; omega)).trans (G5.out.frozen 1), (h.frozen (by simp; omega)).trans (G5.out.frozen 2)⟩
      obtain ⟨k1, t50, t51, t52, t90, t91, t92, x0, x1, x2⟩ := HF.out wa (Below.refl _ _)
      clear k1 t50 t51 t52 t90 t91 t92 x0 x1 x2
      refine wp_region_but (fun w' => Below wa.heap.size wa w') (by kernel_rfl) (by kernel_rfl) (Below.refl _ _).drew (fun hHeld => ?_)
      simp only [initL, lastL]
      refine takeL (i := 0) (v := ?v85) rfl (by kernel_rfl) (by kernel_rfl) (by kernel_rfl) (fun _ _ _ h => h) (Or.inl ⟨by rfl, ?hy85⟩) (by assumption) ?rest85
      case hy85 => (intro wz hSz; (have hfz := HF.out wz hSz); go_split_ands; (first | (go_simp; done) | (go_simp; with_reducible rfl)))
      try simp only [Act.put, List.setIfInBounds_toArray, List.set_cons_zero, List.set_cons_succ]
      refine takeL (i := 1) (v := ?v86) rfl (by kernel_rfl) (by kernel_rfl) (by kernel_rfl) (fun _ _ _ h => h) (Or.inl ⟨by rfl, ?hy86⟩) (by assumption) ?rest86
      case hy86 => (intro wz hSz; (have hfz := HF.out wz hSz); go_split_ands; (first | (go_simp; done) | (go_simp; with_reducible rfl)))
      try simp only [Act.put, List.setIfInBounds_toArray, List.set_cons_zero, List.set_cons_succ]
      refine takeL (i := 2) (v := ?v87) rfl (by kernel_rfl) (by kernel_rfl) (by kernel_rfl) (fun _ _ _ h => h) (Or.inl ⟨by rfl, ?hy87⟩) (by assumption) ?rest87
      case hy87 => (intro wz hSz; (have hfz := HF.out wz hSz); go_split_ands; (first | (go_simp; done) | (go_simp; with_reducible rfl)))
      try simp only [Act.put, List.setIfInBounds_toArray, List.set_cons_zero, List.set_cons_succ]
      refine takeL (i := 3) (v := ?v88) rfl (by kernel_rfl) (by kernel_rfl) (by kernel_rfl) (fun _ _ _ h => h) (Or.inl ⟨by rfl, ?hy88⟩) (by assumption) ?rest88
      case hy88 => (intro wz hSz; (have hfz := HF.out wz hSz); go_split_ands; (first | (go_simp; done) | (go_simp; with_reducible rfl)))
      try simp only [Act.put, List.setIfInBounds_toArray, List.set_cons_zero, List.set_cons_succ]
      refine wpAnyH_ready (rs := [4]) (by kernel_rfl) (by simp) ?_
      refine consL rfl (fun K hK => ?_) AllReadyH.nil
      go_simp
      refine (rat_Int _ mod (by have := HMOD.out; omega)).mono ?_
      rintro e wb ⟨⟨bb, Ab, nb, cb, Bb, mb, db, rfl, rb⟩, hbb⟩
      have Hb := Lib.hid (below_on (Below.refl wa.heap.size wa).drew (Nat.le_refl _) hbb)
      have RB := Lib.hid rb
      clear rb hbb
      dsimp only
      refine hK.out _ _ Hb.out (fun hHeld => ?_)
      clear hK K
      try simp only [Act.put, List.setIfInBounds_toArray, List.set_cons_zero, List.set_cons_succ]
      refine wpAnyH_ready (rs := [5]) (by kernel_rfl) (by simp) ?_
      refine consL rfl (fun K hK => ?_) AllReadyH.nil
      go_simp
      refine (rat_Mul _ b9 bb A9 B9 Ab Bb n9 c9 m9 d9 nb cb mb db ((p / (q * mod) : Nat) : Int) (mod : Int) 1 1 (m + 63) 63 (R9.out.below Hb.out (Nat.le_refl _)) RB.out (by have := HM2.out; omega) (by omega)).mono ?_
      rintro e wc ⟨⟨bc, Ac, nc, cc, Bc, mc, dc, rfl, rc⟩, hbc⟩
      have Hc := Lib.hid (below_on Hb.out (Nat.le_refl _) hbc)
      have RC := Lib.hid rc
      clear rc hbc
      dsimp only
      refine hK.out _ _ Hc.out (fun hHeld => ?_)
      clear hK K
      try simp only [Act.put, List.setIfInBounds_toArray, List.set_cons_zero, List.set_cons_succ]
      refine wpAnyH_ready (rs := [6]) (by kernel_rfl) (by simp) ?_
      refine consL rfl (fun K hK => ?_) AllReadyH.nil
      go_simp
      refine (rat_Neg _ bc Ac Bc nc cc mc dc _ _ _ RC.out (by have := HM2.out; omega)).mono ?_
      rintro e wd ⟨⟨bd, Ad, nd, cd, Bd, md, dd, rfl, rd⟩, hbd⟩
      have Hd := Lib.hid (below_on Hc.out (Nat.le_refl _) hbd)
      have RD := Lib.hid rd
      clear rd hbd
      dsimp only
      refine hK.out _ _ Hd.out (fun hHeld => ?_)
      clear hK K
      try simp only [Act.put, List.setIfInBounds_toArray, List.set_cons_zero, List.set_cons_succ]
      refine wpAnyH_ready (rs := [7]) (by kernel_rfl) (by simp) ?_
      refine consL rfl (fun K hK => ?_) AllReadyH.nil
      go_simp
      refine (rat_Add _ b2 bd A2 A3 Ad Bd n2 c2 n3 c3 nd cd md dd p _ q _ m _ (RA.out.below Hd.out (Nat.le_refl _)) RD.out (by have := HM2.out; omega) (by have := HM2.out; omega)).mono ?_
      rintro e we ⟨⟨be, Ae, ne, ce, Be, me, de, rfl, re⟩, hbe⟩
      have He := Lib.hid (below_on Hd.out (Nat.le_refl _) hbe)
      have RE := Lib.hid re
      clear re hbe
      dsimp only
      refine hK.out _ _ He.out (fun hHeld => ?_)
      clear hK K
      try simp only [Act.put, List.setIfInBounds_toArray, List.set_cons_zero, List.set_cons_succ]
      refine wpAnyH_done (by kernel_rfl) ?_ _
      unfold TailQ

      obtain ⟨k1, t50, t51, t52, t90, t91, t92, x0, x1, x2⟩ := HF.out _ He.out
      have y0 := G0.out.below He.out G0.out.lt
      have y5 := G5.out.below He.out G5.out.lt
      have hd : Hold we g 37 3 we := Hold.start y5 (by simp [No32])
      have hf := hd.fill3 (.bool be) (.slice Ae ne ce) (.slice Be me de)
      have T : ∀ {A0 : Option Addr} {m0 c0 k0 : Nat}, SN we A0 m0 c0 k0 → SN (((we.setCell ⟨g, 0, none⟩ (.bool be)).setCell ⟨g, 1, none⟩ (.slice Ae ne ce)).setCell ⟨g, 2, none⟩ (.slice Be me de)) A0 m0 c0 k0 := fun hs => ((hs.hset hd 0 (.bool be)).hset (hd.set 0 (.bool be) (by simp)) 1 (.slice Ae ne ce)).hset ((hd.set 0 (.bool be) (by simp)).set 1 (.slice Ae ne ce) (by simp)) 2 (.slice Be me de)
      have hw := (((hd.set 0 (.bool be) (by simp)).set 1 (.slice Ae ne ce) (by simp)).set 2 (.slice Be me de) (by simp)).below (Nat.le_of_lt (Nat.lt_trans (Nat.lt_succ_self _) hgn))
      have y1 := ((y0.far ⟨g, 0, none⟩ (.bool be) (by simp; omega)).far ⟨g, 1, none⟩ (.slice Ae ne ce) (by simp; omega)).far ⟨g, 2, none⟩ (.slice Be me de) (by simp; omega)
      have hr := ((RE.out.to (s := q) (mod_terms p q mod) (by simp)).map T).mono (m := 2 * m + 400) (by omega)
      go_wp2_with fail
      go_meet
      rw [if_pos HM0.out]
      exact ⟨y1, _, _, _, _, _, _, _, hf, hr, (HBA.out.trans (He.out.mono HBA.out.size)).trans hw⟩
    · have hmI : ¬ (0 : Int) < (mod : Int) := by omega
      have HM0 := Lib.hid hm0
      clear hm0
      go_wp2_with fail
      go_meet
      rw [if_neg HM0.out]
      exact ⟨C0.out, _, _, _, _, _, _, _, C5.out, R5.out.mono (by omega), HB3.out⟩
  case rest =>
    obtain ⟨P, hP⟩ : ∃ P : Nat, P = (if 0 < mod then p % (q * mod) else p) := ⟨_, rfl⟩
    have HP := Lib.hid hP
    rw [← hP] at hcut
    clear hP C0 C5 R5 HB3 k0 k1 k5 k6 k7
    obtain ⟨d0, b3, A3', n3', c3', B3, m3, d3, d5, r3, hb3⟩ := hcut
    have D0 := Lib.hid d0
    have D5 := Lib.hid d5
    have R3 := Lib.hid r3
    have HB3 := Lib.hid hb3
    have k5 := d5.cell 0
    have k6 := d5.cell 1
    have k7 := d5.cell 2
    simp only [List.getElem?_cons_zero, List.getElem?_cons_succ] at k5 k6 k7
    clear d0 d5 r3 hb3
    go_step
    go_wp2_with fail
    refine (rat_Floor _ b3 A3' B3 n3' c3' m3 d3 P q (2 * m + 400) R3.out (by have := HM2.out; omega)).mono ?_
    rintro e w4 ⟨⟨b4, A4, n4, c4, rfl, r4⟩, hb4⟩
    dsimp only
    go_upto_region 7 with fail
    generalize hg11 : w4.heap.size = g11
    have hx4 : g < w4.heap.size := Nat.lt_of_lt_of_le D5.out.lt hb4.size
    refine wp_letter (fun w5 => Blk w5 w.heap.size 47 [.int .u8 l, .int .i64 mod, .bool nt, .slice frA frn frc, .slice toA ton toc] ∧ Blk w5 g 37 [.bool b3, .slice A3' n3' c3', .slice B3 m3 d3] ∧ Blk w5 g11 35 [.bool b4, .slice A4 n4 c4] ∧ RF w5 b3 A3' n3' c3' B3 m3 d3 P q (2 * m + 400) ∧ RZ w5 b4 A4 n4 c4 ((P / q : Nat) : Int) ∧ Below w.heap.size w w5)
      ⟨(D0.out.below hb4 D0.out.lt).alloc _, (D5.out.below hb4 D5.out.lt).alloc _, Blk.made _ 35 _ _ _ hg11.symm rfl, (R3.out.below hb4 (Nat.le_refl _)).below ((Below.refl _ _).alloc (Nat.le_refl _) _) (Nat.le_refl _), r4.below ((Below.refl _ _).alloc (Nat.le_refl _) _) (Nat.le_refl _), (HB3.out.trans (hb4.mono HB3.out.size)).alloc (Nat.le_trans HB3.out.size hb4.size) _⟩ ?_
    have hgg : g < g11 := by omega
    clear k5 k6 k7 r4 hb4 hg11 D0 D5 R3 HB3 hx4
    rintro w5 ⟨d0, d5, d11, r3, r4, hb5⟩
    have D0 := Lib.hid d0
    have D5 := Lib.hid d5
    have D11 := Lib.hid d11
    have R3 := Lib.hid r3
    have R4 := Lib.hid r4
    have HB5 := Lib.hid hb5
    have FL : Hid (P / q < 2 ^ (2 * m + 400)) := RF.floor_lt r3
    have hz5 := d11.lt
    clear d0 d5 d11 r3 r4 hb5
    have HF : Hid (∀ w', Below w5.heap.size w5 w' → w'.cell? ⟨g11, 0, none⟩ = some (.bool b4) ∧ w'.cell? ⟨g11, 1, none⟩ = some (.slice A4 n4 c4)) := fun w' h => ⟨(h.cell (by simp; omega)).trans (D11.out.cell 0), (h.cell (by simp; omega)).trans (D11.out.cell 1)⟩
    go_cut [12] (fun s12 wx => ∃ g12, s12 = .pointer (some ⟨g12, 0, none⟩) ∧ TookQ w5 g12 ((P / q : Nat) : Int) 1 (2 * m + 400) wx)
    case first =>
      refine wp_region_held_drew (S := fun w' => Below w5.heap.size w5 w') (by kernel_rfl) (Below.refl _ _).drew (fun hHeld => ?_)
      refine wpAnyH_letter (fun w' => Below w5.heap.size w5 w') hHeld ?_
      rintro w6 hb6
      have HB6 := Lib.hid hb6
      clear hb6 hHeld
      refine takeL (i := 0) (v := ?v1) rfl (by kernel_rfl) (by kernel_rfl) (by kernel_rfl) (fun _ _ _ h => h) (Or.inl ⟨by rfl, ?hy1⟩) (by assumption) ?rest1
      case hy1 => (intro wz hSz; (have hfz := HF.out wz hSz); go_split_ands; (first | (go_simp; done) | (go_simp; with_reducible rfl)))
      try simp only [Act.put, List.setIfInBounds_toArray, List.set_cons_zero, List.set_cons_succ]
      refine wpAnyH_ready (rs := [1, 6]) (by kernel_rfl) (by simp) ?_
      refine consL rfl (fun K hK => ?_) ?_
      · skip
        go_simp
        refine (natOf _ 1 (by omega)).mono ?_
        rintro e w102 ⟨⟨A2, n2, c2, rfl, r⟩, hb⟩
        have HB2 := Lib.hid (below_on HB6.out (Nat.le_refl _) hb)
        have RN2 := Lib.hid r
        clear r hb
        dsimp only
        try clear hHeld
        refine hK.out _ _ (HB2.out) (fun hHeld => ?_)
        clear hK K
        try simp only [Act.put, List.setIfInBounds_toArray, List.set_cons_zero, List.set_cons_succ]
        refine wpAnyH_ready (rs := [2, 6]) (by kernel_rfl) (by simp) ?_
        refine consL rfl (fun K hK => ?_) ?_
        · skip
          go_simp
          refine (rat_Of _ b4 A4 A2 n4 c4 n2 c2 ((P / q : Nat) : Int) 1 (2 * m + 400) (R4.out.below HB2.out (Nat.le_refl _)) RN2.out (by omega) (by rw [Int.natAbs_natCast]; exact FL.out) (Nat.one_lt_two_pow (by omega)) (by have := HM2.out; omega)).mono ?_
          rintro e w103 ⟨⟨b3, A3, n3, c3, B3, m3, d3, rfl, r⟩, hb⟩
          have HB3 := Lib.hid (below_on HB2.out (Nat.le_refl _) hb)
          have RQ3 := Lib.hid r
          clear r hb
          dsimp only
          try clear hHeld
          refine hK.out _ _ (HB3.out) (fun hHeld => ?_)
          clear hK K
          try simp only [Act.put, List.setIfInBounds_toArray, List.set_cons_zero, List.set_cons_succ]
          refine takeL (i := 3) (v := ?v4) rfl (by kernel_rfl) (by kernel_rfl) (by kernel_rfl) (fun _ _ _ h => h) (Or.inl ⟨by rfl, ?hy4⟩) (by assumption) ?rest4
          case hy4 => (intro wz hSz; (have hfz := HF.out wz hSz); go_split_ands; (first | (go_simp; done) | (go_simp; with_reducible rfl)))
          try simp only [Act.put, List.setIfInBounds_toArray, List.set_cons_zero, List.set_cons_succ]
          refine takeL (i := 4) (v := ?v5) rfl (by kernel_rfl) (by kernel_rfl) (by kernel_rfl) (fun _ _ _ h => h) (Or.inl ⟨by rfl, ?hy5⟩) (by assumption) ?rest5
          case hy5 => (intro wz hSz; (have hfz := HF.out wz hSz); go_split_ands; (first | (go_simp; done) | (go_simp; with_reducible rfl)))
          try simp only [Act.put, List.setIfInBounds_toArray, List.set_cons_zero, List.set_cons_succ]
          refine takeL (i := 5) (v := ?v6) rfl (by kernel_rfl) (by kernel_rfl) (by kernel_rfl) (fun _ _ _ h => h) (Or.inl ⟨by rfl, ?hy6⟩) (by assumption) ?rest6
          case hy6 => (intro wz hSz; (have hfz := HF.out wz hSz); go_split_ands; (first | (go_simp; done) | (go_simp; with_reducible rfl)))
          try simp only [Act.put, List.setIfInBounds_toArray, List.set_cons_zero, List.set_cons_succ]
          refine wpAnyH_ready (rs := [6]) (by kernel_rfl) (by simp) ?_
          refine consL rfl (fun K hK => ?_) AllReadyH.nil
          go_simp
          try clear hHeld
          refine hK.out _ _ (HB3.out.alloc HB3.out.size _) (fun hHeld => ?_)
          clear hK K
          try simp only [Act.put, List.setIfInBounds_toArray, List.set_cons_zero, List.set_cons_succ]
          generalize hg : w103.heap.size = g7
          have hge7 : w5.heap.size ≤ g7 := by have := HB3.out.size; omega
          refine wpAnyH_letter (fun wz => Blk wz g7 37 [.bool false, .slice none 0 0, .slice none 0 0] ∧ Below w5.heap.size w5 wz ∧ RF wz b3 A3 n3 c3 B3 m3 d3 ((P / q : Nat) : Int) 1 (2 * m + 400)) ⟨Blk.made _ 37 _ _ _ hg.symm rfl, HB3.out.alloc HB3.out.size _, RQ3.out.below ((Below.refl w103.heap.size w103).alloc (Nat.le_refl _) (.cells #[.bool false, .slice none 0 0, .slice none 0 0] 37)) (Nat.le_refl _)⟩ ?_
          clear hg
          rintro w107 ⟨x0, x1, x2⟩
          have D7 := Lib.hid x0
          have HB7 := Lib.hid x1
          have RQ7 := Lib.hid x2
          clear x0 x1 x2
          refine wpAnyH_ready (rs := [7]) (by kernel_rfl) (by simp) ?_
          refine consL rfl (fun K hK => ?_) AllReadyH.nil
          have k0 := D7.out.cell 0
          have k1 := D7.out.cell 1
          have k2 := D7.out.cell 2
          have f0 := D7.out.frozen 0
          have f1 := D7.out.frozen 1
          have f2 := D7.out.frozen 2
          simp only [List.getElem?_cons_zero, List.getElem?_cons_succ] at k0 k1 k2
          go_simp
          have hd : Hold w107 g7 37 3 w107 := Hold.start D7.out (by simp [No32])
          have hf := Lib.hid (hd.fill3 (.bool b3) (.slice A3 n3 c3) (.slice B3 m3 d3))
          have T : ∀ {A0 : Option Addr} {m0 c0 k0 : Nat}, SN w107 A0 m0 c0 k0 → SN (((w107.setCell ⟨g7, 0, none⟩ (.bool b3)).setCell ⟨g7, 1, none⟩ (.slice A3 n3 c3)).setCell ⟨g7, 2, none⟩ (.slice B3 m3 d3)) A0 m0 c0 k0 := fun hs => ((hs.hset hd 0 (.bool b3)).hset (hd.set 0 (.bool b3) (by simp)) 1 (.slice A3 n3 c3)).hset ((hd.set 0 (.bool b3) (by simp)).set 1 (.slice A3 n3 c3) (by simp)) 2 (.slice B3 m3 d3)
          have RM := Lib.hid (RQ7.out.map T)
          clear T hd
          clear k0 k1 k2 f0 f1 f2
          try clear hHeld
          refine hK.out _ _ (below_set (below_set (below_set HB7.out g7 0 hge7 _) g7 1 hge7 _) g7 2 hge7 _) (fun hHeld => ?_)
          clear hK K
          try simp only [Act.put, List.setIfInBounds_toArray, List.set_cons_zero, List.set_cons_succ]
          refine wpAnyH_letter (fun wz => Blk wz g7 37 [.bool b3, .slice A3 n3 c3, .slice B3 m3 d3] ∧ RF wz b3 A3 n3 c3 B3 m3 d3 ((P / q : Nat) : Int) 1 (2 * m + 400) ∧ Below w5.heap.size w5 wz) ⟨hf.out, RM.out, hHeld⟩ ?_
          clear hf RM hHeld
          rintro w108 ⟨x0, x1, x2⟩
          have D8 := Lib.hid x0
          have RQ8 := Lib.hid x1
          have HB8 := Lib.hid x2
          clear x0 x1 x2
          refine takeL (i := 8) (v := ?v9) rfl (by kernel_rfl) (by kernel_rfl) (by kernel_rfl) (fun _ _ _ h => h) (Or.inl ⟨by rfl, ?hy9⟩) (by assumption) ?rest9
          case hy9 => (intro wz hSz; (have hfz := HF.out wz hSz); go_split_ands; (first | (go_simp; done) | (go_simp; with_reducible rfl)))
          try simp only [Act.put, List.setIfInBounds_toArray, List.set_cons_zero, List.set_cons_succ]
          refine wpAnyH_done (by kernel_rfl) ?_ _
          go_wp2_with fail
          go_meet
          exact ⟨g7, rfl, _, _, _, _, _, _, _, hge7, D8.out, RQ8.out, HB8.out⟩
        refine consL rfl (fun K hK => ?_) AllReadyH.nil
        go_simp
        try clear hHeld
        refine hK.out _ _ (HB2.out.alloc HB2.out.size _) (fun hHeld => ?_)
        clear hK K
        try simp only [Act.put, List.setIfInBounds_toArray, List.set_cons_zero, List.set_cons_succ]
        generalize hg : w102.heap.size = g10
        have hge10 : w5.heap.size ≤ g10 := by have := HB2.out.size; omega
        refine wpAnyH_letter (fun wz => Blk wz g10 37 [.bool false, .slice none 0 0, .slice none 0 0] ∧ Below w5.heap.size w5 wz ∧ SN wz A2 n2 c2 1) ⟨Blk.made _ 37 _ _ _ hg.symm rfl, HB2.out.alloc HB2.out.size _, RN2.out.below ((Below.refl w102.heap.size w102).alloc (Nat.le_refl _) (.cells #[.bool false, .slice none 0 0, .slice none 0 0] 37)) (Nat.le_refl _)⟩ ?_
        clear hg
        rintro w110 ⟨x0, x1, x2⟩
        have D10 := Lib.hid x0
        have HB10 := Lib.hid x1
        have RN10 := Lib.hid x2
        clear x0 x1 x2
        refine wpAnyH_ready (rs := [2]) (by kernel_rfl) (by simp) ?_
        refine consL rfl (fun K hK => ?_) AllReadyH.nil
        go_simp
        refine (rat_Of _ b4 A4 A2 n4 c4 n2 c2 ((P / q : Nat) : Int) 1 (2 * m + 400) (R4.out.below HB10.out (Nat.le_refl _)) RN10.out (by omega) (by rw [Int.natAbs_natCast]; exact FL.out) (Nat.one_lt_two_pow (by omega)) (by have := HM2.out; omega)).mono ?_
        rintro e w111 ⟨⟨b11, A11, n11, c11, B11, m11, d11, rfl, r⟩, hb⟩
        have HB11 := Lib.hid (below_on HB10.out (Nat.le_refl _) hb)
        have RQ11 := Lib.hid r
        have D11 := Lib.hid (D10.out.below hb D10.out.lt)
        clear r hb
        dsimp only
        try clear hHeld
        refine hK.out _ _ (HB11.out) (fun hHeld => ?_)
        clear hK K
        try simp only [Act.put, List.setIfInBounds_toArray, List.set_cons_zero, List.set_cons_succ]
        refine takeL (i := 3) (v := ?v12) rfl (by kernel_rfl) (by kernel_rfl) (by kernel_rfl) (fun _ _ _ h => h) (Or.inl ⟨by rfl, ?hy12⟩) (by assumption) ?rest12
        case hy12 => (intro wz hSz; (have hfz := HF.out wz hSz); go_split_ands; (first | (go_simp; done) | (go_simp; with_reducible rfl)))
        try simp only [Act.put, List.setIfInBounds_toArray, List.set_cons_zero, List.set_cons_succ]
        refine takeL (i := 4) (v := ?v13) rfl (by kernel_rfl) (by kernel_rfl) (by kernel_rfl) (fun _ _ _ h => h) (Or.inl ⟨by rfl, ?hy13⟩) (by assumption) ?rest13
        case hy13 => (intro wz hSz; (have hfz := HF.out wz hSz); go_split_ands; (first | (go_simp; done) | (go_simp; with_reducible rfl)))
        try simp only [Act.put, List.setIfInBounds_toArray, List.set_cons_zero, List.set_cons_succ]
        refine takeL (i := 5) (v := ?v14) rfl (by kernel_rfl) (by kernel_rfl) (by kernel_rfl) (fun _ _ _ h => h) (Or.inl ⟨by rfl, ?hy14⟩) (by assumption) ?rest14
        case hy14 => (intro wz hSz; (have hfz := HF.out wz hSz); go_split_ands; (first | (go_simp; done) | (go_simp; with_reducible rfl)))
        try simp only [Act.put, List.setIfInBounds_toArray, List.set_cons_zero, List.set_cons_succ]
        refine wpAnyH_ready (rs := [7]) (by kernel_rfl) (by simp) ?_
        refine consL rfl (fun K hK => ?_) AllReadyH.nil
        have k0 := D11.out.cell 0
        have k1 := D11.out.cell 1
        have k2 := D11.out.cell 2
        have f0 := D11.out.frozen 0
        have f1 := D11.out.frozen 1
        have f2 := D11.out.frozen 2
        simp only [List.getElem?_cons_zero, List.getElem?_cons_succ] at k0 k1 k2
        go_simp
        have hd : Hold w111 g10 37 3 w111 := Hold.start D11.out (by simp [No32])
        have hf := Lib.hid (hd.fill3 (.bool b11) (.slice A11 n11 c11) (.slice B11 m11 d11))
        have T : ∀ {A0 : Option Addr} {m0 c0 k0 : Nat}, SN w111 A0 m0 c0 k0 → SN (((w111.setCell ⟨g10, 0, none⟩ (.bool b11)).setCell ⟨g10, 1, none⟩ (.slice A11 n11 c11)).setCell ⟨g10, 2, none⟩ (.slice B11 m11 d11)) A0 m0 c0 k0 := fun hs => ((hs.hset hd 0 (.bool b11)).hset (hd.set 0 (.bool b11) (by simp)) 1 (.slice A11 n11 c11)).hset ((hd.set 0 (.bool b11) (by simp)).set 1 (.slice A11 n11 c11) (by simp)) 2 (.slice B11 m11 d11)
        have RM := Lib.hid (RQ11.out.map T)
        clear T hd
        clear k0 k1 k2 f0 f1 f2
        try clear hHeld
        refine hK.out _ _ (below_set (below_set (below_set HB11.out g10 0 hge10 _) g10 1 hge10 _) g10 2 hge10 _) (fun hHeld => ?_)
        clear hK K
        try simp only [Act.put, List.setIfInBounds_toArray, List.set_cons_zero, List.set_cons_succ]
        refine wpAnyH_letter (fun wz => Blk wz g10 37 [.bool b11, .slice A11 n11 c11, .slice B11 m11 d11] ∧ RF wz b11 A11 n11 c11 B11 m11 d11 ((P / q : Nat) : Int) 1 (2 * m + 400) ∧ Below w5.heap.size w5 wz) ⟨hf.out, RM.out, hHeld⟩ ?_
        clear hf RM hHeld
        rintro w115 ⟨x0, x1, x2⟩
        have D15 := Lib.hid x0
        have RQ15 := Lib.hid x1
        have HB15 := Lib.hid x2
        clear x0 x1 x2
        refine takeL (i := 8) (v := ?v16) rfl (by kernel_rfl) (by kernel_rfl) (by kernel_rfl) (fun _ _ _ h => h) (Or.inl ⟨by rfl, ?hy16⟩) (by assumption) ?rest16
        case hy16 => (intro wz hSz; (have hfz := HF.out wz hSz); go_split_ands; (first | (go_simp; done) | (go_simp; with_reducible rfl)))
        try simp only [Act.put, List.setIfInBounds_toArray, List.set_cons_zero, List.set_cons_succ]
        refine wpAnyH_done (by kernel_rfl) ?_ _
        go_wp2_with fail
        go_meet
        exact ⟨g10, rfl, _, _, _, _, _, _, _, hge10, D15.out, RQ15.out, HB15.out⟩
      refine consL rfl (fun K hK => ?_) AllReadyH.nil
      go_simp
      try clear hHeld
      refine hK.out _ _ (HB6.out.alloc HB6.out.size _) (fun hHeld => ?_)
      clear hK K
      try simp only [Act.put, List.setIfInBounds_toArray, List.set_cons_zero, List.set_cons_succ]
      generalize hg : w6.heap.size = g17
      have hge17 : w5.heap.size ≤ g17 := by have := HB6.out.size; omega
      refine wpAnyH_letter (fun wz => Blk wz g17 37 [.bool false, .slice none 0 0, .slice none 0 0] ∧ Below w5.heap.size w5 wz) ⟨Blk.made _ 37 _ _ _ hg.symm rfl, HB6.out.alloc HB6.out.size _⟩ ?_
      clear hg
      rintro w117 ⟨x0, x1⟩
      have D17 := Lib.hid x0
      have HB17 := Lib.hid x1
      clear x0 x1
      refine wpAnyH_ready (rs := [1]) (by kernel_rfl) (by simp) ?_
      refine consL rfl (fun K hK => ?_) AllReadyH.nil
      go_simp
      refine (natOf _ 1 (by omega)).mono ?_
      rintro e w118 ⟨⟨A18, n18, c18, rfl, r⟩, hb⟩
      have HB18 := Lib.hid (below_on HB17.out (Nat.le_refl _) hb)
      have RN18 := Lib.hid r
      have D18 := Lib.hid (D17.out.below hb D17.out.lt)
      clear r hb
      dsimp only
      try clear hHeld
      refine hK.out _ _ (HB18.out) (fun hHeld => ?_)
      clear hK K
      try simp only [Act.put, List.setIfInBounds_toArray, List.set_cons_zero, List.set_cons_succ]
      refine wpAnyH_ready (rs := [2]) (by kernel_rfl) (by simp) ?_
      refine consL rfl (fun K hK => ?_) AllReadyH.nil
      go_simp
      refine (rat_Of _ b4 A4 A18 n4 c4 n18 c18 ((P / q : Nat) : Int) 1 (2 * m + 400) (R4.out.below HB18.out (Nat.le_refl _)) RN18.out (by omega) (by rw [Int.natAbs_natCast]; exact FL.out) (Nat.one_lt_two_pow (by omega)) (by have := HM2.out; omega)).mono ?_
      rintro e w119 ⟨⟨b19, A19, n19, c19, B19, m19, d19, rfl, r⟩, hb⟩
      have HB19 := Lib.hid (below_on HB18.out (Nat.le_refl _) hb)
      have RQ19 := Lib.hid r
      have D19 := Lib.hid (D18.out.below hb D18.out.lt)
      clear r hb
      dsimp only
      try clear hHeld
      refine hK.out _ _ (HB19.out) (fun hHeld => ?_)
      clear hK K
      try simp only [Act.put, List.setIfInBounds_toArray, List.set_cons_zero, List.set_cons_succ]
      refine takeL (i := 3) (v := ?v20) rfl (by kernel_rfl) (by kernel_rfl) (by kernel_rfl) (fun _ _ _ h => h) (Or.inl ⟨by rfl, ?hy20⟩) (by assumption) ?rest20
      case hy20 => (intro wz hSz; (have hfz := HF.out wz hSz); go_split_ands; (first | (go_simp; done) | (go_simp; with_reducible rfl)))
      try simp only [Act.put, List.setIfInBounds_toArray, List.set_cons_zero, List.set_cons_succ]
      refine takeL (i := 4) (v := ?v21) rfl (by kernel_rfl) (by kernel_rfl) (by kernel_rfl) (fun _ _ _ h => h) (Or.inl ⟨by rfl, ?hy21⟩) (by assumption) ?rest21
      case hy21 => (intro wz hSz; (have hfz := HF.out wz hSz); go_split_ands; (first | (go_simp; done) | (go_simp; with_reducible rfl)))
      try simp only [Act.put, List.setIfInBounds_toArray, List.set_cons_zero, List.set_cons_succ]
      refine takeL (i := 5) (v := ?v22) rfl (by kernel_rfl) (by kernel_rfl) (by kernel_rfl) (fun _ _ _ h => h) (Or.inl ⟨by rfl, ?hy22⟩) (by assumption) ?rest22
      case hy22 => (intro wz hSz; (have hfz := HF.out wz hSz); go_split_ands; (first | (go_simp; done) | (go_simp; with_reducible rfl)))
      try simp only [Act.put, List.setIfInBounds_toArray, List.set_cons_zero, List.set_cons_succ]
      refine wpAnyH_ready (rs := [7]) (by kernel_rfl) (by simp) ?_
      refine consL rfl (fun K hK => ?_) AllReadyH.nil
      have k0 := D19.out.cell 0
      have k1 := D19.out.cell 1
      have k2 := D19.out.cell 2
      have f0 := D19.out.frozen 0
      have f1 := D19.out.frozen 1
      have f2 := D19.out.frozen 2
      simp only [List.getElem?_cons_zero, List.getElem?_cons_succ] at k0 k1 k2
      go_simp
      have hd : Hold w119 g17 37 3 w119 := Hold.start D19.out (by simp [No32])
      have hf := Lib.hid (hd.fill3 (.bool b19) (.slice A19 n19 c19) (.slice B19 m19 d19))
      have T : ∀ {A0 : Option Addr} {m0 c0 k0 : Nat}, SN w119 A0 m0 c0 k0 → SN (((w119.setCell ⟨g17, 0, none⟩ (.bool b19)).setCell ⟨g17, 1, none⟩ (.slice A19 n19 c19)).setCell ⟨g17, 2, none⟩ (.slice B19 m19 d19)) A0 m0 c0 k0 := fun hs => ((hs.hset hd 0 (.bool b19)).hset (hd.set 0 (.bool b19) (by simp)) 1 (.slice A19 n19 c19)).hset ((hd.set 0 (.bool b19) (by simp)).set 1 (.slice A19 n19 c19) (by simp)) 2 (.slice B19 m19 d19)
      have RM := Lib.hid (RQ19.out.map T)
      clear T hd
      clear k0 k1 k2 f0 f1 f2
      try clear hHeld
      refine hK.out _ _ (below_set (below_set (below_set HB19.out g17 0 hge17 _) g17 1 hge17 _) g17 2 hge17 _) (fun hHeld => ?_)
      clear hK K
      try simp only [Act.put, List.setIfInBounds_toArray, List.set_cons_zero, List.set_cons_succ]
      refine wpAnyH_letter (fun wz => Blk wz g17 37 [.bool b19, .slice A19 n19 c19, .slice B19 m19 d19] ∧ RF wz b19 A19 n19 c19 B19 m19 d19 ((P / q : Nat) : Int) 1 (2 * m + 400) ∧ Below w5.heap.size w5 wz) ⟨hf.out, RM.out, hHeld⟩ ?_
      clear hf RM hHeld
      rintro w123 ⟨x0, x1, x2⟩
      have D23 := Lib.hid x0
      have RQ23 := Lib.hid x1
      have HB23 := Lib.hid x2
      clear x0 x1 x2
      refine takeL (i := 8) (v := ?v24) rfl (by kernel_rfl) (by kernel_rfl) (by kernel_rfl) (fun _ _ _ h => h) (Or.inl ⟨by rfl, ?hy24⟩) (by assumption) ?rest24
      case hy24 => (intro wz hSz; (have hfz := HF.out wz hSz); go_split_ands; (first | (go_simp; done) | (go_simp; with_reducible rfl)))
      try simp only [Act.put, List.setIfInBounds_toArray, List.set_cons_zero, List.set_cons_succ]
      refine wpAnyH_done (by kernel_rfl) ?_ _
      go_wp2_with fail
      go_meet
      exact ⟨g17, rfl, _, _, _, _, _, _, _, hge17, D23.out, RQ23.out, HB23.out⟩

    case rest =>
      obtain ⟨g12, rfl, b7, A7, n7, c7, B7, m7, d7, hg12, d12, r7, hb7⟩ := hcut
      have D12 := Lib.hid d12
      have R7 := Lib.hid r7
      have HB7 := Lib.hid hb7
      have E0 := Lib.hid (D0.out.below hb7 D0.out.lt)
      have E5 := Lib.hid (D5.out.below hb7 D5.out.lt)
      have R8 := Lib.hid (R3.out.below hb7 (Nat.le_refl _))
      have HB8 := Lib.hid (HB5.out.trans (hb7.mono HB5.out.size))
      clear d12 r7 hb7 D0 D5 D11 R3 R4 HB5 HF HB7 FL
      have k5 := E5.out.cell 0
      have k6 := E5.out.cell 1
      have k7 := E5.out.cell 2
      have j0 := D12.out.cell 0
      have j1 := D12.out.cell 1
      have j2 := D12.out.cell 2
      simp only [List.getElem?_cons_zero, List.getElem?_cons_succ] at k5 k6 k7 j0 j1 j2
      have hq0 : 0 < q := by obtain ⟨p', q', h1, -⟩ := R8.out.ex; exact h1
      have HQ0 := Lib.hid hq0
      clear hq0
      go_step
      go_wp2_with fail
      refine (rat_Cmp _ b7 b3 A7 B7 A3' B3 n7 c7 m7 d7 n3' c3' m3 d3 ((P / q : Nat) : Int) (P : Int) 1 q (2 * m + 400) (2 * m + 400) R7.out R8.out (by have := HM2.out; omega) (by have := HM2.out; omega)).mono ?_
      rintro e w8 ⟨rfl, hb8⟩
      have hsg : (((((P / q : Nat) : Int) * (q : Int) + -(P : Int) * ((1 : Nat) : Int)).sign == 0) = decide (P % q = 0)) := by
        rw [Bool.eq_iff_iff, beq_iff_eq, Int.sign_eq_zero_iff_zero, decide_eq_true_eq]
        have h := Nat.div_add_mod P q
        have h2 : (((P / q : Nat) : Int) * (q : Int)) = ((P / q * q : Nat) : Int) := by push_cast; rfl
        have h3 : P / q * q = q * (P / q) := Nat.mul_comm _ _
        omega
      generalize (((P / q : Nat) : Int) * (q : Int) + -(P : Int) * ((1 : Nat) : Int)).sign = z at *
      have F0 := Lib.hid (E0.out.below hb8 E0.out.lt)
      have F5 := Lib.hid (E5.out.below hb8 E5.out.lt)
      have S8 := Lib.hid (R8.out.below hb8 (Nat.le_refl _))
      have HB9 := Lib.hid (HB8.out.trans (hb8.mono HB8.out.size))
      clear k5 k6 k7 j0 j1 j2 E0 E5 R8 HB8 D12 R7 hb8
      have i2 := F0.out.cell 2
      have i3 := F0.out.cell 3
      have i4 := F0.out.cell 4
      simp only [List.getElem?_cons_zero, List.getElem?_cons_succ] at i2 i3 i4
      dsimp only
      by_cases hq : P % q = 0
      · have hz : (z == 0) = true := by rw [hsg]; simpa using hq
        have HQ := Lib.hid hq
        clear hsg hq
        have FN : Hid (frn = fs.length) := IL.len HFR.out
        obtain rfl : frn = fs.length := FN.out
        have hfl : (fs.length : Int) ≤ 1000000000 := by have := HL2.out; omega
        go_wp2_with fail
        go_loopw [14, 66] (fun s14 s66 wr => ∃ k : Nat, k ≤ fs.length ∧ s66 = .int .i64 k ∧ s14 = .bool (anyE P q ((fs.zip ts).take k)) ∧ Below w8.heap.size w8 wr) (fun _ i _ => fs.length - (intOf i).toNat)
        case atStart => exact ⟨0, Nat.zero_le _, rfl, rfl, Below.refl _ _⟩
        case round =>
          obtain ⟨kk, hk, rfl, rfl, hbr⟩ := hrel
          have X0 := Lib.hid (F0.out.below hbr F0.out.lt)
          have X5 := Lib.hid (F5.out.below hbr F5.out.lt)
          have Y8 := Lib.hid (S8.out.below hbr (Nat.le_refl _))
          have HBW := Lib.hid (HB9.out.trans (hbr.mono HB9.out.size))
          have HBR := Lib.hid hbr
          have i2 := X0.out.cell 2
          have i3 := X0.out.cell 3
          simp only [List.getElem?_cons_zero, List.getElem?_cons_succ] at i2 i3
          clear hbr
          by_cases hlt : kk < fs.length
          · obtain ⟨fb, fo, hfa, hfc⟩ := IL.at (HFR.out.below HBW.out (Nat.le_refl _)) (by omega)
            obtain ⟨tb, tq, hta, htc⟩ := IL.at (HTO.out.below HBW.out (Nat.le_refl _)) (by have := HL.out; omega)
            have htn := IL.len HTO.out
            subst hfa
            subst hta
            obtain rfl : ton = fs.length := by rw [htn]; exact HL.out.symm
            obtain ⟨f, hf⟩ : ∃ f, fs[kk]? = some f := ⟨fs[kk], List.getElem?_eq_getElem hlt⟩
            obtain ⟨t', ht'⟩ : ∃ t, ts[kk]? = some t := ⟨ts[kk]'(by have := HL.out; omega), List.getElem?_eq_getElem _⟩
            have cf := hfc kk f hf
            have ct := htc kk t' ht'
            have HTX := Lib.hid (anyE_next (P := P) (q := q) hf ht')
            have hfl2 := HFB.out f (List.mem_of_getElem? hf)
            have htl2 := HTB.out t' (List.mem_of_getElem? ht')
            have CT := Lib.hid ct
            have HF : Hid (∀ w', Below wr.heap.size wr w' → w'.cell? ⟨g, 0, none⟩ = some (.bool b3) ∧ w'.cell? ⟨g, 1, none⟩ = some (.slice A3' n3' c3') ∧ w'.cell? ⟨g, 2, none⟩ = some (.slice B3 m3 d3) ∧ w'.cell? ⟨w.heap.size, 4, none⟩ = some (.slice (some ⟨tb, tq, none⟩) fs.length toc) ∧ w'.cell? ⟨tb, tq + kk, none⟩ = some (.int .i64 (t' : Int))) := by
              have z0 := X0.out.lt
              have z5 := X5.out.lt
              have zt := World.block_lt_of_cell? wr _ ct
              intro w' h
              exact ⟨(h.cell (by simp; omega)).trans (X5.out.cell 0), (h.cell (by simp; omega)).trans (X5.out.cell 1), (h.cell (by simp; omega)).trans (X5.out.cell 2), (h.cell (by simp; omega)).trans (X0.out.cell 4), (h.cell zt).trans CT.out⟩
            clear hfc htc hf ht' ct htn
            have hkI : (kk : Int) < (fs.length : Int) := by omega
            have hk0 : (0 : Int) ≤ (kk : Int) := by omega
            by_cases hin : anyE P q ((fs.zip ts).take kk) = true
            · rw [hin]
              have HIN := Lib.hid hin
              clear hin
              go_wp2_with fail
              refine wp_region_held_drew (S := fun w' => Below wr.heap.size wr w') (by kernel_rfl) (Below.refl _ _).drew (fun hHeld => ?_)
              refine wpAnyH_letter (fun w' => Below wr.heap.size wr w') hHeld ?_
              rintro w6 hb6
              have HB6 := Lib.hid hb6
              clear hb6 hHeld
              refine takeL (i := 0) (v := ?v25) rfl (by kernel_rfl) (by kernel_rfl) (by kernel_rfl) (fun _ _ _ h => h) (Or.inl ⟨by rfl, ?hy25⟩) (by assumption) ?rest25
              case hy25 => (intro wz hSz; (have hfz := HF.out wz hSz); go_split_ands; (first | (go_simp; done) | (go_simp; with_reducible rfl)))
              try simp only [Act.put, List.setIfInBounds_toArray, List.set_cons_zero, List.set_cons_succ]
              refine takeL (i := 1) (v := ?v26) rfl (by kernel_rfl) (by kernel_rfl) (by kernel_rfl) (fun _ _ _ h => h) (Or.inl ⟨by rfl, ?hy26⟩) (by assumption) ?rest26
              case hy26 => (intro wz hSz; (have hfz := HF.out wz hSz); go_split_ands; (first | (go_simp; done) | (go_simp; with_reducible rfl)))
              try simp only [Act.put, List.setIfInBounds_toArray, List.set_cons_zero, List.set_cons_succ]
              refine takeL (i := 2) (v := _) rfl (by kernel_rfl) (by kernel_rfl) (by kernel_rfl) (fun _ _ _ h => h) (Or.inr ⟨by rfl, rfl⟩) (by assumption) ?rest27
              try simp only [Act.put, List.setIfInBounds_toArray, List.set_cons_zero, List.set_cons_succ]
              refine takeL (i := 3) (v := _) rfl (by kernel_rfl) (by kernel_rfl) (by kernel_rfl) (fun _ _ _ h => h) (Or.inr ⟨by rfl, rfl⟩) (by assumption) ?rest28
              try simp only [Act.put, List.setIfInBounds_toArray, List.set_cons_zero, List.set_cons_succ]
              refine takeL (i := 4) (v := _) rfl (by kernel_rfl) (by kernel_rfl) (by kernel_rfl) (fun _ _ _ h => h) (Or.inr ⟨by rfl, rfl⟩) (by assumption) ?rest29
              try simp only [Act.put, List.setIfInBounds_toArray, List.set_cons_zero, List.set_cons_succ]
              refine takeL (i := 5) (v := _) rfl (by kernel_rfl) (by kernel_rfl) (by kernel_rfl) (fun _ _ _ h => h) (Or.inr ⟨by rfl, rfl⟩) (by assumption) ?rest30
              try simp only [Act.put, List.setIfInBounds_toArray, List.set_cons_zero, List.set_cons_succ]
              refine takeL (i := 6) (v := _) rfl (by kernel_rfl) (by kernel_rfl) (by kernel_rfl) (fun _ _ _ h => h) (Or.inr ⟨by rfl, rfl⟩) (by assumption) ?rest31
              try simp only [Act.put, List.setIfInBounds_toArray, List.set_cons_zero, List.set_cons_succ]
              refine takeL (i := 7) (v := _) rfl (by kernel_rfl) (by kernel_rfl) (by kernel_rfl) (fun _ _ _ h => h) (Or.inr ⟨by rfl, rfl⟩) (by assumption) ?rest32
              try simp only [Act.put, List.setIfInBounds_toArray, List.set_cons_zero, List.set_cons_succ]
              refine takeL (i := 8) (v := _) rfl (by kernel_rfl) (by kernel_rfl) (by kernel_rfl) (fun _ _ _ h => h) (Or.inr ⟨by rfl, rfl⟩) (by assumption) ?rest33
              try simp only [Act.put, List.setIfInBounds_toArray, List.set_cons_zero, List.set_cons_succ]
              refine takeL (i := 9) (v := _) rfl (by kernel_rfl) (by kernel_rfl) (by kernel_rfl) (fun _ _ _ h => h) (Or.inr ⟨by rfl, rfl⟩) (by assumption) ?rest34
              try simp only [Act.put, List.setIfInBounds_toArray, List.set_cons_zero, List.set_cons_succ]
              refine takeL (i := 10) (v := _) rfl (by kernel_rfl) (by kernel_rfl) (by kernel_rfl) (fun _ _ _ h => h) (Or.inr ⟨by rfl, rfl⟩) (by assumption) ?rest35
              try simp only [Act.put, List.setIfInBounds_toArray, List.set_cons_zero, List.set_cons_succ]
              refine takeL (i := 11) (v := _) rfl (by kernel_rfl) (by kernel_rfl) (by kernel_rfl) (fun _ _ _ h => h) (Or.inr ⟨by rfl, rfl⟩) (by assumption) ?rest36
              try simp only [Act.put, List.setIfInBounds_toArray, List.set_cons_zero, List.set_cons_succ]
              refine takeL (i := 12) (v := _) rfl (by kernel_rfl) (by kernel_rfl) (by kernel_rfl) (fun _ _ _ h => h) (Or.inr ⟨by rfl, rfl⟩) (by assumption) ?rest37
              try simp only [Act.put, List.setIfInBounds_toArray, List.set_cons_zero, List.set_cons_succ]
              refine takeL (i := 13) (v := _) rfl (by kernel_rfl) (by kernel_rfl) (by kernel_rfl) (fun _ _ _ h => h) (Or.inr ⟨by rfl, rfl⟩) (by assumption) ?rest38
              try simp only [Act.put, List.setIfInBounds_toArray, List.set_cons_zero, List.set_cons_succ]
              refine takeL (i := 14) (v := _) rfl (by kernel_rfl) (by kernel_rfl) (by kernel_rfl) (fun _ _ _ h => h) (Or.inr ⟨by rfl, rfl⟩) (by assumption) ?rest39
              try simp only [Act.put, List.setIfInBounds_toArray, List.set_cons_zero, List.set_cons_succ]
              refine takeL (i := 15) (v := _) rfl (by kernel_rfl) (by kernel_rfl) (by kernel_rfl) (fun _ _ _ h => h) (Or.inr ⟨by rfl, rfl⟩) (by assumption) ?rest40
              try simp only [Act.put, List.setIfInBounds_toArray, List.set_cons_zero, List.set_cons_succ]
              refine takeL (i := 16) (v := _) rfl (by kernel_rfl) (by kernel_rfl) (by kernel_rfl) (fun _ _ _ h => h) (Or.inr ⟨by rfl, rfl⟩) (by assumption) ?rest41
              try simp only [Act.put, List.setIfInBounds_toArray, List.set_cons_zero, List.set_cons_succ]
              refine takeL (i := 17) (v := _) rfl (by kernel_rfl) (by kernel_rfl) (by kernel_rfl) (fun _ _ _ h => h) (Or.inr ⟨by rfl, rfl⟩) (by assumption) ?rest42
              try simp only [Act.put, List.setIfInBounds_toArray, List.set_cons_zero, List.set_cons_succ]
              refine takeL (i := 18) (v := ?v43) rfl (by kernel_rfl) (by kernel_rfl) (by kernel_rfl) (fun _ _ _ h => h) (Or.inl ⟨by rfl, ?hy43⟩) (by assumption) ?rest43
              case hy43 => (intro wz hSz; (have hfz := HF.out wz hSz); go_split_ands; (first | (go_simp; done) | (go_simp; with_reducible rfl)))
              try simp only [Act.put, List.setIfInBounds_toArray, List.set_cons_zero, List.set_cons_succ]
              refine takeL (i := 19) (v := ?v44) rfl (by kernel_rfl) (by kernel_rfl) (by kernel_rfl) (fun _ _ _ h => h) (Or.inl ⟨by rfl, ?hy44⟩) (by assumption) ?rest44
              case hy44 => (intro wz hSz; (have hfz := HF.out wz hSz); go_split_ands; (first | (go_simp; done) | (go_simp; with_reducible rfl)))
              try simp only [Act.put, List.setIfInBounds_toArray, List.set_cons_zero, List.set_cons_succ]
              refine wpAnyH_done (by kernel_rfl) ?_ _
              have HBZ := Lib.hid (HBR.out.trans (HB6.out.mono HBR.out.size))
              go_wp2_with fail
              go_roundw
              case rel =>
                refine ⟨kk + 1, by omega, by go_num, ?_, HBZ.out⟩
                rw [HTX.out, HIN.out]; rfl
              case measure => simp [intOf]; omega

            · have hin' : anyE P q ((fs.zip ts).take kk) = false := by simpa using hin
              rw [hin']
              have HIN := Lib.hid hin'
              clear hin hin'
              by_cases hc1 : f * q ≤ P
              · have HC1 := Lib.hid hc1
                clear hc1
                go_wp2_with fail
                refine wp_region_held_drew (S := fun w' => Below wr.heap.size wr w') (by kernel_rfl) (Below.refl _ _).drew (fun hHeld => ?_)
                refine wpAnyH_letter (fun w' => Below wr.heap.size wr w') hHeld ?_
                rintro w6 hb6
                have HB6 := Lib.hid hb6
                clear hb6 hHeld
                refine takeL (i := 0) (v := ?v65) rfl (by kernel_rfl) (by kernel_rfl) (by kernel_rfl) (fun _ _ _ h => h) (Or.inl ⟨by rfl, ?hy65⟩) (by assumption) ?rest65
                case hy65 => (intro wz hSz; (have hfz := HF.out wz hSz); go_split_ands; (first | (go_simp; done) | (go_simp; with_reducible rfl)))
                try simp only [Act.put, List.setIfInBounds_toArray, List.set_cons_zero, List.set_cons_succ]
                refine takeL (i := 1) (v := ?v66) rfl (by kernel_rfl) (by kernel_rfl) (by kernel_rfl) (fun _ _ _ h => h) (Or.inl ⟨by rfl, ?hy66⟩) (by assumption) ?rest66
                case hy66 => (intro wz hSz; (have hfz := HF.out wz hSz); go_split_ands; (first | (go_simp; done) | (go_simp; with_reducible rfl)))
                try simp only [Act.put, List.setIfInBounds_toArray, List.set_cons_zero, List.set_cons_succ]
                refine takeL (i := 2) (v := ?v67) rfl (by kernel_rfl) (by kernel_rfl) (by kernel_rfl) (fun _ _ _ h => h) (Or.inl ⟨by rfl, ?hy67⟩) (by assumption) ?rest67
                case hy67 => (intro wz hSz; (have hfz := HF.out wz hSz); go_split_ands; (first | (go_simp; done) | (go_simp; with_reducible rfl)))
                try simp only [Act.put, List.setIfInBounds_toArray, List.set_cons_zero, List.set_cons_succ]
                refine takeL (i := 4) (v := ?v68) rfl (by kernel_rfl) (by kernel_rfl) (by kernel_rfl) (fun _ _ _ h => h) (Or.inl ⟨by rfl, ?hy68⟩) (by assumption) ?rest68
                case hy68 => (intro wz hSz; (have hfz := HF.out wz hSz); go_split_ands; (first | (go_simp; done) | (go_simp; with_reducible rfl)))
                try simp only [Act.put, List.setIfInBounds_toArray, List.set_cons_zero, List.set_cons_succ]
                refine wpAnyH_ready (rs := [3]) (by kernel_rfl) (by simp) ?_
                refine consL rfl (fun K hK => ?_) AllReadyH.nil
                go_simp
                refine (rat_Int _ f (by omega)).mono ?_
                rintro e w169 ⟨⟨b69, A69, n69, c69, B69, m69, d69, rfl, r⟩, hb⟩
                have HB69 := Lib.hid (below_on HB6.out (Nat.le_refl _) hb)
                have RI69 := Lib.hid r
                clear r hb
                dsimp only
                try clear hHeld
                refine hK.out _ _ (HB69.out) (fun hHeld => ?_)
                clear hK K
                try simp only [Act.put, List.setIfInBounds_toArray, List.set_cons_zero, List.set_cons_succ]
                refine wpAnyH_ready (rs := [5]) (by kernel_rfl) (by simp) ?_
                refine consL rfl (fun K hK => ?_) AllReadyH.nil
                go_simp
                refine (rat_Cmp _ b69 b3 A69 B69 A3' B3 n69 c69 m69 d69 n3' c3' m3 d3 (f : Int) (P : Int) 1 q 63 (2 * m + 400) RI69.out (Y8.out.below HB69.out (Nat.le_refl _)) (by omega) (by have := HM2.out; omega)).mono ?_
                rintro e w170 ⟨rfl, hb⟩
                have HB70 := Lib.hid (below_on HB69.out (Nat.le_refl _) hb)
                have hs70 := sign_low f P q
                rw [decide_eq_true HC1.out] at hs70
                generalize (((f : Int) * (q : Int) + -(P : Int) * ((1 : Nat) : Int)).sign) = z70 at *
                clear hb
                dsimp only
                try clear hHeld
                refine hK.out _ _ (HB70.out) (fun hHeld => ?_)
                clear hK K
                try simp only [Act.put, List.setIfInBounds_toArray, List.set_cons_zero, List.set_cons_succ]
                refine takeL (i := 6) (v := ?v71) rfl (by kernel_rfl) (by kernel_rfl) (by kernel_rfl) (fun _ _ _ h => h) (Or.inl ⟨by rfl, ?hy71⟩) (by assumption) ?rest71
                case hy71 => (intro wz hSz; (have hfz := HF.out wz hSz); go_split_ands; (first | (go_simp; done) | (go_simp; with_reducible rfl)))
                try simp only [Act.put, List.setIfInBounds_toArray, List.set_cons_zero, List.set_cons_succ]
                refine takeL (i := 7) (v := ?v72) rfl (by kernel_rfl) (by kernel_rfl) (by kernel_rfl) (fun _ _ _ h => h) (Or.inl ⟨by rfl, ?hy72⟩) (by assumption) ?rest72
                case hy72 => (intro wz hSz; (have hfz := HF.out wz hSz); go_split_ands; (first | (go_simp; done) | (go_simp; with_reducible rfl)))
                try simp only [Act.put, List.setIfInBounds_toArray, List.set_cons_zero, List.set_cons_succ]
                refine takeL (i := 8) (v := ?v73) rfl (by kernel_rfl) (by kernel_rfl) (by kernel_rfl) (fun _ _ _ h => h) (Or.inl ⟨by rfl, ?hy73⟩) (by assumption) ?rest73
                case hy73 => (intro wz hSz; (have hfz := HF.out wz hSz); go_split_ands; (first | (go_simp; done) | (go_simp; with_reducible rfl)))
                try simp only [Act.put, List.setIfInBounds_toArray, List.set_cons_zero, List.set_cons_succ]
                refine takeL (i := 9) (v := ?v74) rfl (by kernel_rfl) (by kernel_rfl) (by kernel_rfl) (fun _ _ _ h => h) (Or.inl ⟨by rfl, ?hy74⟩) (by assumption) ?rest74
                case hy74 => (intro wz hSz; (have hfz := HF.out wz hSz); go_split_ands; (first | (go_simp; done) | (go_simp; with_reducible rfl)))
                try simp only [Act.put, List.setIfInBounds_toArray, List.set_cons_zero, List.set_cons_succ]
                refine takeL (i := 10) (v := ?v75) rfl (by kernel_rfl) (by kernel_rfl) (by kernel_rfl) (fun _ _ _ h => h) (Or.inl ⟨by rfl, ?hy75⟩) (by assumption) ?rest75
                case hy75 => (intro wz hSz; (have hfz := HF.out wz hSz); go_split_ands; (first | (go_simp; done) | (go_simp; with_reducible rfl)))
                try simp only [Act.put, List.setIfInBounds_toArray, List.set_cons_zero, List.set_cons_succ]
                refine takeL (i := 11) (v := ?v76) rfl (by kernel_rfl) (by kernel_rfl) (by kernel_rfl) (fun _ _ _ h => h) (Or.inl ⟨by rfl, ?hy76⟩) (by assumption) ?rest76
                case hy76 => (intro wz hSz; (have hfz := HF.out wz hSz); go_split_ands; (first | (go_simp; done) | (go_simp; with_reducible rfl)))
                try simp only [Act.put, List.setIfInBounds_toArray, List.set_cons_zero, List.set_cons_succ]
                refine takeL (i := 12) (v := ?v77) rfl (by kernel_rfl) (by kernel_rfl) (by kernel_rfl) (fun _ _ _ h => h) (Or.inl ⟨by rfl, ?hy77⟩) (by assumption) ?rest77
                case hy77 => (intro wz hSz; (have hfz := HF.out wz hSz); go_split_ands; (first | (go_simp; done) | (go_simp; with_reducible rfl)))
                try simp only [Act.put, List.setIfInBounds_toArray, List.set_cons_zero, List.set_cons_succ]
                refine takeL (i := 13) (v := ?v78) rfl (by kernel_rfl) (by kernel_rfl) (by kernel_rfl) (fun _ _ _ h => h) (Or.inl ⟨by rfl, ?hy78⟩) (by assumption) ?rest78
                case hy78 => (intro wz hSz; (have hfz := HF.out wz hSz); go_split_ands; (first | (go_simp; done) | (go_simp; with_reducible rfl)))
                try simp only [Act.put, List.setIfInBounds_toArray, List.set_cons_zero, List.set_cons_succ]
                refine wpAnyH_ready (rs := [14]) (by kernel_rfl) (by simp) ?_
                refine consL rfl (fun K hK => ?_) AllReadyH.nil
                go_simp
                refine (rat_Int _ t' (by omega)).mono ?_
                rintro e w179 ⟨⟨b79, A79, n79, c79, B79, m79, d79, rfl, r⟩, hb⟩
                have HB79 := Lib.hid (below_on HB70.out (Nat.le_refl _) hb)
                have RI79 := Lib.hid r
                clear r hb
                dsimp only
                try clear hHeld
                refine hK.out _ _ (HB79.out) (fun hHeld => ?_)
                clear hK K
                try simp only [Act.put, List.setIfInBounds_toArray, List.set_cons_zero, List.set_cons_succ]
                refine wpAnyH_ready (rs := [15]) (by kernel_rfl) (by simp) ?_
                refine consL rfl (fun K hK => ?_) AllReadyH.nil
                go_simp
                refine (rat_Cmp _ b3 b79 A3' B3 A79 B79 n3' c3' m3 d3 n79 c79 m79 d79 (P : Int) (t' : Int) q 1 (2 * m + 400) 63 (Y8.out.below HB79.out (Nat.le_refl _)) RI79.out (by have := HM2.out; omega) (by omega)).mono ?_
                rintro e w180 ⟨rfl, hb⟩
                have HB80 := Lib.hid (below_on HB79.out (Nat.le_refl _) hb)
                have hs80 := sign_high t' P q
                generalize (((P : Int) * ((1 : Nat) : Int) + -(t' : Int) * (q : Int)).sign) = z80 at *
                clear hb
                dsimp only
                try clear hHeld
                refine hK.out _ _ (HB80.out) (fun hHeld => ?_)
                clear hK K
                try simp only [Act.put, List.setIfInBounds_toArray, List.set_cons_zero, List.set_cons_succ]
                refine takeL (i := 16) (v := ?v81) rfl (by kernel_rfl) (by kernel_rfl) (by kernel_rfl) (fun _ _ _ h => h) (Or.inl ⟨by rfl, ?hy81⟩) (by assumption) ?rest81
                case hy81 => (intro wz hSz; (have hfz := HF.out wz hSz); go_split_ands; (first | (go_simp; done) | (go_simp; with_reducible rfl)))
                try simp only [Act.put, List.setIfInBounds_toArray, List.set_cons_zero, List.set_cons_succ]
                refine takeL (i := 17) (v := ?v82) rfl (by kernel_rfl) (by kernel_rfl) (by kernel_rfl) (fun _ _ _ h => h) (Or.inl ⟨by rfl, ?hy82⟩) (by assumption) ?rest82
                case hy82 => (intro wz hSz; (have hfz := HF.out wz hSz); go_split_ands; (first | (go_simp; done) | (go_simp; with_reducible rfl)))
                try simp only [Act.put, List.setIfInBounds_toArray, List.set_cons_zero, List.set_cons_succ]
                refine takeL (i := 18) (v := ?v83) rfl (by kernel_rfl) (by kernel_rfl) (by kernel_rfl) (fun _ _ _ h => h) (Or.inl ⟨by rfl, ?hy83⟩) (by assumption) ?rest83
                case hy83 => (intro wz hSz; (have hfz := HF.out wz hSz); go_split_ands; (first | (go_simp; done) | (go_simp; with_reducible rfl)))
                try simp only [Act.put, List.setIfInBounds_toArray, List.set_cons_zero, List.set_cons_succ]
                refine takeL (i := 19) (v := ?v84) rfl (by kernel_rfl) (by kernel_rfl) (by kernel_rfl) (fun _ _ _ h => h) (Or.inl ⟨by rfl, ?hy84⟩) (by assumption) ?rest84
                case hy84 => (intro wz hSz; (have hfz := HF.out wz hSz); go_split_ands; (first | (go_simp; done) | (go_simp; with_reducible rfl)))
                try simp only [Act.put, List.setIfInBounds_toArray, List.set_cons_zero, List.set_cons_succ]
                refine wpAnyH_done (by kernel_rfl) ?_ _
                have HBZ := Lib.hid (HBR.out.trans (HB80.out.mono HBR.out.size))
                go_wp2_with fail
                go_roundw
                case rel =>
                  refine ⟨kk + 1, by omega, by go_num, ?_, HBZ.out⟩
                  rw [HTX.out, HIN.out, decide_eq_true HC1.out]; simp
                case measure => simp [intOf]; omega

              · have HC1 := Lib.hid hc1
                clear hc1
                go_wp2_with fail
                refine wp_region_held_drew (S := fun w' => Below wr.heap.size wr w') (by kernel_rfl) (Below.refl _ _).drew (fun hHeld => ?_)
                refine wpAnyH_letter (fun w' => Below wr.heap.size wr w') hHeld ?_
                rintro w6 hb6
                have HB6 := Lib.hid hb6
                clear hb6 hHeld
                refine takeL (i := 0) (v := ?v45) rfl (by kernel_rfl) (by kernel_rfl) (by kernel_rfl) (fun _ _ _ h => h) (Or.inl ⟨by rfl, ?hy45⟩) (by assumption) ?rest45
                case hy45 => (intro wz hSz; (have hfz := HF.out wz hSz); go_split_ands; (first | (go_simp; done) | (go_simp; with_reducible rfl)))
                try simp only [Act.put, List.setIfInBounds_toArray, List.set_cons_zero, List.set_cons_succ]
                refine takeL (i := 1) (v := ?v46) rfl (by kernel_rfl) (by kernel_rfl) (by kernel_rfl) (fun _ _ _ h => h) (Or.inl ⟨by rfl, ?hy46⟩) (by assumption) ?rest46
                case hy46 => (intro wz hSz; (have hfz := HF.out wz hSz); go_split_ands; (first | (go_simp; done) | (go_simp; with_reducible rfl)))
                try simp only [Act.put, List.setIfInBounds_toArray, List.set_cons_zero, List.set_cons_succ]
                refine takeL (i := 2) (v := ?v47) rfl (by kernel_rfl) (by kernel_rfl) (by kernel_rfl) (fun _ _ _ h => h) (Or.inl ⟨by rfl, ?hy47⟩) (by assumption) ?rest47
                case hy47 => (intro wz hSz; (have hfz := HF.out wz hSz); go_split_ands; (first | (go_simp; done) | (go_simp; with_reducible rfl)))
                try simp only [Act.put, List.setIfInBounds_toArray, List.set_cons_zero, List.set_cons_succ]
                refine takeL (i := 4) (v := ?v48) rfl (by kernel_rfl) (by kernel_rfl) (by kernel_rfl) (fun _ _ _ h => h) (Or.inl ⟨by rfl, ?hy48⟩) (by assumption) ?rest48
                case hy48 => (intro wz hSz; (have hfz := HF.out wz hSz); go_split_ands; (first | (go_simp; done) | (go_simp; with_reducible rfl)))
                try simp only [Act.put, List.setIfInBounds_toArray, List.set_cons_zero, List.set_cons_succ]
                refine wpAnyH_ready (rs := [3]) (by kernel_rfl) (by simp) ?_
                refine consL rfl (fun K hK => ?_) AllReadyH.nil
                go_simp
                refine (rat_Int _ f (by omega)).mono ?_
                rintro e w149 ⟨⟨b49, A49, n49, c49, B49, m49, d49, rfl, r⟩, hb⟩
                have HB49 := Lib.hid (below_on HB6.out (Nat.le_refl _) hb)
                have RI49 := Lib.hid r
                clear r hb
                dsimp only
                try clear hHeld
                refine hK.out _ _ (HB49.out) (fun hHeld => ?_)
                clear hK K
                try simp only [Act.put, List.setIfInBounds_toArray, List.set_cons_zero, List.set_cons_succ]
                refine wpAnyH_ready (rs := [5]) (by kernel_rfl) (by simp) ?_
                refine consL rfl (fun K hK => ?_) AllReadyH.nil
                go_simp
                refine (rat_Cmp _ b49 b3 A49 B49 A3' B3 n49 c49 m49 d49 n3' c3' m3 d3 (f : Int) (P : Int) 1 q 63 (2 * m + 400) RI49.out (Y8.out.below HB49.out (Nat.le_refl _)) (by omega) (by have := HM2.out; omega)).mono ?_
                rintro e w150 ⟨rfl, hb⟩
                have HB50 := Lib.hid (below_on HB49.out (Nat.le_refl _) hb)
                have hs50 := sign_low f P q
                rw [decide_eq_false HC1.out] at hs50
                generalize (((f : Int) * (q : Int) + -(P : Int) * ((1 : Nat) : Int)).sign) = z50 at *
                clear hb
                dsimp only
                try clear hHeld
                refine hK.out _ _ (HB50.out) (fun hHeld => ?_)
                clear hK K
                try simp only [Act.put, List.setIfInBounds_toArray, List.set_cons_zero, List.set_cons_succ]
                refine takeL (i := 6) (v := ?v51) rfl (by kernel_rfl) (by kernel_rfl) (by kernel_rfl) (fun _ _ _ h => h) (Or.inl ⟨by rfl, ?hy51⟩) (by assumption) ?rest51
                case hy51 => (intro wz hSz; (have hfz := HF.out wz hSz); go_split_ands; (first | (go_simp; done) | (go_simp; with_reducible rfl)))
                try simp only [Act.put, List.setIfInBounds_toArray, List.set_cons_zero, List.set_cons_succ]
                refine takeL (i := 7) (v := ?v52) rfl (by kernel_rfl) (by kernel_rfl) (by kernel_rfl) (fun _ _ _ h => h) (Or.inl ⟨by rfl, ?hy52⟩) (by assumption) ?rest52
                case hy52 => (intro wz hSz; (have hfz := HF.out wz hSz); go_split_ands; (first | (go_simp; done) | (go_simp; with_reducible rfl)))
                try simp only [Act.put, List.setIfInBounds_toArray, List.set_cons_zero, List.set_cons_succ]
                refine takeL (i := 8) (v := _) rfl (by kernel_rfl) (by kernel_rfl) (by kernel_rfl) (fun _ _ _ h => h) (Or.inr ⟨by rfl, rfl⟩) (by assumption) ?rest53
                try simp only [Act.put, List.setIfInBounds_toArray, List.set_cons_zero, List.set_cons_succ]
                refine takeL (i := 9) (v := _) rfl (by kernel_rfl) (by kernel_rfl) (by kernel_rfl) (fun _ _ _ h => h) (Or.inr ⟨by rfl, rfl⟩) (by assumption) ?rest54
                try simp only [Act.put, List.setIfInBounds_toArray, List.set_cons_zero, List.set_cons_succ]
                refine takeL (i := 10) (v := _) rfl (by kernel_rfl) (by kernel_rfl) (by kernel_rfl) (fun _ _ _ h => h) (Or.inr ⟨by rfl, rfl⟩) (by assumption) ?rest55
                try simp only [Act.put, List.setIfInBounds_toArray, List.set_cons_zero, List.set_cons_succ]
                refine takeL (i := 11) (v := _) rfl (by kernel_rfl) (by kernel_rfl) (by kernel_rfl) (fun _ _ _ h => h) (Or.inr ⟨by rfl, rfl⟩) (by assumption) ?rest56
                try simp only [Act.put, List.setIfInBounds_toArray, List.set_cons_zero, List.set_cons_succ]
                refine takeL (i := 12) (v := _) rfl (by kernel_rfl) (by kernel_rfl) (by kernel_rfl) (fun _ _ _ h => h) (Or.inr ⟨by rfl, rfl⟩) (by assumption) ?rest57
                try simp only [Act.put, List.setIfInBounds_toArray, List.set_cons_zero, List.set_cons_succ]
                refine takeL (i := 13) (v := _) rfl (by kernel_rfl) (by kernel_rfl) (by kernel_rfl) (fun _ _ _ h => h) (Or.inr ⟨by rfl, rfl⟩) (by assumption) ?rest58
                try simp only [Act.put, List.setIfInBounds_toArray, List.set_cons_zero, List.set_cons_succ]
                refine takeL (i := 14) (v := _) rfl (by kernel_rfl) (by kernel_rfl) (by kernel_rfl) (fun _ _ _ h => h) (Or.inr ⟨by rfl, rfl⟩) (by assumption) ?rest59
                try simp only [Act.put, List.setIfInBounds_toArray, List.set_cons_zero, List.set_cons_succ]
                refine takeL (i := 15) (v := _) rfl (by kernel_rfl) (by kernel_rfl) (by kernel_rfl) (fun _ _ _ h => h) (Or.inr ⟨by rfl, rfl⟩) (by assumption) ?rest60
                try simp only [Act.put, List.setIfInBounds_toArray, List.set_cons_zero, List.set_cons_succ]
                refine takeL (i := 16) (v := _) rfl (by kernel_rfl) (by kernel_rfl) (by kernel_rfl) (fun _ _ _ h => h) (Or.inr ⟨by rfl, rfl⟩) (by assumption) ?rest61
                try simp only [Act.put, List.setIfInBounds_toArray, List.set_cons_zero, List.set_cons_succ]
                refine takeL (i := 17) (v := ?v62) rfl (by kernel_rfl) (by kernel_rfl) (by kernel_rfl) (fun _ _ _ h => h) (Or.inl ⟨by rfl, ?hy62⟩) (by assumption) ?rest62
                case hy62 => (intro wz hSz; (have hfz := HF.out wz hSz); go_split_ands; (first | (go_simp; done) | (go_simp; with_reducible rfl)))
                try simp only [Act.put, List.setIfInBounds_toArray, List.set_cons_zero, List.set_cons_succ]
                refine takeL (i := 18) (v := ?v63) rfl (by kernel_rfl) (by kernel_rfl) (by kernel_rfl) (fun _ _ _ h => h) (Or.inl ⟨by rfl, ?hy63⟩) (by assumption) ?rest63
                case hy63 => (intro wz hSz; (have hfz := HF.out wz hSz); go_split_ands; (first | (go_simp; done) | (go_simp; with_reducible rfl)))
                try simp only [Act.put, List.setIfInBounds_toArray, List.set_cons_zero, List.set_cons_succ]
                refine takeL (i := 19) (v := ?v64) rfl (by kernel_rfl) (by kernel_rfl) (by kernel_rfl) (fun _ _ _ h => h) (Or.inl ⟨by rfl, ?hy64⟩) (by assumption) ?rest64
                case hy64 => (intro wz hSz; (have hfz := HF.out wz hSz); go_split_ands; (first | (go_simp; done) | (go_simp; with_reducible rfl)))
                try simp only [Act.put, List.setIfInBounds_toArray, List.set_cons_zero, List.set_cons_succ]
                refine wpAnyH_done (by kernel_rfl) ?_ _
                have HBZ := Lib.hid (HBR.out.trans (HB50.out.mono HBR.out.size))
                go_wp2_with fail
                go_roundw
                case rel =>
                  refine ⟨kk + 1, by omega, by go_num, ?_, HBZ.out⟩
                  rw [HTX.out, HIN.out, decide_eq_false HC1.out]; rfl
                case measure => simp [intOf]; omega

          · have hk2 : kk = fs.length := by omega
            subst hk2
            have hkI : ¬ (fs.length : Int) < (fs.length : Int) := by omega
            go_wp2_with fail
            go_ret
            refine ⟨?_, HBW.out⟩
            rw [HPV.out, HQV.out]
            unfold condHolds
            rw [← HP.out]
            have hz2 : (fs.zip ts).take fs.length = fs.zip ts := List.take_of_length_le (by simp; omega)
            rw [hz2]
            simp only [HQ.out, decide_true, Bool.true_and]
            rfl
      · have hz : (z == 0) = false := by rw [hsg]; simpa using hq
        have HQ := Lib.hid hq
        clear hsg hq
        go_wp2_with fail
        go_ret
        refine ⟨?_, HB9.out⟩
        rw [HPV.out, HQV.out]
        unfold condHolds
        rw [← HP.out]
        simp [HQ.out]

end Go.Proofs.YtdgleeglndcjhaaGreatDoor
