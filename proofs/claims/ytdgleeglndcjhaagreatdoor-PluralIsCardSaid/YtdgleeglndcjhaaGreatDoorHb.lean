/- Package rule: Holds, its closures. -/
import Derived.Test.YtdgleeglndcjhaaGreatDoorHa
namespace Go.Proofs.YtdgleeglndcjhaaGreatDoor
open Go.RowKit
set_option linter.unusedVariables false
set_option linter.unusedSimpArgs false

def IdxPost (w : World) (p : Bool) (e : Ending) (w' : World) : Prop := ∃ z : Int, e = .returned (.int .i64 z) ∧ decide (0 ≤ z) = p ∧ Below w.heap.size w w'
def AllW (W : World) (l : List Cnd) (val : Nat → Nat × Nat) (i : Value) (wr : World) : Prop := ∃ k : Nat, k ≤ l.length ∧ i = .int .i64 k ∧ (l.take k).all (condV val) = true ∧ Below W.heap.size W wr
def NoneW (W : World) (r : Rl) (val : Nat → Nat × Nat) (i : Value) (wr : World) : Prop := ∃ k : Nat, k ≤ r.length ∧ i = .int .i64 k ∧ ((r.take k).any fun l => l.all (condV val)) = false ∧ Below W.heap.size W wr
def OkL (l : List Cnd) : Prop := l.length ≤ 1000 ∧ ∀ c ∈ l, Valid c ∧ SmallC c
def OkR (r : Rl) : Prop := r.length ≤ 1000 ∧ ∀ l ∈ r, OkL l

set_option maxRecDepth 100000 in
set_option maxHeartbeats 8000000 in
theorem index_1 (w : World) (A : Option Addr) (n c g : Nat) (l : List Cnd) (val : Nat → Nat × Nat) (h : CondsIs w A n c l) (hs : OkL l) (ho : OpV w g val) :
    Calls Tryz.prog 91 #[.slice A n c, .func (Fn.func 56) #[] #[.pointer (some ⟨g, 0, none⟩)]] w (IdxPost w (!l.all (condV val))) := by
  obtain rfl : n = l.length := h.len
  have HX := Lib.hid h
  have HS := Lib.hid hs
  have HO := Lib.hid ho
  have hl := hs.1
  have hlI : (l.length : Int) ≤ 1000 := by omega
  clear h hs ho
  go_enter Tryz.func91, Tryz.ntmps91
  go_wp2_with fail
  go_loopw [8] (fun i wr => AllW w l val i wr) (fun i _ => l.length - (intOf i).toNat)
  case atStart => exact ⟨0, Nat.zero_le _, rfl, rfl, Below.refl _ _⟩
  case round =>
    obtain ⟨k, hk, rfl, ht, hb⟩ := hrel
    have HT := Lib.hid ht
    have HBR := Lib.hid hb
    clear ht hb
    by_cases hlt : k < l.length
    · obtain ⟨b, o, hA, hc⟩ := (HX.out.below HBR.out (Nat.le_refl _)).at (by omega)
      subst hA
      obtain ⟨x, hx⟩ : ∃ x, l[k]? = some x := ⟨l[k], List.getElem?_eq_getElem hlt⟩
      obtain ⟨FA, fn, fc, TA, tn, tc, hF, hT, c0, c1, c2, c3, c4⟩ := hc k x hx
      have htk : (l.take (k + 1)).all (condV val) = ((l.take k).all (condV val) && condV val x) := by rw [List.take_add_one, hx]; simp
      have HTK := Lib.hid htk
      have HXX := Lib.hid hx
      have HV := Lib.hid (HS.out.2 x (List.mem_of_getElem? hx))
      have HF := Lib.hid hF
      have HTT := Lib.hid hT
      have hkI : (k : Int) < (l.length : Int) := by omega
      have hk0 : (0 : Int) ≤ (k : Int) := by omega
      clear hc hx hF hT htk
      go_wp2_with fail
      refine (holds_11 wr x FA TA fn fc tn tc g val HF.out HTT.out HV.out.1 HV.out.2 (HO.out.below HBR.out)).mono ?_
      rintro e w5 ⟨rfl, hb5⟩
      have HB5 := Lib.hid (HBR.out.trans (hb5.mono HBR.out.size))
      clear hb5 c0 c1 c2 c3 c4
      cases hcv : condV val x
      · have HCV := Lib.hid hcv
        clear hcv
        dsimp only
        go_wp2_with fail
        go_ret
        refine ⟨(k : Int), rfl, ?_, HB5.out⟩
        have : l.all (condV val) = false := by
          rw [List.all_eq_false]
          exact ⟨x, List.mem_of_getElem? HXX.out, by rw [HCV.out]; simp⟩
        rw [this]; simp
      · have HCV := Lib.hid hcv
        clear hcv
        dsimp only
        go_wp2_with fail
        go_roundw
        case rel => exact ⟨k + 1, by omega, by go_num, by rw [HTK.out, HT.out, HCV.out]; rfl, HB5.out⟩
        case measure => simp [intOf]; omega
    · have hkI : ¬ (k : Int) < (l.length : Int) := by omega
      have he : l.all (condV val) = true := by have := HT.out; rw [List.take_of_length_le (by omega)] at this; exact this
      have HE := Lib.hid he
      clear he
      go_wp2_with fail
      go_ret
      exact ⟨-1, rfl, by rw [HE.out]; rfl, HBR.out⟩

set_option maxRecDepth 100000 in
set_option maxHeartbeats 4000000 in
theorem contains_1 (w : World) (A : Option Addr) (n c g : Nat) (l : List Cnd) (val : Nat → Nat × Nat) (h : CondsIs w A n c l) (hs : OkL l) (ho : OpV w g val) :
    Calls Tryz.prog 55 #[.slice A n c, .func (Fn.func 56) #[] #[.pointer (some ⟨g, 0, none⟩)]] w fun e w' => e = .returned (.bool (!l.all (condV val))) ∧ Below w.heap.size w w' := by
  have HC := Lib.hid (index_1 w A n c g l val h hs ho)
  clear h hs ho
  go_enter Tryz.func55, Tryz.ntmps55
  go_wp2_with fail
  refine HC.out.mono ?_
  rintro e w1 ⟨z, rfl, hz, hb⟩
  have HB := Lib.hid hb
  have HZ := Lib.hid hz
  clear hb HC hz
  dsimp only
  go_wp2_with fail
  go_ret
  exact ⟨by rw [← HZ.out]; rfl, HB.out⟩

set_option maxRecDepth 100000 in
set_option maxHeartbeats 4000000 in
theorem holds_1 (w : World) (A : Option Addr) (n c g : Nat) (l : List Cnd) (val : Nat → Nat × Nat) (h : CondsIs w A n c l) (hs : OkL l) (ho : OpV w g val) :
    Calls Tryz.prog 54 #[.slice A n c, .pointer (some ⟨g, 0, none⟩)] w fun e w' => e = .returned (.bool (l.all (condV val))) ∧ Below w.heap.size w w' := by
  have HC := Lib.hid (contains_1 w A n c g l val h hs ho)
  clear h hs ho
  have hmf : ∀ (fn : Fn) (first cap : Array Value) (w : World), (Instr.makeFunc fn first cap).run Tryz.prog w = .ok (.func fn first cap) w := fun _ _ _ _ => rfl
  go_enter Tryz.func54, Tryz.ntmps54
  go_wp2_with fail
  refine HC.out.mono ?_
  rintro e w1 ⟨rfl, hb⟩
  have HB := Lib.hid hb
  clear hb HC
  dsimp only
  go_wp2_with fail
  go_ret
  exact ⟨by simp, HB.out⟩

set_option maxRecDepth 100000 in
set_option maxHeartbeats 8000000 in
theorem index_2 (w : World) (A : Option Addr) (n c g : Nat) (r : Rl) (val : Nat → Nat × Nat) (h : RuleIs w A n c r) (hs : OkR r) (ho : OpV w g val) :
    Calls Tryz.prog 90 #[.slice A n c, .func (Fn.func 54) #[] #[.pointer (some ⟨g, 0, none⟩)]] w (IdxPost w (anyV val r)) := by
  obtain rfl : n = r.length := h.len
  have HX := Lib.hid h
  have HS := Lib.hid hs
  have HO := Lib.hid ho
  have hl := hs.1
  have hlI : (r.length : Int) ≤ 1000 := by omega
  clear h hs ho
  go_enter Tryz.func90, Tryz.ntmps90
  go_wp2_with fail
  go_loopw [8] (fun i wr => NoneW w r val i wr) (fun i _ => r.length - (intOf i).toNat)
  case atStart => exact ⟨0, Nat.zero_le _, rfl, rfl, Below.refl _ _⟩
  case round =>
    obtain ⟨k, hk, rfl, ht, hb⟩ := hrel
    have HT := Lib.hid ht
    have HBR := Lib.hid hb
    clear ht hb
    by_cases hlt : k < r.length
    · obtain ⟨b, o, hA, hc⟩ := (HX.out.below HBR.out (Nat.le_refl _)).at (by omega)
      subst hA
      obtain ⟨x, hx⟩ : ∃ x, r[k]? = some x := ⟨r[k], List.getElem?_eq_getElem hlt⟩
      obtain ⟨xA, xn, xc, c0, hX⟩ := hc k x hx
      have htk : ((r.take (k + 1)).any fun l => l.all (condV val)) = (((r.take k).any fun l => l.all (condV val)) || x.all (condV val)) := by rw [List.take_add_one, hx]; simp
      have HTK := Lib.hid htk
      have HXX := Lib.hid hx
      have HV := Lib.hid (HS.out.2 x (List.mem_of_getElem? hx))
      have HF := Lib.hid hX
      have hkI : (k : Int) < (r.length : Int) := by omega
      have hk0 : (0 : Int) ≤ (k : Int) := by omega
      clear hc hx hX htk
      go_wp2_with fail
      refine (holds_1 wr xA xn xc g x val HF.out HV.out (HO.out.below HBR.out)).mono ?_
      rintro e w5 ⟨rfl, hb5⟩
      have HB5 := Lib.hid (HBR.out.trans (hb5.mono HBR.out.size))
      clear hb5 c0
      cases hcv : x.all (condV val)
      · have HCV := Lib.hid hcv
        clear hcv
        dsimp only
        go_wp2_with fail
        go_roundw
        case rel => exact ⟨k + 1, by omega, by go_num, by rw [HTK.out, HT.out, HCV.out]; rfl, HB5.out⟩
        case measure => simp [intOf]; omega
      · have HCV := Lib.hid hcv
        clear hcv
        dsimp only
        go_wp2_with fail
        go_ret
        refine ⟨(k : Int), rfl, ?_, HB5.out⟩
        have : anyV val r = true := List.any_eq_true.2 ⟨x, List.mem_of_getElem? HXX.out, HCV.out⟩
        rw [this]; simp
    · have hkI : ¬ (k : Int) < (r.length : Int) := by omega
      have he : anyV val r = false := by have := HT.out; rw [List.take_of_length_le (by omega)] at this; exact this
      have HE := Lib.hid he
      clear he
      go_wp2_with fail
      go_ret
      exact ⟨-1, rfl, by rw [HE.out]; rfl, HBR.out⟩

set_option maxRecDepth 100000 in
set_option maxHeartbeats 4000000 in
theorem contains_2 (w : World) (A : Option Addr) (n c g : Nat) (r : Rl) (val : Nat → Nat × Nat) (h : RuleIs w A n c r) (hs : OkR r) (ho : OpV w g val) :
    Calls Tryz.prog 53 #[.slice A n c, .func (Fn.func 54) #[] #[.pointer (some ⟨g, 0, none⟩)]] w fun e w' => e = .returned (.bool (anyV val r)) ∧ Below w.heap.size w w' := by
  have HC := Lib.hid (index_2 w A n c g r val h hs ho)
  clear h hs ho
  go_enter Tryz.func53, Tryz.ntmps53
  go_wp2_with fail
  refine HC.out.mono ?_
  rintro e w1 ⟨z, rfl, hz, hb⟩
  have HB := Lib.hid hb
  have HZ := Lib.hid hz
  clear hb HC hz
  dsimp only
  go_wp2_with fail
  go_ret
  exact ⟨by rw [← HZ.out]; rfl, HB.out⟩

theorem okR_good {r : Rl} (h : goodR r = true) : OkR r := by
  have h1 := smallR_good h
  have h2 := goodR_valid h
  exact ⟨h1.len, fun l hl => ⟨(h1.rows l hl).1, fun c hc => ⟨(h2.rows l hl).2 c hc, (h1.rows l hl).2 c hc⟩⟩⟩

set_option maxRecDepth 100000 in
set_option maxHeartbeats 8000000 in
theorem rule_Holds (w : World) (RA : Option Addr) (rn rc : Nat) (r : Rl) (hG : GW w) (hr : RuleIs w RA rn rc r) (hs : SmallR r)
    (b : Bool) (A A' iA fA tA : Option Addr) (n c n' c' il ic fl fc tl tc k s m i v u f t : Nat) (ho : OpR w b A n c A' n' c' iA il ic fA fl fc tA tl tc k s m i v u f t) (h63 : 63 ≤ m) (h40 : m ≤ 40000) :
    Calls Tryz.prog 16 #[.agg #[.slice RA rn rc], .agg #[.bool b, .slice A n c, .slice A' n' c', .slice iA il ic, .int .i64 (v : Nat), .int .i64 (u : Nat), .slice fA fl fc, .slice tA tl tc]] w fun e w' => e = .returned (.bool (holdsV (opVal k s i v u f t) r)) ∧ Below w.heap.size w w' := by
  have HG := Lib.hid hG
  have HX := Lib.hid hr
  have HS := Lib.hid hs
  have HO := Lib.hid ho
  have hmf : ∀ (fn : Fn) (first cap : Array Value) (w : World), (Instr.makeFunc fn first cap).run Tryz.prog w = .ok (.func fn first cap) w := fun _ _ _ _ => rfl
  obtain ⟨val, hval⟩ : ∃ val, opVal k s i v u f t = val := ⟨_, rfl⟩
  rw [hval]
  have HVAL := Lib.hid hval
  clear hG hr hs ho hval
  go_enter Tryz.func16, Tryz.ntmps16
  go_upto_region 1 with fail
  refine wp_letter (fun w1 => Blk w1 w.heap.size 30 [.slice RA rn rc] ∧ Blk w1 (w.heap.size + 1) 39 [.bool b, .slice A n c, .slice A' n' c', .slice iA il ic, .int .i64 (v : Nat), .int .i64 (u : Nat), .slice fA fl fc, .slice tA tl tc] ∧ Below w.heap.size w w1) ⟨(Blk.made _ 30 _ _ _ rfl rfl).alloc _, Blk.made _ 39 _ _ _ (by simp) rfl, ((Below.refl _ _).alloc (Nat.le_refl _) _).alloc (by simp) _⟩ ?_
  rintro w1 ⟨b0, b1, hb⟩
  have B0 := Lib.hid b0
  have HB := Lib.hid hb
  have HOV : Hid (OpV w1 (w.heap.size + 1) val) := ⟨b, A, n, c, A', n', c', iA, il, ic, fA, fl, fc, tA, tl, tc, k, s, m, i, v, u, f, t, b1, HO.out.below hb (Nat.le_refl _), h63, h40, HVAL.out.symm⟩
  have k0 := b0.cell 0
  simp only [List.getElem?_cons_zero] at k0
  clear b0 b1 hb
  go_wp2_with fail
  refine (rule_Good w1 RA rn rc r (HG.out.below HB.out (Nat.le_refl _)) (HX.out.below HB.out (Nat.le_refl _)) HS.out).mono ?_
  rintro e w2 ⟨rfl, hb2⟩
  have HB2 := Lib.hid (HB.out.trans (hb2.mono HB.out.size))
  have B2 := Lib.hid (B0.out.below hb2 B0.out.lt)
  have HOV2 := Lib.hid (HOV.out.below hb2)
  have k2 := B2.out.cell 0
  simp only [List.getElem?_cons_zero] at k2
  clear hb2 k0 B0 HB HOV
  rcases Bool.eq_false_or_eq_true (goodR r) with hg | hg
  · rw [hg]
    have HGD := Lib.hid hg
    clear hg
    dsimp only
    go_wp2_with fail
    refine (contains_2 w2 RA rn rc (w.heap.size + 1) r val (HX.out.below HB2.out (Nat.le_refl _)) (okR_good HGD.out) HOV2.out).mono ?_
    rintro e w3 ⟨rfl, hb3⟩
    have HB3 := Lib.hid (HB2.out.trans (hb3.mono HB2.out.size))
    clear hb3 k2
    dsimp only
    go_wp2_with fail
    go_ret
    exact ⟨by simp [holdsV, HGD.out], HB3.out⟩
  · rw [hg]
    have HGD := Lib.hid hg
    clear hg
    dsimp only
    go_wp2_with fail
    go_ret
    exact ⟨by simp [holdsV, HGD.out], HB2.out⟩
end Go.Proofs.YtdgleeglndcjhaaGreatDoor
