/- Package nat: Add, Of, Sub. -/
import Derived.Test.YtdgleeglndcjhaaGreatDoorN1
import Derived.Laws.BitsAllLaws
namespace Go.Proofs.YtdgleeglndcjhaaGreatDoor
open Go.RowKit
set_option linter.unusedVariables false

set_option maxRecDepth 100000 in
theorem nat_Add (w : World) (x y : Value) (a b : List Nat) (hx : RL w x a) (hy : RL w y b) (ha : a.length ≤ 100000000) (hb : b.length ≤ 100000000) :
    Calls Tryz.prog 202 #[.agg #[x], .agg #[y]] w fun e w' => ∃ v, e = .returned (.agg #[v]) ∧ RN w' v (val a + val b) ∧ Below w.heap.size w w' := by
  obtain ⟨i0, hi, hz0, hz1, hz2⟩ := info_parts Tryz_info43
  have HX := Lib.hid hx
  have HY := Lib.hid hy
  obtain ⟨A, c, rfl, hc, hdum⟩ := hx.form
  obtain ⟨A2, c2, rfl, hc2, hdum2⟩ := hy.form
  clear hx hy hdum hdum2
  obtain ⟨n, hna, hnb, hn⟩ : ∃ n, a.length ≤ n ∧ b.length ≤ n ∧ (a.length < b.length ∧ n = b.length ∨ ¬ a.length < b.length ∧ n = a.length) := by
    by_cases h : a.length < b.length
    · exact ⟨b.length, by omega, Nat.le_refl _, .inl ⟨h, rfl⟩⟩
    · exact ⟨a.length, Nat.le_refl _, by omega, .inr ⟨h, rfl⟩⟩
  rcases hn with ⟨hlt, hn⟩ | ⟨hlt, hn⟩
  all_goals
    have hn8 : n ≤ 100000000 := by omega
    have Hn := Lib.hid hn
    clear hn
    go_enter Tryz.func202, Tryz.ntmps202
    go_wp2_with (at_make; go_loud (refine wpList_make_blk _ rfl (.tmp 15) (.tmp 15) 22 rfl 43 i0 (.int .u32 0) Tryz.underlying22 hi hz0 hz1 rfl .i64 .i64 _ _ (n + 1) rfl rfl (by rw [Hn.out]; simp) (by rw [Hn.out]; simp) (by rw [hz2]; omega) (by unfold maxLen; omega) ?_))
    go_wp2_with fail
    go_loopw [6, 19] (fun s6 s19 wr => ∃ (k q : Nat) (done : List Nat), s19 = .int .i64 k ∧ s6 = .int .u64 q ∧ k ≤ n + 1 ∧ q ≤ 1 ∧ done.length = k ∧ Wd done ∧
        val done + q * 4294967296 ^ k = val (a.take k) + val (b.take k) ∧
        Blk wr w.heap.size 24 [.slice A a.length c] ∧ Blk wr (w.heap.size + 1) 24 [.slice A2 b.length c2] ∧ Blk wr (w.heap.size + 1 + 1) 24 [.slice none 0 0] ∧
        Blk wr (w.heap.size + 1 + 1 + 1) 43 (U32 (done ++ List.replicate (n + 1 - k) 0)) ∧ Below w.heap.size w wr) (fun _ i _ => n + 1 - (intOf i).toNat)
    case atStart =>
      refine ⟨0, 0, [], rfl, rfl, by omega, by omega, rfl, Wd.nil, by simp [val], ?_, ?_, ?_, ?_, ?_⟩
      · exact (((Blk.made w 24 _ _ _ rfl rfl).alloc _).alloc _).alloc _
      · exact ((Blk.made _ 24 _ _ _ (by simp) rfl).alloc _).alloc _
      · exact (Blk.made _ 24 _ _ _ (by simp) rfl).alloc _
      · exact Blk.made _ 43 _ _ _ (by simp) (by simp [U32])
      · exact ((((Below.refl _ _).alloc (Nat.le_refl _) _).alloc (by simp) _).alloc (by simp; omega) _).alloc (by simp; omega) _
    case round =>
      obtain ⟨k, q, done, rfl, rfl, hk, hq, hdl, hdw, hv, B0, B1, B2, B3, hbw⟩ := hrel
      have Hv := Lib.hid hv
      have Hdl := Lib.hid hdl
      have c0 := B0.cell 0
      have c1 := B1.cell 0
      simp only [List.getElem?_cons_zero] at c0 c1
      clear hv hdl
      by_cases hkn : k < n + 1
      · have hR := rep_pos (n + 1 - k) (by omega)
        rw [hR] at B3
        have HRep := Lib.hid hR
        clear hR
        have hc3 := (B3.cell k).trans (U32_get _ k (by simp [Hdl.out]))
        have hf3 := B3.frozen k
        have HR := add_round Hdl.out Hv.out
        have hsa := HX.out.2.getD k
        have hsb := HY.out.2.getD k
        have HX' : Hid (RL wr _ a) := HX.out.below hbw (Nat.le_refl _)
        have HY' : Hid (RL wr _ b) := HY.out.below hbw (Nat.le_refl _)
        generalize hs : a.getD k 0 = s at *
        generalize ht : b.getD k 0 = t at *
        have Hs := Lib.hid hs
        have Ht := Lib.hid ht
        have Hr := Lib.hid HR
        have HB0 := Lib.hid B0
        have HB1 := Lib.hid B1
        have HB2 := Lib.hid B2
        have HB3 := Lib.hid B3
        have HBw := Lib.hid hbw
        have hkn' : (k : Int) < (n : Int) + 1 := by omega
        have h64 : IntKind.u64.wrap ((s : Int) + t) = (s : Int) + t := IntWalk.u64_in _ ⟨by omega, by omega⟩
        have h64b : IntKind.u64.wrap ((q : Int) + ((s : Int) + t)) = (q : Int) + ((s : Int) + t) := IntWalk.u64_in _ ⟨by omega, by omega⟩
        have CA : Hid (∀ m, Calls Tryz.prog 198 #[.slice A a.length c, .int .i64 k] (wr.drewN m) fun e w' => e = .returned (.int .u64 s) ∧ wr.drewN m = w') := fun m => by
          have h := nat_at _ _ a k (HX'.out.drewN m) (by omega) (by omega)
          rw [Hs.out] at h; exact h
        have CB : Hid (∀ m, Calls Tryz.prog 198 #[.slice A2 b.length c2, .int .i64 k] (wr.drewN m) fun e w' => e = .returned (.int .u64 t) ∧ wr.drewN m = w') := fun m => by
          have h := nat_at _ _ b k (HY'.out.drewN m) (by omega) (by omega)
          rw [Ht.out] at h; exact h
        clear hs ht HR B0 B1 B2 B3 hbw
        go_wp2_with fail
        go_quiet (first | (with_reducible exact quiet_eq (CA.out _)) | (with_reducible exact quiet_eq (CB.out _)))
        go_wp2_with fail
        refine ⟨⟨k + 1, (q + (s + t)) / 4294967296, done ++ [(q + (s + t)) % 4294967296], by go_num, by go_num, by omega, by omega, by rw [List.length_append, Hdl.out]; rfl, hdw.append (Wd.one (by omega)), Hr.out, ?_, ?_, ?_, ?_, ?_⟩, by simp [intOf]; omega⟩
        · exact ((HB0.out.drewN _).far _ _ (by simp; try omega))
        · exact ((HB1.out.drewN _).far _ _ (by simp; try omega))
        · exact ((HB2.out.drewN _).far _ _ (by simp; try omega))
        · have h := (HB3.out.drewN nq).put k (.int .u32 (((q + (s + t)) % 4294967296 : Nat) : Int))
          rw [U32_set, set_mid _ _ _ _ _ Hdl.out, show n + 1 - k - 1 = n + 1 - (k + 1) by omega] at h
          have e : ((((q + (s + t)) % 4294967296 : Nat)) : Int) = ((q : Int) + ((s : Int) + t)) % 4294967296 := by omega
          rw [e] at h
          exact h
        · exact (below_drewN HBw.out _).setCell (by simp; try omega) _
      · obtain rfl : k = n + 1 := by omega
        have hE := add_end Hdl.out hdw HX.out.2 HY.out.2 hna hnb Hv.out
        have HE := Lib.hid hE
        rw [Nat.sub_self, List.replicate_zero, List.append_nil] at B3
        have hR : RL wr (.slice (some ⟨w.heap.size + 1 + 1 + 1, 0, none⟩) (n + 1) (n + 1)) done := RL_blk B3 hdw (n + 1) Hdl.out.symm
        have HRL := Lib.hid hR
        have hf2 := B2.frozen 0
        have c2 := B2.cell 0
        simp only [List.getElem?_cons_zero] at c2
        have HB2 := Lib.hid B2
        have HBw := Lib.hid hbw
        clear hE hR B0 B1 B2 B3 hbw c0 c1
        go_wp2_with ((go_at_call 63; refine (nat_trim _ _ done HRL.out (by rw [Hdl.out]; omega)).mono ?_; rintro e w' ⟨v', rfl, hr', hb'⟩; have HR' := Lib.hid hr'; obtain ⟨A', cc', rfl, -⟩ := hr'.form; have hB2' := HB2.out.below hb' HB2.out.lt; have hc2' := hB2'.cell 0; have hf2' := hB2'.frozen 0; simp only [List.getElem?_cons_zero] at hc2'; have HB2' := Lib.hid hB2'; have Hb' := Lib.hid hb'; clear hr' hB2' hb'))
        refine bodyPost_ret (v := .agg #[.slice A' _ cc']) (by simp [results, Tryz.results202, go_sem, hc2']; try rfl) rfl ?_
        refine ⟨_, rfl, ?_, ?_⟩
        · rw [← HE.out]
          exact HR'.out.far HB2'.out (by simp) _ _
        · exact (HBw.out.trans (Hb'.out.mono HBw.out.size)).setCell (by simp; omega) _

theorem RL.drew {w : World} {v : Value} {l : List Nat} (h : RL w v l) : RL w.drew v l := h.below ((Below.refl _ _).drew) (Nat.le_refl _)

set_option maxRecDepth 100000 in
theorem nat_Of (w : World) (n : Nat) (hn : n < 18446744073709551616) :
    Calls Tryz.prog 18 #[.int .u64 n] w fun e w' => ∃ v, e = .returned (.agg #[v]) ∧ RN w' v n ∧ Below w.heap.size w w' := by
  have hv : val [n % 4294967296, n / 4294967296] = n := by simp only [val]; omega
  have Hv := Lib.hid hv
  have hd : Wd [n % 4294967296, n / 4294967296] := by intro x hx; simp at hx; omega
  have Hd := Lib.hid hd
  have h1 : (n : Int) / 4294967296 < 4294967296 := by omega
  have h2 : (0 : Int) ≤ (n : Int) / 4294967296 := by omega
  clear hn hv hd
  go_enter Tryz.func18, Tryz.ntmps18
  go_wp2_with fail
  have B0 : Blk ((w.alloc (Obj.cells #[Value.slice none 0 0] 24)).alloc (Obj.cells #[Value.int IntKind.u32 (↑n % 4294967296), Value.int IntKind.u32 (↑n / 4294967296)] 43)) w.heap.size 24 [.slice none 0 0] := (Blk.made w 24 _ _ _ rfl rfl).alloc _
  have B1 : Blk ((w.alloc (Obj.cells #[Value.slice none 0 0] 24)).alloc (Obj.cells #[Value.int IntKind.u32 (↑n % 4294967296), Value.int IntKind.u32 (↑n / 4294967296)] 43)) (w.heap.size + 1) 43 (U32 [n % 4294967296, n / 4294967296]) := Blk.made _ 43 _ _ _ (by simp) (by simp [U32])
  refine (nat_trim _ _ _ (RL_blk B1 Hd.out 2 rfl) (by simp)).mono ?_
  rintro e w' ⟨v, rfl, hr, hb⟩
  rw [Hv.out] at hr
  obtain ⟨A, c, rfl, -⟩ := hr.form
  have B2 := B0.below hb B0.lt
  have c2 := B2.cell 0
  have f2 := B2.frozen 0
  simp only [List.getElem?_cons_zero] at c2
  have HR := Lib.hid hr
  have HB := Lib.hid B2
  have Hb := Lib.hid hb
  clear hr hb B0 B1 B2
  go_wp2
  refine bodyPost_ret (v := .agg #[.slice A _ c]) (by simp [results, Tryz.results18, go_sem, c2]; try rfl) rfl ?_
  refine ⟨_, rfl, HR.out.far HB.out (by simp) _ _, ?_⟩
  exact ((((Below.refl _ _).alloc (Nat.le_refl _) _).alloc (by simp) _).trans (Hb.out.mono (by simp; omega))).setCell (by simp) _

theorem u64_and1 (z : Nat) (h : z < 18446744073709551616) : Go.bits .and .u64 (z : Int) 1 = ((z % 2 : Nat) : Int) := by
  have := Go.u64_and_nat z 1 h (by omega)
  rw [Nat.and_one_is_mod] at this
  exact this
theorem sub_word (s t q : Nat) (hs : s < 4294967296) (ht : t < 4294967296) (hq : q ≤ 1) :
    ∃ d x r : Nat, IntKind.u64.wrap (IntKind.u64.wrap ((s : Int) - (t : Int)) - (q : Int)) = (d : Int) ∧ (d : Int) % 4294967296 = x ∧ Go.bits .and .u64 ((d : Int) / 4294967296) 1 = r ∧ r ≤ 1 ∧ (x < 4294967296 ∧ x + t + q = s + r * 4294967296) := by
  have hw : ∀ n : Int, IntKind.u64.wrap n = n % 18446744073709551616 := fun n => by simp [IntKind.wrap, IntKind.bits, IntKind.signed]
  simp only [hw]
  by_cases h : t + q ≤ s
  · refine ⟨s - t - q, s - t - q, 0, by omega, by omega, ?_, by omega, by omega, by omega⟩
    rw [show ((s - t - q : Nat) : Int) / 4294967296 = ((0 : Nat) : Int) by omega, u64_and1 0 (by omega)]
  · refine ⟨18446744073709551616 + s - t - q, 4294967296 + s - t - q, 1, by omega, by omega, ?_, by omega, by omega, by omega⟩
    rw [show ((18446744073709551616 + s - t - q : Nat) : Int) / 4294967296 = ((4294967295 : Nat) : Int) by omega, u64_and1 _ (by omega)]

set_option maxRecDepth 100000 in
theorem nat_Sub (w : World) (x y : Value) (a b : List Nat) (hx : RL w x a) (hy : RL w y b) (ha : a.length ≤ 100000000) (hb : b.length ≤ 100000000) (hle : val b ≤ val a) :
    Calls Tryz.prog 203 #[.agg #[x], .agg #[y]] w fun e w' => ∃ v, e = .returned (.tuple #[.agg #[v], .bool true]) ∧ RN w' v (val a - val b) ∧ Below w.heap.size w w' := by
  obtain ⟨i0, hi, hz0, hz1, hz2⟩ := info_parts Tryz_info43
  have HX := Lib.hid hx
  have HY := Lib.hid hy
  obtain ⟨A, c, rfl, hc, hdum⟩ := hx.form
  obtain ⟨A2, c2, rfl, hc2, hdum2⟩ := hy.form
  have hcmp : decide (cmpN (val a) (val b) < 0) = false := by
    rcases Nat.lt_or_ge (val b) (val a) with h | h
    · rw [cmpN_gt h]; rfl
    · rw [cmpN_eq (by omega)]; rfl
  generalize hcc : cmpN (val a) (val b) = cc at hcmp
  have Hcc := Lib.hid hcc
  clear hx hy hdum hdum2 hcc
  go_enter Tryz.func203, Tryz.ntmps203
  go_wp2_with fail
  have B0 : Blk (((w.alloc (.cells #[.slice A a.length c] 24)).alloc (.cells #[.slice A2 b.length c2] 24)).alloc (.cells #[.slice none 0 0] 24)) w.heap.size 24 [.slice A a.length c] := ((Blk.made w 24 _ _ _ rfl rfl).alloc _).alloc _
  have B1 : Blk (((w.alloc (.cells #[.slice A a.length c] 24)).alloc (.cells #[.slice A2 b.length c2] 24)).alloc (.cells #[.slice none 0 0] 24)) (w.heap.size + 1) 24 [.slice A2 b.length c2] := (Blk.made _ 24 _ _ _ (by simp) rfl).alloc _
  have B2 : Blk (((w.alloc (.cells #[.slice A a.length c] 24)).alloc (.cells #[.slice A2 b.length c2] 24)).alloc (.cells #[.slice none 0 0] 24)) (w.heap.size + 1 + 1) 24 [.slice none 0 0] := (Blk.made _ 24 _ _ _ (by simp) rfl)
  have BB : Below w.heap.size w (((w.alloc (.cells #[.slice A a.length c] 24)).alloc (.cells #[.slice A2 b.length c2] 24)).alloc (.cells #[.slice none 0 0] 24)) := (((Below.refl _ _).alloc (Nat.le_refl _) _).alloc (by simp) _).alloc (by simp; omega) _
  refine (nat_Cmp _ _ _ a b (HX.out.below BB (Nat.le_refl _)) (HY.out.below BB (Nat.le_refl _)) (by omega) (by omega)).mono ?_
  rintro e w1 ⟨rfl, hb1⟩
  rw [Hcc.out]
  have hz : w.heap.size + 1 + 1 + 1 ≤ w1.heap.size := by have := hb1.size; simp at this; omega
  replace B0 := B0.below hb1 B0.lt
  replace B1 := B1.below hb1 B1.lt
  replace B2 := B2.below hb1 B2.lt
  replace BB := BB.trans (hb1.mono BB.size)
  clear hb1
  have c0 := B0.cell 0
  have c1 := B1.cell 0
  simp only [List.getElem?_cons_zero] at c0 c1
  have HB0 := Lib.hid B0
  have HB1 := Lib.hid B1
  have HB2 := Lib.hid B2
  have HBB := Lib.hid BB
  clear B0 B1 B2 BB
  generalize hn : a.length = n at *
  have Hn := Lib.hid hn
  clear hn
  go_wp2_with (at_make; go_loud (refine wpList_make_blk _ rfl (.tmp 17) (.tmp 17) 22 rfl 43 i0 (.int .u32 0) Tryz.underlying22 hi hz0 hz1 rfl .i64 .i64 _ _ n rfl rfl rfl rfl (by rw [hz2]; omega) (by unfold maxLen; omega) ?_))
  go_wp2_with fail
  generalize hg : w1.heap.size = g at *
  go_loopw [7, 21] (fun s7 s21 wr => ∃ (k q : Nat) (done : List Nat), s21 = .int .i64 k ∧ s7 = .int .u64 q ∧ k ≤ n ∧ q ≤ 1 ∧ done.length = k ∧ Wd done ∧
      val done + val (b.take k) = val (a.take k) + q * 4294967296 ^ k ∧
      Blk wr w.heap.size 24 [.slice A n c] ∧ Blk wr (w.heap.size + 1) 24 [.slice A2 b.length c2] ∧ Blk wr (w.heap.size + 1 + 1) 24 [.slice none 0 0] ∧
      Blk wr g 43 (U32 (done ++ List.replicate (n - k) 0)) ∧ Below w.heap.size w wr) (fun _ i _ => n - (intOf i).toNat)
  case atStart =>
    refine ⟨0, 0, [], rfl, rfl, by omega, by omega, rfl, Wd.nil, by simp [val], HB0.out.alloc _, HB1.out.alloc _, HB2.out.alloc _, ?_, HBB.out.alloc (by omega) _⟩
    exact Blk.made _ 43 _ _ _ hg.symm (by simp [U32])
  case round =>
    obtain ⟨k, q, done, rfl, rfl, hk, hq, hdl, hdw, hv, B0, B1, B2, B3, hbw⟩ := hrel
    have Hv := Lib.hid hv
    have Hdl := Lib.hid hdl
    have Hg := Lib.hid hg
    have c0 := B0.cell 0
    have c1 := B1.cell 0
    simp only [List.getElem?_cons_zero] at c0 c1
    clear hv hdl hg
    by_cases hkn : k < n
    · have hR := rep_pos (n - k) (by omega)
      rw [hR] at B3
      have HRep := Lib.hid hR
      clear hR
      have hc3 := (B3.cell k).trans (U32_get _ k (by simp [Hdl.out]))
      have hf3 := B3.frozen k
      have hsa := HX.out.2.getD k
      have hsb := HY.out.2.getD k
      have HX' : Hid (RL wr _ a) := HX.out.below hbw (Nat.le_refl _)
      have HY' : Hid (RL wr _ b) := HY.out.below hbw (Nat.le_refl _)
      obtain ⟨d, x, r, hd1, hd2, hd3, hd4, hx4⟩ : ∃ d x r : Nat, IntKind.u64.wrap (IntKind.u64.wrap ((a.getD k 0 : Nat) - (b.getD k 0 : Nat)) - (q : Int)) = (d : Int) ∧ (d : Int) % 4294967296 = x ∧ Go.bits .and .u64 ((d : Int) / 4294967296) 1 = r ∧ r ≤ 1 ∧ (x < 4294967296 ∧ x + b.getD k 0 + q = a.getD k 0 + r * 4294967296) := sub_word _ _ _ hsa hsb hq
      have HR : Hid (_ ) := sub_round Hdl.out Hv.out hx4.2
      generalize hs : a.getD k 0 = s at *
      generalize ht : b.getD k 0 = t at *
      have Hs := Lib.hid hs
      have Ht := Lib.hid ht
      have Hx4 := Lib.hid hx4
      have HB0 := Lib.hid B0
      have HB1 := Lib.hid B1
      have HB2 := Lib.hid B2
      have HB3 := Lib.hid B3
      have HBw := Lib.hid hbw
      have hkn' : (k : Int) < (n : Int) := by omega
      have CA : Hid (∀ m, Calls Tryz.prog 198 #[.slice A n c, .int .i64 k] (wr.drewN m) fun e w' => e = .returned (.int .u64 s) ∧ wr.drewN m = w') := fun m => by
        have h := nat_at _ _ a k (HX'.out.drewN m) (by rw [Hn.out]; omega) (by omega)
        rw [Hs.out] at h; exact h
      have CB : Hid (∀ m, Calls Tryz.prog 198 #[.slice A2 b.length c2, .int .i64 k] (wr.drewN m) fun e w' => e = .returned (.int .u64 t) ∧ wr.drewN m = w') := fun m => by
        have h := nat_at _ _ b k (HY'.out.drewN m) (by omega) (by omega)
        rw [Ht.out] at h; exact h
      clear hs ht B0 B1 B2 B3 hbw hx4
      go_wp2_with fail
      go_quiet (first | (with_reducible exact quiet_eq (CA.out _)) | (with_reducible exact quiet_eq (CB.out _)))
      go_wp2_with fail
      refine ⟨⟨k + 1, r, done ++ [x], by go_num, by go_num, by omega, hd4, by rw [List.length_append, Hdl.out]; rfl, hdw.append (Wd.one Hx4.out.1), HR.out, ?_, ?_, ?_, ?_, ?_⟩, by simp [intOf]; omega⟩
      · exact ((HB0.out.drewN _).far _ _ (by simp; try omega))
      · exact ((HB1.out.drewN _).far _ _ (by simp; try omega))
      · exact ((HB2.out.drewN _).far _ _ (by simp; try omega))
      · have h := (HB3.out.drewN nq).put k (.int .u32 (x : Int))
        rw [U32_set, set_mid _ _ _ _ _ Hdl.out, show n - k - 1 = n - (k + 1) by omega] at h
        exact h
      · exact (below_drewN HBw.out _).setCell (by simp; try omega) _
    · obtain rfl : k = n := by omega
      have HE : Hid _ := sub_end Hdl.out hdw HX.out.2 Hn.out hle Hv.out
      rw [Nat.sub_self, List.replicate_zero, List.append_nil] at B3
      have HRL : Hid (RL wr (.slice (some ⟨g, 0, none⟩) k k) done) := RL_blk B3 hdw k Hdl.out.symm
      have hf2 := B2.frozen 0
      have c2 := B2.cell 0
      simp only [List.getElem?_cons_zero] at c2
      have HB2 := Lib.hid B2
      have HBw := Lib.hid hbw
      clear B0 B1 B2 B3 hbw c0 c1
      go_wp2_with ((go_at_call 63; refine (nat_trim _ _ done HRL.out (by rw [Hdl.out]; omega)).mono ?_; rintro e w' ⟨v', rfl, hr', hb'⟩; have HR' := Lib.hid hr'; obtain ⟨A', cc', rfl, -⟩ := hr'.form; have hB2' := HB2.out.below hb' HB2.out.lt; have hc2' := hB2'.cell 0; have hf2' := hB2'.frozen 0; simp only [List.getElem?_cons_zero] at hc2'; have HB2' := Lib.hid hB2'; have Hb' := Lib.hid hb'; clear hr' hB2' hb'))
      refine bodyPost_ret (v := .tuple #[.agg #[.slice A' _ cc'], .bool true]) (by simp [results, Tryz.results203, go_sem, hc2']; try rfl) rfl ?_
      refine ⟨_, rfl, ?_, ?_⟩
      · rw [← HE.out]
        exact HR'.out.far HB2'.out (by simp) _ _
      · exact (HBw.out.trans (Hb'.out.mono HBw.out.size)).setCell (by simp; omega) _

set_option maxRecDepth 100000 in
theorem nat_Sub_no (w : World) (x y : Value) (a b : List Nat) (hx : RL w x a) (hy : RL w y b) (ha : a.length ≤ 100000000) (hb : b.length ≤ 100000000) (hlt : val a < val b) :
    Calls Tryz.prog 203 #[.agg #[x], .agg #[y]] w fun e w' => e = .returned (.tuple #[.agg #[.slice none 0 0], .bool false]) ∧ Below w.heap.size w w' := by
  have HX := Lib.hid hx
  have HY := Lib.hid hy
  obtain ⟨A, c, rfl, hc, hdum⟩ := hx.form
  obtain ⟨A2, c2, rfl, hc2, hdum2⟩ := hy.form
  have hcmp : decide (cmpN (val a) (val b) < 0) = true := by rw [cmpN_lt hlt]; rfl
  generalize hcc : cmpN (val a) (val b) = cc at hcmp
  have Hcc := Lib.hid hcc
  clear hx hy hdum hdum2 hcc
  go_enter Tryz.func203, Tryz.ntmps203
  go_wp2_with fail
  have B2 : Blk (((w.alloc (.cells #[.slice A a.length c] 24)).alloc (.cells #[.slice A2 b.length c2] 24)).alloc (.cells #[.slice none 0 0] 24)) (w.heap.size + 1 + 1) 24 [.slice none 0 0] := (Blk.made _ 24 _ _ _ (by simp) rfl)
  have BB : Below w.heap.size w (((w.alloc (.cells #[.slice A a.length c] 24)).alloc (.cells #[.slice A2 b.length c2] 24)).alloc (.cells #[.slice none 0 0] 24)) := (((Below.refl _ _).alloc (Nat.le_refl _) _).alloc (by simp) _).alloc (by simp; omega) _
  refine (nat_Cmp _ _ _ a b (HX.out.below BB (Nat.le_refl _)) (HY.out.below BB (Nat.le_refl _)) (by omega) (by omega)).mono ?_
  rintro e w1 ⟨rfl, hb1⟩
  rw [Hcc.out]
  replace B2 := B2.below hb1 B2.lt
  replace BB := BB.trans (hb1.mono BB.size)
  have hf2 := B2.frozen 0
  have c2 := B2.cell 0
  simp only [List.getElem?_cons_zero] at c2
  have HBB := Lib.hid BB
  clear hb1 BB B2
  go_wp2
  refine bodyPost_ret (v := .tuple #[.agg #[.slice none 0 0], .bool false]) (by simp [results, Tryz.results203, go_sem, c2]; try rfl) rfl ?_
  exact ⟨rfl, HBB.out.setCell (by simp; omega) _⟩

end Go.Proofs.YtdgleeglndcjhaaGreatDoor
