/- Package nat: trim, order, at, Good, Cmp: each returns what it tells of the numbers of its words; no condition but a bound on the lengths. -/
import Derived.Test.YtdgleeglndcjhaaGreatDoorV
import Derived.Test.YtdgleeglndcjhaaGreatDoorM
namespace Go.Proofs.YtdgleeglndcjhaaGreatDoor
open Go.RowKit
set_option linter.unusedVariables false

def lenOf : Value → Nat | .slice _ k _ => k | _ => 0
def U32 (l : List Nat) : List Value := l.map fun x : Nat => Value.int .u32 (x : Int)
/-- The slice v has the words l. -/
def RL (w : World) (v : Value) (l : List Nat) : Prop := SlC w v 1 l.length (U32 l) ∧ Wd l
/-- The slice v has the words of n, without noughts at the end. -/
def RN (w : World) (v : Value) (n : Nat) : Prop := RL w v (wordsOf n)
theorem RL.below {w w' : World} {v : Value} {l : List Nat} {B : Nat} (h : RL w v l) (hb : Below B w w') (hB : w.heap.size ≤ B) : RL w' v l := ⟨h.1.below hb hB, h.2⟩
theorem RN.below {w w' : World} {v : Value} {n : Nat} {B : Nat} (h : RN w v n) (hb : Below B w w') (hB : w.heap.size ≤ B) : RN w' v n := RL.below h hb hB
theorem RN.raw {w : World} {v : Value} {n : Nat} (h : RN w v n) : RL w v (wordsOf n) := h
theorem RL.take {w : World} {A : Option Addr} {c : Nat} {l : List Nat} (h : RL w (.slice A l.length c) l) (k : Nat) (hk : k ≤ l.length) : RL w (.slice A k c) (l.take k) := by
  have := SlC.take h.1 k hk
  refine ⟨?_, h.2.take k⟩
  unfold U32
  rw [List.map_take, List.length_take, Nat.min_eq_left hk]
  simpa [U32] using this
/-- A row of words: its value, and each of its cells. -/
theorem RL.form {w : World} {v : Value} {l : List Nat} (h : RL w v l) : ∃ A c, v = .slice A l.length c ∧ l.length ≤ c ∧ (∀ k, k < l.length → ∃ b o, A = some ⟨b, o, none⟩ ∧ w.cell? ⟨b, o + k, none⟩ = some (.int .u32 (l.getD k 0 : Nat)) ∧ b < w.heap.size ∧ l.getD k 0 < 4294967296) := by
  obtain ⟨⟨A, c, rfl, hc, h3, h4⟩, hd⟩ := h
  refine ⟨A, c, rfl, hc, fun k hk => ?_⟩
  obtain ⟨b, o, e, h⟩ := h4 (by simp [U32]; omega)
  have hx := h k _ (show (U32 l)[k]? = some (.int .u32 (l.getD k 0 : Nat)) by simp [U32, hk])
  exact ⟨b, o, e, hx, World.block_lt_of_cell? w _ hx, hd.getD k⟩

theorem U32_length (l : List Nat) : (U32 l).length = l.length := by simp [U32]
theorem U32_get (l : List Nat) (i : Nat) (h : i < l.length) : (U32 l)[i]? = some (.int .u32 (l.getD i 0 : Nat)) := by simp [U32, h]
theorem U32_set (l : List Nat) (i : Nat) (x : Nat) : (U32 l).set i (.int .u32 (x : Int)) = U32 (l.set i x) := by simp [U32, List.map_set]
theorem U32_rep (n : Nat) : List.replicate n (Value.int .u32 0) = U32 (List.replicate n 0) := by simp [U32]
theorem set_mid (done rest : List Nat) (x y : Nat) (k : Nat) (h : done.length = k) : (done ++ x :: rest).set k y = done ++ [y] ++ rest := by
  subst h; simp
theorem rep_pos (n : Nat) (h : 0 < n) : List.replicate n (0 : Nat) = 0 :: List.replicate (n - 1) 0 := by
  obtain ⟨m, rfl⟩ : ∃ m, n = m + 1 := ⟨n - 1, by omega⟩
  simp [List.replicate_succ]
theorem getD_mid (done rest : List Nat) (x k : Nat) (h : done.length = k) : (done ++ x :: rest).getD k 0 = x := by
  subst h; simp
theorem RL_blk {w : World} {g : Nat} {l : List Nat} (h : Blk w g 43 (U32 l)) (hd : Wd l) (n : Nat) (hn : n = l.length) : RL w (.slice (some ⟨g, 0, none⟩) n n) l := by
  subst hn
  have := h.slc l.length l.length (by simp [U32]) (Nat.le_refl _)
  rw [List.take_of_length_le (by simp [U32])] at this
  exact ⟨this, hd⟩

theorem RL.drewN {w : World} {v : Value} {l : List Nat} (h : RL w v l) (n : Nat) : RL (w.drewN n) v l := h.below (below_drewN (Below.refl _ _) n) (Nat.le_refl _)
theorem Blk.drewN {w : World} {g : Nat} {t : TypeId} {l : List Value} (h : Blk w g t l) (n : Nat) : Blk (w.drewN n) g t l := h.below (below_drewN (Below.refl _ _) n) h.lt
theorem Blk.far {w : World} {g : Nat} {t : TypeId} {l : List Value} (h : Blk w g t l) (p : Addr) (u : Value) (hp : g ≠ p.block) : Blk (w.setCell p u) g t l := by
  unfold Blk at *
  rw [Below.heap_setCell _ _ _ _ hp]; exact h

/-- A store into a block that holds no words leaves a row of words as it was. -/
theorem RL.far {w : World} {v : Value} {l : List Nat} (h : RL w v l) {g : Nat} {t : TypeId} {cs : List Value} (hB : Blk w g t cs) (hcs : ∀ x ∈ cs, ∀ n, x ≠ .int .u32 n) (j : Nat) (u : Value) : RL (w.setCell ⟨g, j, none⟩ u) v l := by
  refine ⟨?_, h.2⟩
  obtain ⟨A, c, h1, h2, h3, h4⟩ := h.1
  refine ⟨A, c, h1, h2, h3, fun hp => ?_⟩
  obtain ⟨b, o, h5, h6⟩ := h4 hp
  have hne : b ≠ g := by
    rintro rfl
    have hl : 0 < l.length := by simpa [U32] using hp
    have h0 := h6 0 _ (U32_get l 0 hl)
    rw [hB.cell] at h0
    exact hcs _ (List.mem_of_getElem? h0) _ rfl
  refine ⟨b, o, h5, fun k x hx => ?_⟩
  rw [← h6 k x hx]
  unfold World.cell?
  rw [Below.heap_setCell _ _ _ _ hne]
theorem RN.far {w : World} {v : Value} {n : Nat} (h : RN w v n) {g : Nat} {t : TypeId} {cs : List Value} (hB : Blk w g t cs) (hcs : ∀ x ∈ cs, ∀ n, x ≠ .int .u32 n) (j : Nat) (u : Value) : RN (w.setCell ⟨g, j, none⟩ u) v n := RL.far h hB hcs j u

set_option maxRecDepth 100000 in
theorem nat_trim (w : World) (v : Value) (l : List Nat) (h : RL w v l) (hl : l.length ≤ 1000000000) :
   Calls Tryz.prog 63 #[v] w fun e w' => ∃ v', e = .returned (.agg #[v']) ∧ RN w' v' (val l) ∧ Below w.heap.size w w' := by
  have HR := Lib.hid h
  have HV := Lib.hid (trimL_val l h.2)
  obtain ⟨A, c, rfl, hc, hcell⟩ := h.form
  clear h
  go_enter Tryz.func63, Tryz.ntmps63
  go_wp2_with fail
  go_loop [0] (fun s => ∃ k, k ≤ l.length ∧ s = .slice A k c ∧ trimL (l.take k) = trimL l) (fun s => lenOf s)
  case atStart => exact ⟨l.length, Nat.le_refl _, rfl, by simp⟩
  case round =>
    obtain ⟨k, hk, rfl, hq⟩ := hrel
    have Hq := Lib.hid hq
    clear hq
    by_cases hk0 : 0 < k
    · obtain ⟨b, o, rfl, hx, hlt, hxb⟩ := hcell (k - 1) (by omega)
      obtain ⟨m, rfl⟩ : ∃ m, k = m + 1 := ⟨k - 1, by omega⟩
      simp only [Nat.add_sub_cancel] at hx hxb
      have hts := take_succ_getD l m (by omega)
      generalize l.getD m 0 = x at hx hts hxb
      have Hts := Lib.hid hts
      clear hts hcell
      by_cases hz : x = 0
      · subst hz
        go_wp2
        go_round
        case rel => exact ⟨m, by omega, by go_num, by rw [← Hq.out, Hts.out, trimL_snoc0]⟩
        case measure => simp [lenOf]
      · have hz' : ((x : Int) == 0) = false := by simpa using hz
        have Hz := Lib.hid hz
        clear hz
        go_wp2
        refine bodyPost_ret (v := .agg #[.slice (some ⟨b, o, none⟩) (m + 1) c]) (by simp [results, Tryz.results63, go_sem]) rfl ?_
        refine ⟨_, rfl, ?_, (Below.refl _ _).alloc (Nat.le_refl _) _⟩
        unfold RN
        rw [← HV.out, ← Hq.out, Hts.out, trimL_snoc _ _ Hz.out, ← Hts.out]
        exact (HR.out.take _ hk).below ((Below.refl w.heap.size _).alloc (Nat.le_refl _) _) (Nat.le_refl _)
    · obtain rfl : k = 0 := by omega
      go_wp2
      refine bodyPost_ret (v := .agg #[.slice A 0 c]) (by simp [results, Tryz.results63, go_sem]) rfl ?_
      refine ⟨_, rfl, ?_, (Below.refl _ _).alloc (Nat.le_refl _) _⟩
      unfold RN
      rw [← HV.out, ← Hq.out]
      exact (HR.out.take 0 hk).below ((Below.refl w.heap.size _).alloc (Nat.le_refl _) _) (Nat.le_refl _)

theorem nat_order (w : World) (b : Bool) : Calls Tryz.prog 179 #[.bool b] w fun e w' => e = .returned (.int .i64 (if b then -1 else 1)) ∧ w = w' := by
  cases b <;> (go_enter Tryz.func179, Tryz.ntmps179; go_wp2; go_ret; exact ⟨rfl, rfl⟩)

theorem nat_at (w : World) (v : Value) (l : List Nat) (i : Nat) (h : RL w v l) (hl : l.length ≤ 1000000000) (hi : i ≤ 1000000000) :
    Calls Tryz.prog 198 #[v, .int .i64 i] w fun e w' => e = .returned (.int .u64 (l.getD i 0 : Nat)) ∧ w = w' := by
  obtain ⟨A, c, rfl, hc, hcell⟩ := h.form
  clear h
  by_cases hlt : i < l.length
  · obtain ⟨b, o, rfl, hx, hb, hxb⟩ := hcell i hlt
    clear hcell
    generalize l.getD i 0 = x at hx hxb ⊢
    go_enter Tryz.func198, Tryz.ntmps198
    go_wp2
    go_ret
    exact ⟨rfl, rfl⟩
  · have h0 : l.getD i 0 = 0 := by rw [List.getD_eq_getElem?_getD, List.getElem?_eq_none (by omega)]; rfl
    rw [h0]
    clear hcell h0
    go_enter Tryz.func198, Tryz.ntmps198
    go_wp2
    go_ret
    exact ⟨rfl, rfl⟩

theorem cast_bne (x : Nat) : ((x : Int) != 0) = (x != 0) := by
  by_cases h : x = 0
  · subst h; rfl
  · have h2 : (x : Int) ≠ 0 := by omega
    rw [bne_iff_ne.2 h, bne_iff_ne.2 h2]
/-- Has a row no nought at its end? -/
def goodL (l : List Nat) : Bool := l.length == 0 || l.getD (l.length - 1) 0 != 0
theorem goodL_words {l : List Nat} (h : Wd l) (hg : goodL l = true) : wordsOf (val l) = l := by
  refine wordsOf_of_last h ?_
  simp only [goodL, Bool.or_eq_true, beq_iff_eq, bne_iff_ne] at hg
  exact hg.imp List.eq_nil_of_length_eq_zero id
theorem goodL_wordsOf (n : Nat) : goodL (wordsOf n) = true := by
  by_cases h : n = 0
  · subst h; rw [wordsOf_zero]; rfl
  · simp only [goodL, Bool.or_eq_true, bne_iff_ne]; exact .inr (wordsOf_last h)

theorem nat_Good (w : World) (v : Value) (l : List Nat) (h : RL w v l) (hl : l.length ≤ 1000000000) :
    Calls Tryz.prog 75 #[.agg #[v]] w fun e w' => e = .returned (.bool (goodL l)) ∧ Below w.heap.size w w' := by
  obtain ⟨A, c, rfl, hc, hcell⟩ := h.form
  clear h
  by_cases h0 : l.length = 0
  · have hg : goodL l = true := by simp [goodL, h0]
    rw [h0, hg]
    clear hcell hg h0
    go_enter Tryz.func75, Tryz.ntmps75
    go_wp2
    go_ret
    exact ⟨rfl, (Below.refl _ _).alloc (Nat.le_refl _) _⟩
  · obtain ⟨b, o, rfl, hx, hb, hxb⟩ := hcell (l.length - 1) (by omega)
    have hg : goodL l = ((l.getD (l.length - 1) 0 : Int) != 0) := by
      simp only [goodL, show (l.length == 0) = false by simpa using h0, Bool.false_or]
      exact (cast_bne _).symm
    rw [hg]
    generalize l.getD (l.length - 1) 0 = x at hx hxb ⊢
    generalize l.length = n at *
    have hn : 0 < n := by omega
    have hn' : ((n : Int) == 0) = false := by simpa using h0
    obtain ⟨m, rfl⟩ : ∃ m, n = m + 1 := ⟨n - 1, by omega⟩
    simp only [Nat.add_sub_cancel] at hx
    clear hcell hg h0
    go_enter Tryz.func75, Tryz.ntmps75
    go_wp2
    go_ret
    exact ⟨rfl, (Below.refl _ _).alloc (Nat.le_refl _) _⟩

set_option maxRecDepth 100000 in
theorem nat_Cmp (w : World) (x y : Value) (a b : List Nat) (hx : RL w x a) (hy : RL w y b) (ha : a.length ≤ 1000000000) (hb : b.length ≤ 1000000000) :
    Calls Tryz.prog 122 #[.agg #[x], .agg #[y]] w fun e w' => e = .returned (.int .i64 (cmpN (val a) (val b))) ∧ Below w.heap.size w w' := by
  have ha' : (wordsOf (val a)).length ≤ 1000000000 := Nat.le_trans ((length_wordsOf _ _).2 (val_lt a hx.2)) ha
  have hb' : (wordsOf (val b)).length ≤ 1000000000 := Nat.le_trans ((length_wordsOf _ _).2 (val_lt b hy.2)) hb
  obtain ⟨p, hp⟩ : ∃ p, p = val a := ⟨_, rfl⟩
  obtain ⟨q, hq⟩ : ∃ p, p = val b := ⟨_, rfl⟩
  rw [← hp, ← hq]
  rw [← hp] at ha'
  rw [← hq] at hb'
  have Hp := Lib.hid hp
  have Hq := Lib.hid hq
  clear hp hq
  go_enter Tryz.func122, Tryz.ntmps122
  go_wp2_with fail
  refine wp_letter (fun w1 => w1.cell? ⟨w.heap.size, 0, none⟩ = some x ∧ w1.cell? ⟨w.heap.size + 1, 0, none⟩ = some y ∧ w.heap.size + 2 ≤ w1.heap.size ∧ Below w.heap.size w w1) ⟨by simp [go_sem], by simp [go_sem], by simp, ((Below.refl _ _).alloc (by simp) _).alloc (by simp) _⟩ ?_
  rintro w1 ⟨cx, cy, hN, hB⟩
  have HK : Hid (∀ w', Below (w.heap.size + 2) w1 w' → w'.cell? ⟨w.heap.size, 0, none⟩ = some x ∧ w'.cell? ⟨w.heap.size + 1, 0, none⟩ = some y ∧ Below (w.heap.size + 2) w1 w') := fun w' h => ⟨(h.cell (by simp)).trans cx, (h.cell (by simp)).trans cy, h⟩
  have HX : Hid (∀ w', Below (w.heap.size + 2) w1 w' → RL w' x a ∧ RL w' y b) := fun w' h => ⟨hx.below (hB.trans (h.mono (by omega))) (Nat.le_refl _), hy.below (hB.trans (h.mono (by omega))) (Nat.le_refl _)⟩
  clear hx hy

  go_region_held3 (fun w' => w'.cell? ⟨w.heap.size, 0, none⟩ = some x ∧ w'.cell? ⟨w.heap.size + 1, 0, none⟩ = some y ∧ Below (w.heap.size + 2) w1 w')
    (first | exact HK.out _ (Below.refl _ _).drew | (go_split_ands; first | exact HK.out _ (below_on ‹Below (w.heap.size + 2) w1 _› hN hb3) | exact HK.out _ (below_on ‹Below (w.heap.size + 2) w1 _› hN hb2)))
    (first | ((with_reducible refine (nat_trim _ x a ?_ ha).mono ?_); (exact (HX.out _ (by go_split_ands; assumption)).1); rintro e w2 ⟨v2, rfl, hr2, hb2⟩)
           | ((with_reducible refine (nat_trim _ y b ?_ hb).mono ?_); (exact (HX.out _ (by go_split_ands; assumption)).2); rintro e w3 ⟨v3, rfl, hr3, hb3⟩))
  have HB3 : Hid (Below w.heap.size w w3) := by go_split_ands; exact hB.trans (Below.mono ‹_› (by omega))
  have hr2 := hr2.below hb3 (Nat.le_refl _)
  rw [← Hp.out] at hr2
  rw [← Hq.out] at hr3
  obtain ⟨A2, c2, rfl, hc2, hcell2⟩ := hr2.form
  obtain ⟨A3, c3, rfl, hc3, hcell3⟩ := hr3.form
  clear hr2 hr3 hb2 hb3 HK HX hN hB cx cy ha hb Hp Hq
  by_cases hlen : (wordsOf p).length = (wordsOf q).length
  · have hl1 : (((wordsOf p).length : Int) != ((wordsOf q).length : Int)) = false := by rw [hlen]; simp
    rw [hlen] at hcell2 
    have hp0 := words_top p
    have hq0 := words_top q
    rw [hlen] at hp0
    rw [← hq0] at hp0
    clear hq0
    have Htop := Lib.hid hp0
    clear hp0
    rw [hlen]
    go_wp2_with fail
    generalize hn : (wordsOf q).length = n at *
    have Hn := Lib.hid hn
    clear hn
    go_loopw [7] (fun i wr => ∃ k : Nat, k ≤ n ∧ i = .int .i64 ((k : Int) - 1) ∧ p / 4294967296 ^ k = q / 4294967296 ^ k ∧ Below w3.heap.size w3 wr) (fun i _ => (intOf i + 1).toNat)
    case atStart => exact ⟨n, Nat.le_refl _, rfl, Htop.out, Below.refl _ _⟩
    case round =>
      obtain ⟨k, hk, rfl, he, hbw⟩ := hrel
      have He := Lib.hid he
      clear he
      by_cases hk0 : 0 < k
      · obtain ⟨m, rfl⟩ : ∃ m, k = m + 1 := ⟨k - 1, by omega⟩
        rw [show (((m + 1 : Nat) : Int) - 1) = (m : Int) by omega]
        obtain ⟨b2, o2, rfl, hx2, hlt2, hxb2⟩ := hcell2 m (by omega)
        obtain ⟨b3, o3, rfl, hx3, hlt3, hxb3⟩ := hcell3 m (by omega)
        have hs := words_step He.out
        rw [← hbw.cell (p := ⟨b2, o2 + m, none⟩) hlt2] at hx2
        rw [← hbw.cell (p := ⟨b3, o3 + m, none⟩) hlt3] at hx3
        generalize hg2 : (wordsOf p).getD m 0 = s at *
        generalize hg3 : (wordsOf q).getD m 0 = t at *
        have Hg2 := Lib.hid hg2
        have Hg3 := Lib.hid hg3
        clear hg2 hg3
        have Hs := Lib.hid hs
        have hm0 : (0 : Int) ≤ (m : Int) := by omega
        have hmn : (m : Int) < (n : Int) := by omega
        clear hs hcell2 hcell3
        have HBw := Lib.hid hbw
        clear hbw
        by_cases hst : s = t
        · subst hst
          have hne : ((s : Int) != (s : Int)) = false := by simp
          go_wp2_with fail
          go_quiet (fail)
          go_wp2_with fail
          refine ⟨⟨m, by omega, rfl, Hs.out.1 (by first | rfl | trivial), below_drewN HBw.out _⟩, by simp [intOf]⟩
        · have hne : ((s : Int) != (t : Int)) = true := by rw [bne_iff_ne]; omega
          go_wp2_with fail
          go_quiet (fail)
          have hx4 : (wr.drewN nq).cell? ⟨b2, o2 + m, none⟩ = some (.int .u32 s) := hx2
          have hx5 : (wr.drewN nq).cell? ⟨b3, o3 + m, none⟩ = some (.int .u32 t) := hx3
          have HB4 : Hid (Below w3.heap.size w3 (wr.drewN nq)) := below_drewN HBw.out _
          generalize wr.drewN nq = w4 at hx4 hx5 HB4 ⊢
          clear hx2 hx3 HBw
          by_cases hlt : s < t
          · go_wp2_with fail
            go_quiet ((go_at_call 179; exact quiet_eq (nat_order _ _)))
            go_wp2
            go_ret
            rw [cmpN_lt (Hs.out.2 hlt)]
            exact ⟨rfl, HB3.out.trans ((below_drewN HB4.out _).mono HB3.out.size)⟩
          · go_wp2_with fail
            go_quiet ((go_at_call 179; exact quiet_eq (nat_order _ _)))
            go_wp2
            go_ret
            rw [cmpN_gt ((words_step He.out.symm).2 (by rw [Hg2.out, Hg3.out]; omega))]
            exact ⟨rfl, HB3.out.trans ((below_drewN HB4.out _).mono HB3.out.size)⟩
      · obtain rfl : k = 0 := by omega
        go_wp2
        go_ret
        refine ⟨?_, HB3.out.trans (hbw.mono HB3.out.size)⟩
        rw [cmpN_eq (by have := He.out; simpa using this)]
        rfl
  · have hl1 : (((wordsOf p).length : Int) != ((wordsOf q).length : Int)) = true := by rw [bne_iff_ne]; omega
    by_cases hlt : (wordsOf p).length < (wordsOf q).length
    · have Hlt := Lib.hid (cmpN_lt (words_lt hlt))
      generalize (wordsOf p).length = m at *
      generalize (wordsOf q).length = n at *
      clear hcell2 hcell3
      go_wp2_with ((go_at_call 179; refine (nat_order _ _).mono ?_; rintro e w' ⟨rfl, rfl⟩))
      go_ret
      refine ⟨?_, HB3.out⟩
      rw [Hlt.out]
      simp
    · have Hlt := Lib.hid (cmpN_gt (words_lt (p := q) (q := p) (by omega)))
      generalize (wordsOf p).length = m at *
      generalize (wordsOf q).length = n at *
      clear hcell2 hcell3
      go_wp2_with ((go_at_call 179; refine (nat_order _ _).mono ?_; rintro e w' ⟨rfl, rfl⟩))
      go_ret
      refine ⟨?_, HB3.out⟩
      rw [Hlt.out]
      simp

end Go.Proofs.YtdgleeglndcjhaaGreatDoor
