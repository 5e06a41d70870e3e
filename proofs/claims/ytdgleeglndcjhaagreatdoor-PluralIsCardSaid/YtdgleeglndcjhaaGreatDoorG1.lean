/- Package rule: number. -/
import Derived.Test.YtdgleeglndcjhaaGreatDoorG0
namespace Go.Proofs.YtdgleeglndcjhaaGreatDoor
open Go.RowKit
set_option linter.unusedVariables false
set_option linter.unusedSimpArgs false

set_option maxRecDepth 100000 in
set_option maxHeartbeats 2000000 in
theorem rule_number (w : World) (s : ByteArray) (hs : s.size ≤ 1000000) :
    Calls Tryz.prog 82 #[.string s] w fun e w' => e = .returned (.tuple #[.int .i64 (((num? s.data.toList).getD 0 : Nat) : Int), .bool (num? s.data.toList).isSome]) ∧ Below w.heap.size w w' := by
  by_cases h0 : s.data.toList = []
  · have e : s = ⟨#[]⟩ := by rw [← mk_data s, h0]
    subst e
    have hn : num? (⟨#[]⟩ : ByteArray).data.toList = none := num?_none (.inl rfl)
    rw [hn]
    clear hn h0
    go_enter Tryz.func82, Tryz.ntmps82
    go_wp2_with fail
    go_ret2
    exact ⟨rfl, Below.refl _ _⟩
  · have he : s.toList.isEmpty = false := by
      rw [Lib.toList_data]; cases h : s.data.toList with
      | nil => exact absurd h h0
      | cons a b => rfl
    have hlen : s.data.toList.length = s.size := (Lib.size_eq s).symm
    by_cases h9 : 9 < s.size
    · have hn : num? s.data.toList = none := num?_none (.inr (.inl (by omega)))
      rw [hn]
      have h9' : (9 : Int) < (s.size : Int) := by omega
      clear hn hlen h0
      go_enter Tryz.func82, Tryz.ntmps82
      go_wp2_with fail
      go_ret2
      exact ⟨rfl, Below.refl _ _⟩
    · have h9' : ¬ (9 : Int) < (s.size : Int) := by omega
      by_cases hd : ∀ b ∈ s.data.toList, isDig b = true
      · have ht : Lib.trimS s.data.toList digs = [] := (trim_nil _).2 hd
        have HT := Lib.hid ht
        by_cases hz : 1 < s.data.toList.length ∧ s.data.toList.head? = some 48
        · have hn : num? s.data.toList = none := num?_none (.inr (.inr (.inr hz)))
          rw [hn]
          have h1 : (1 : Int) < (s.size : Int) := by omega
          have h0' : 0 < s.size := by omega
          have hc : ((s[0].toNat : Int) == 48) = true := by
            have := hz.2
            rw [List.head?_eq_getElem?, Lib.data_getElem? s 0 h0'] at this
            rw [Option.some.inj this]; rfl
          clear hn hlen h0 hz ht hd
          go_enter Tryz.func82, Tryz.ntmps82
          go_wp2_with ((with_reducible refine (str_trim s _ hs).mono ?_); rintro e w1 ⟨rfl, hb⟩; rw [HT.out]; have HB := Lib.hid hb; clear hb)
          go_ret2
          exact ⟨rfl, HB.out⟩
        · obtain ⟨n, hn, ha⟩ := num?_isSome h0 (by omega) hd hz
          rw [hn]
          have HA := Lib.hid ha
          by_cases h1 : 1 < s.size
          · have h1' : (1 : Int) < (s.size : Int) := by omega
            have h0' : 0 < s.size := by omega
            have hc : ((s[0].toNat : Int) == 48) = false := by
              rw [beq_eq_false_iff_ne]
              intro e
              refine hz ⟨by omega, ?_⟩
              rw [List.head?_eq_getElem?, Lib.data_getElem? s 0 h0']
              congr 1
              apply UInt8.toNat_inj.1
              exact Int.ofNat.inj e
            clear hn hlen h0 hz ht hd ha
            go_enter Tryz.func82, Tryz.ntmps82
            go_wp2_with (first
              | ((with_reducible refine (str_trim s _ hs).mono ?_); rintro e w1 ⟨rfl, hb⟩; rw [HT.out]; have HB := Lib.hid hb; clear hb)
              | ((with_reducible refine (Tryz.strconv_Atoi s n (by omega) HA.out _).mono ?_); rintro e w2 ⟨rfl, t, rfl⟩))
            go_quiet (fail)
            go_wp2_with fail
            go_ret2
            exact ⟨rfl, below_drewN (HB.out.trans ((Lib.bytesWorld_below _ _ _).mono HB.out.size)) _⟩
          · have h1' : ¬ (1 : Int) < (s.size : Int) := by omega
            clear hn hlen h0 hz ht hd ha
            go_enter Tryz.func82, Tryz.ntmps82
            go_wp2_with (first
              | ((with_reducible refine (str_trim s _ hs).mono ?_); rintro e w1 ⟨rfl, hb⟩; rw [HT.out]; have HB := Lib.hid hb; clear hb)
              | ((with_reducible refine (Tryz.strconv_Atoi s n (by omega) HA.out _).mono ?_); rintro e w2 ⟨rfl, t, rfl⟩))
            go_quiet (fail)
            go_wp2_with fail
            go_ret2
            exact ⟨rfl, below_drewN (HB.out.trans ((Lib.bytesWorld_below _ _ _).mono HB.out.size)) _⟩
      · have hx : ∃ b ∈ s.data.toList, isDig b = false := by
          simp only [Classical.not_forall] at hd
          obtain ⟨b, hb, h⟩ := hd
          exact ⟨b, hb, by simpa using h⟩
        have hn : num? s.data.toList = none := num?_none (.inr (.inr (.inl hx)))
        rw [hn]
        have ht : Lib.trimS s.data.toList digs ≠ [] := fun e => hd ((trim_nil _).1 e)
        obtain ⟨t, hteq, hte⟩ : ∃ t : ByteArray, (⟨(Lib.trimS s.data.toList digs).toArray⟩ : ByteArray) = t ∧ t.toList.isEmpty = false := by
          refine ⟨_, rfl, ?_⟩
          rw [Lib.toList_data]
          cases h : Lib.trimS s.data.toList digs with
          | nil => exact absurd h ht
          | cons a b => rfl
        have HT := Lib.hid hteq
        clear hn hlen h0 ht hd hx hteq
        go_enter Tryz.func82, Tryz.ntmps82
        go_wp2_with ((with_reducible refine (str_trim s _ hs).mono ?_); rintro e w1 ⟨rfl, hb⟩; rw [HT.out]; have HB := Lib.hid hb; clear hb)
        go_ret2
        exact ⟨rfl, HB.out⟩
end Go.Proofs.YtdgleeglndcjhaaGreatDoor
