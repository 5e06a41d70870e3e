/- Plain mathematics of numbers in words, more. -/
import Derived.Test.YtdgleeglndcjhaaGreatDoorM
namespace Go.Proofs.YtdgleeglndcjhaaGreatDoor
set_option linter.unusedVariables false

theorem addback_end {done u' : List Nat} {n c z W V q R : Nat} (hk : done.length = n) (hd : Wd done) (hul : u'.length = n + 1) (hz : z = u'.getD n 0) (hzB : z < 4294967296) (hc : c ≤ 1)
    (h : val done + c * 4294967296 ^ n = val (u'.take n) + V) (h1 : val u' + q * V = W + 1 * 4294967296 ^ (n + 1)) (h2 : R + q * V = W + V) (hR : R < 4294967296 ^ n) : (z + c) % 4294967296 = 0 ∧ val (done ++ [0]) = R := by
  have h0 : val u' = val (u'.take n) + 4294967296 ^ n * z := by
    have := val_take_succ u' n
    rwa [List.take_of_length_le (by omega), ← hz] at this
  have h3 := val_lt done hd
  rw [hk] at h3
  rw [Nat.pow_succ] at h1
  generalize 4294967296 ^ n = P at *
  have h4 : val done + P * (z + c) = R + P * 4294967296 := by
    rw [Nat.mul_add, Nat.mul_comm P c]; omega
  have h5 : z + c = 4294967296 := by
    rcases Nat.lt_or_ge (z + c) 4294967296 with h6 | h6
    · exfalso
      have : P * (z + c + 1) ≤ P * 4294967296 := Nat.mul_le_mul_left _ h6
      rw [Nat.mul_add, Nat.mul_one] at this
      omega
    · omega
  rw [h5] at h4
  exact ⟨by omega, by rw [val_snoc]; omega⟩

/-! Dividing: the loop over the digits -/
theorem div_round {U0 U suf : List Nat} {j V R : Nat} (hV : 0 < V) (hj : j < U0.length) (hUj : U.getD j 0 = U0.getD j 0) (hUl : U.length = U0.length)
    (hR : val (U.drop (j + 1)) = R) (hRV : R < V) (hB : U.getD j 0 < 4294967296) (hs : val suf * V + R = val (U0.drop (j + 1))) :
    val (U.drop j) < V * 4294967296 ∧ val (val (U.drop j) / V :: suf) * V + val (U.drop j) % V = val (U0.drop j) ∧ val (U.drop j) / V < 4294967296 := by
  rw [drop_cons_getD U j (by omega), drop_cons_getD U0 j hj, hUj]
  rw [hUj] at hB
  simp only [val]
  rw [hR]
  generalize U0.getD j 0 = x at *
  have h1 : x + 4294967296 * R < V * 4294967296 := by
    have : (R + 1) * 4294967296 ≤ V * 4294967296 := Nat.mul_le_mul_right _ hRV
    omega
  refine ⟨h1, ?_, ?_⟩
  · rw [← hs, Nat.add_mul, Nat.mul_add]
    have := Nat.div_add_mod (x + 4294967296 * R) V
    rw [Nat.mul_assoc 4294967296, Nat.mul_comm ((x + 4294967296 * R) / V) V]
    omega
  · rw [Nat.div_lt_iff_lt_mul hV]; omega
/-- What is above the window is nought. -/
theorem val_split (l : List Nat) (n : Nat) (h : val l < 4294967296 ^ n) (hl : Wd l) : val (l.take n) = val l ∧ ∀ k, n ≤ k → l.getD k 0 = 0 := by
  constructor
  · rcases Nat.lt_or_ge l.length n with h1 | h1
    · rw [List.take_of_length_le (by omega)]
    · have h2 := val_take_drop l n h1
      rcases Nat.eq_zero_or_pos (val (l.drop n)) with h3 | h3
      · rw [h3] at h2; omega
      · have : 4294967296 ^ n ≤ 4294967296 ^ n * val (l.drop n) := Nat.le_mul_of_pos_right _ h3
        omega
  · intro k hk
    rw [getD_val l hl, Nat.div_eq_of_lt (Nat.lt_of_lt_of_le h (Nat.pow_le_pow_right (by omega) hk))]
/-- The first window holds less than the divisor. -/
theorem div_first {U : List Nat} {X Y p n m : Nat} (hU : val U = X * p) (hUd : Wd U) (hml : m + 1 ≤ U.length) (hX : X < 4294967296 ^ (m + n)) (hY : 4294967296 ^ (n - 1) ≤ Y) (hn : 1 ≤ n) (hp : 0 < p) : val (U.drop (m + 1)) < Y * p := by
  have h1 := val_take_drop U (m + 1) hml
  rw [hU] at h1
  obtain ⟨n', rfl⟩ : ∃ n', n = n' + 1 := ⟨n - 1, by omega⟩
  rw [Nat.add_sub_cancel] at hY
  have h2 : X * p < 4294967296 ^ (m + (n' + 1)) * p := Nat.mul_lt_mul_of_pos_right hX hp
  have h3 : 4294967296 ^ (m + (n' + 1)) * p = 4294967296 ^ (m + 1) * (4294967296 ^ n' * p) := by rw [← Nat.mul_assoc, ← Nat.pow_add]; congr 2; omega
  have h4 : 4294967296 ^ (m + 1) * val (U.drop (m + 1)) < 4294967296 ^ (m + 1) * (4294967296 ^ n' * p) := by omega
  exact Nat.lt_of_lt_of_le (Nat.lt_of_mul_lt_mul_left h4) (Nat.mul_le_mul_right _ hY)
theorem div_last {X Y p Q R : Nat} (hp : 0 < p) (hY : 0 < Y) (h : Q * (Y * p) + R = X * p) (hR : R < Y * p) : Q = X / Y ∧ R / p = X % Y := by
  have h1 : X * p / (Y * p) = Q := by
    rw [← h, Nat.mul_comm Q, Nat.mul_add_div (Nat.mul_pos hY hp), Nat.div_eq_of_lt hR, Nat.add_zero]
  have h2 : X * p % (Y * p) = R := by rw [← h, Nat.mul_comm Q, Nat.mul_add_mod, Nat.mod_eq_of_lt hR]
  rw [Nat.mul_div_mul_right _ _ hp] at h1
  rw [Nat.mul_mod_mul_right] at h2
  exact ⟨h1.symm, by rw [← h2, Nat.mul_div_cancel _ hp]⟩
theorem top_shift {x b : Nat} (h1 : 2 ^ (b - 1) ≤ x) (h2 : x < 2 ^ b) (hb : 1 ≤ b) (hb32 : b ≤ 32) : 2147483648 ≤ x * 2 ^ (32 - b) ∧ x * 2 ^ (32 - b) < 4294967296 := by
  have e1 : 2 ^ (b - 1) * 2 ^ (32 - b) = 2147483648 := by rw [← Nat.pow_add, show b - 1 + (32 - b) = 31 by omega]
  have e2 : 2 ^ b * 2 ^ (32 - b) = 4294967296 := by rw [← Nat.pow_add, show b + (32 - b) = 32 by omega]
  have h3 : 2 ^ (b - 1) * 2 ^ (32 - b) ≤ x * 2 ^ (32 - b) := Nat.mul_le_mul_right _ h1
  have h4 : x * 2 ^ (32 - b) < 2 ^ b * 2 ^ (32 - b) := Nat.mul_lt_mul_of_pos_right h2 (Nat.pow_pos (by omega))
  omega
/-- The highest word of a shifted row. -/
theorem shifted_top {L : List Nat} {Y n s : Nat} (hL : Wd L) (hv : val L = Y * 2 ^ s) (hn : 1 ≤ n) (hY : Y < 4294967296 ^ n) (h1 : 2147483648 ≤ Y / 4294967296 ^ (n - 1) * 2 ^ s) (h2 : (Y / 4294967296 ^ (n - 1) + 1) * 2 ^ s ≤ 4294967296) :
    val (L.take n) = Y * 2 ^ s ∧ 2147483648 ≤ L.getD (n - 1) 0 := by
  obtain ⟨k, rfl⟩ : ∃ k, n = k + 1 := ⟨n - 1, by omega⟩
  rw [Nat.add_sub_cancel] at *
  have hp : 0 < 2 ^ s := Nat.pow_pos (by omega)
  have hP : 0 < 4294967296 ^ k := Nat.pow_pos (by omega)
  have h3 : Y < (Y / 4294967296 ^ k + 1) * 4294967296 ^ k := by
    have := Nat.div_add_mod Y (4294967296 ^ k)
    have h4 := Nat.mod_lt Y hP
    rw [Nat.add_mul, Nat.one_mul, Nat.mul_comm]; omega
  have h5 : Y * 2 ^ s < 4294967296 ^ (k + 1) := by
    calc Y * 2 ^ s < (Y / 4294967296 ^ k + 1) * 4294967296 ^ k * 2 ^ s := Nat.mul_lt_mul_of_pos_right h3 hp
      _ = (Y / 4294967296 ^ k + 1) * 2 ^ s * 4294967296 ^ k := by rw [Nat.mul_right_comm]
      _ ≤ 4294967296 * 4294967296 ^ k := Nat.mul_le_mul_right _ h2
      _ = 4294967296 ^ (k + 1) := by rw [Nat.pow_succ, Nat.mul_comm]
  refine ⟨by rw [(val_split L (k + 1) (by rw [hv]; exact h5) hL).1, hv], ?_⟩
  rw [getD_val L hL, hv, Nat.mod_eq_of_lt (by rw [Nat.div_lt_iff_lt_mul hP, ← Nat.pow_succ']; exact h5)]
  refine Nat.le_trans h1 ?_
  rw [Nat.le_div_iff_mul_le hP]
  have := Nat.div_mul_le_self Y (4294967296 ^ k)
  calc Y / 4294967296 ^ k * 2 ^ s * 4294967296 ^ k = Y / 4294967296 ^ k * 4294967296 ^ k * 2 ^ s := by rw [Nat.mul_right_comm]
    _ ≤ Y * 2 ^ s := Nat.mul_le_mul_right _ this

theorem length_mono {a b : Nat} (h : a ≤ b) : (wordsOf a).length ≤ (wordsOf b).length :=
  (length_wordsOf a _).2 (Nat.lt_of_le_of_lt h ((length_wordsOf b _).1 (Nat.le_refl _)))
theorem length_val {l : List Nat} (h : Wd l) : (wordsOf (val l)).length ≤ l.length := (length_wordsOf _ _).2 (val_lt l h)

end Go.Proofs.YtdgleeglndcjhaaGreatDoor
