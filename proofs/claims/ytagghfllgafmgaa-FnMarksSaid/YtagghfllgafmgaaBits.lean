/-
  Plain laws: the bits of pictures, how many there are.
-/
import Derived.Test.YtagghfllgafmgaaCov
import Derived.Test.YtagghfllgafmgaaDraw
namespace Go.Proofs.Ytagghfllgafmgaa
set_option linter.unusedVariables false
set_option linter.unusedSimpArgs false
open Go.RowKit
theorem picF_bit (q : Nat → Bool) (i : Nat) : ∀ n, n ≤ 64 → (picF q n).testBit i = (decide (i < n) && q i)
  | 0, _ => by show (0 : Nat).testBit i = _; simp
  | n + 1, h => by
    have ih := picF_bit q i n (by omega)
    have h2 : (1 <<< n) % 18446744073709551616 = 2 ^ n := by
      rw [Nat.one_shiftLeft, Nat.mod_eq_of_lt (show 2 ^ n < 2 ^ 64 from Nat.pow_lt_pow_right (by decide) (by omega))]
    cases hq : q n with
    | true =>
      rw [← picF_t rfl hq, Nat.testBit_or, ih, h2, Nat.testBit_two_pow]
      rcases Nat.lt_trichotomy i n with hi | rfl | hi
      · rw [decide_eq_true hi, decide_eq_true (show i < n + 1 by omega), decide_eq_false (by omega)]; simp
      · rw [hq]; simp
      · rw [decide_eq_false (by omega), decide_eq_false (show ¬ i < n + 1 by omega), decide_eq_false (by omega)]; rfl
    | false =>
      rw [← picF_f rfl hq, ih]
      rcases Nat.lt_trichotomy i n with hi | rfl | hi
      · rw [decide_eq_true hi, decide_eq_true (show i < n + 1 by omega)]
      · rw [hq]; simp
      · rw [decide_eq_false (by omega), decide_eq_false (show ¬ i < n + 1 by omega)]
theorem bitB_test (y i : Nat) : bitB y i = y.testBit i := by
  unfold bitB
  rw [Nat.testBit, Nat.and_comm 1]
  have : (y >>> i) &&& 1 ≤ 1 := Nat.and_le_right
  rcases (show (y >>> i) &&& 1 = 0 ∨ (y >>> i) &&& 1 = 1 by omega) with h | h <;> rw [h] <;> rfl
def pcS (f : Nat) : Nat → Nat
  | 0 => 0
  | k + 1 => pcS f k + ((f >>> k) &&& 1)
theorem pcS_low (f : Nat) : ∀ k, pcS f (k + 1) = (f &&& 1) + pcS (f >>> 1) k
  | 0 => by simp [pcS]
  | k + 1 => by rw [pcS, pcS_low f k, pcS, ← Nat.shiftRight_add, Nat.add_comm 1 k]; omega
theorem pc_pcS : ∀ (k f : Nat), f < 2 ^ k → f < 18446744073709551616 → pc f = pcS f k
  | 0, f, h, _ => by
    obtain rfl : f = 0 := by simpa using h
    unfold pc; rfl
  | k + 1, f, h, h2 => by
    have h3 : f >>> 1 < 2 ^ k := by rw [Nat.shiftRight_eq_div_pow]; exact Nat.div_lt_of_lt_mul (by rw [Nat.pow_succ] at h; omega)
    have h4 : f >>> 1 ≤ f := by rw [Nat.shiftRight_eq_div_pow]; exact Nat.div_le_self _ _
    rw [pc_step h2, pcS_low, pc_pcS k (f >>> 1) h3 (by omega)]
theorem fl_pcS (f : Nat) : ∀ k, flN (bitB f) k = pcS f k
  | 0 => rfl
  | k + 1 => by
    have hb : (f >>> k) &&& 1 ≤ 1 := Nat.and_le_right
    cases hq : bitB f k with
    | true =>
      have h1 : (f >>> k) &&& 1 = 1 := by unfold bitB at hq; exact of_decide_eq_true hq
      rw [← flN_t rfl hq, fl_pcS f k, pcS, h1]
    | false =>
      have h1 : ¬ (f >>> k) &&& 1 = 1 := by unfold bitB at hq; exact of_decide_eq_false hq
      rw [← flN_f rfl hq, fl_pcS f k, pcS, show (f >>> k) &&& 1 = 0 by omega]; rfl
theorem bit_pic {q : Nat → Bool} {k : Nat} (h : k < 64) : bitB (pic q) k = q k := by
  unfold pic
  rw [bitB_test, picF_bit q k 64 (Nat.le_refl _), decide_eq_true h]; rfl
theorem bit1 (z j : Nat) : (z >>> j) &&& 1 = if z.testBit j = true then 1 else 0 := by
  have h1 : (z >>> j) &&& 1 ≤ 1 := Nat.and_le_right
  have h2 := bitB_test z j
  unfold bitB at h2
  rw [← h2]
  by_cases h : (z >>> j) &&& 1 = 1
  · rw [h]; rfl
  · rw [decide_eq_false h, if_neg (by decide)]; omega
end Go.Proofs.Ytagghfllgafmgaa
