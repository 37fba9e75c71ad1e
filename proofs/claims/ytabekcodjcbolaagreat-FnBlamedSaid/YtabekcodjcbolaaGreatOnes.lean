/-
  Plain laws: how many bits of a number of 64 bits are set, counted in parallel.
-/
import Derived.Test.YtabekcodjcbolaaGreatBits
import Derived.KernelRfl
namespace Go.Proofs.YtabekcodjcbolaaGreat
set_option linter.unusedVariables false
set_option linter.unusedSimpArgs false
open Go.RowKit
def byB (w : Nat) : (Nat → Nat) → Nat → Nat
  | _, 0 => 0
  | f, k + 1 => 2 ^ w * byB w (fun i => f (i + 1)) k + f 0
theorem byB_congr {w : Nat} : ∀ {k : Nat} {f g : Nat → Nat}, (∀ i, i < k → f i = g i) → byB w f k = byB w g k
  | 0, _, _, _ => rfl
  | k + 1, f, g, h => by rw [byB, byB, h 0 (by omega), byB_congr (k := k) (f := fun i => f (i + 1)) (g := fun i => g (i + 1)) fun i hi => h (i + 1) (by omega)]
theorem byB_add {w : Nat} : ∀ (k : Nat) (f g : Nat → Nat), byB w f k + byB w g k = byB w (fun i => f i + g i) k
  | 0, _, _ => rfl
  | k + 1, f, g => by rw [byB, byB, byB, ← byB_add k, Nat.mul_add]; omega
theorem byB_top {w : Nat} : ∀ (k : Nat) (f : Nat → Nat), f k = 0 → byB w f (k + 1) = byB w f k
  | 0, f, h => by simp [byB, h]
  | k + 1, f, h => by rw [byB, byB_top k (fun i => f (i + 1)) h, byB]
theorem and_split {w s a0 A m0 M : Nat} (ha : a0 < 2 ^ w) (hm : m0 < 2 ^ (w - s)) (hs : s ≤ w) : ((2 ^ w * A + a0) >>> s) &&& (2 ^ w * M + m0) = 2 ^ w * ((A >>> s) &&& M) + ((a0 >>> s) &&& m0) := by
  have hm2 : m0 < 2 ^ w := Nat.lt_of_lt_of_le hm (Nat.pow_le_pow_right (by decide) (by omega))
  have hl : (a0 >>> s) &&& m0 < 2 ^ w := Nat.lt_of_le_of_lt Nat.and_le_right hm2
  apply Nat.eq_of_testBit_eq
  intro j
  rw [Nat.testBit_and, Nat.testBit_shiftRight, Nat.testBit_two_pow_mul_add _ ha, Nat.testBit_two_pow_mul_add _ hm2, Nat.testBit_two_pow_mul_add _ hl]
  by_cases hj : j < w
  · rw [if_pos hj, if_pos hj, Nat.testBit_and, Nat.testBit_shiftRight]
    by_cases h2 : s + j < w
    · rw [if_pos h2]
    · rw [if_neg h2, Nat.testBit_lt_two_pow (Nat.lt_of_lt_of_le hm (Nat.pow_le_pow_right (by decide) (by omega)))]; simp
  · rw [if_neg hj, if_neg hj, if_neg (by omega), Nat.testBit_and, Nat.testBit_shiftRight, show s + j - w = s + (j - w) by omega]
theorem byB_and {w s : Nat} (hs : s ≤ w) : ∀ (k : Nat) (f m : Nat → Nat), (∀ i, f i < 2 ^ w) → (∀ i, m i < 2 ^ (w - s)) → (byB w f k >>> s) &&& byB w m k = byB w (fun i => (f i >>> s) &&& m i) k
  | 0, _, _, _, _ => by simp [byB]
  | k + 1, f, m, hf, hm => by rw [byB, byB, byB, and_split (hf 0) (hm 0) hs, byB_and hs k _ _ (fun i => hf (i + 1)) (fun i => hm (i + 1))]
theorem byB_shr {w : Nat} (k : Nat) (f : Nat → Nat) (h : f 0 < 2 ^ w) : byB w f (k + 1) >>> w = byB w (fun i => f (i + 1)) k := by
  rw [byB, Nat.shiftRight_eq_div_pow, Nat.mul_add_div (Nat.two_pow_pos w), Nat.div_eq_of_lt h, Nat.add_zero]
theorem byB_lt {w : Nat} : ∀ (k : Nat) (f : Nat → Nat), (∀ i, f i < 2 ^ w) → byB w f k < 2 ^ (w * k)
  | 0, _, _ => by rw [byB]; simp
  | k + 1, f, h => by
    have ih := byB_lt k (fun i => f (i + 1)) fun i => h (i + 1)
    have h0 := h 0
    have e : 2 ^ (w * (k + 1)) = 2 ^ w * 2 ^ (w * k) := by rw [← Nat.pow_add, Nat.mul_add]; congr 1; omega
    rw [byB, e]
    have : 2 ^ w * (byB w (fun i => f (i + 1)) k + 1) ≤ 2 ^ w * 2 ^ (w * k) := Nat.mul_le_mul_left _ ih
    rw [Nat.mul_add] at this; omega
/-- the digits of a number -/
def dgB (w x i : Nat) : Nat := (x >>> (w * i)) % 2 ^ w
theorem byB_dg {w : Nat} : ∀ (k x : Nat), x < 2 ^ (w * k) → byB w (dgB w x) k = x
  | 0, x, h => by rw [byB]; simp at h; omega
  | k + 1, x, h => by
    have h2 : x >>> w < 2 ^ (w * k) := by
      rw [Nat.shiftRight_eq_div_pow]
      refine Nat.div_lt_of_lt_mul ?_
      rw [← Nat.pow_add, show w + w * k = w * (k + 1) by rw [Nat.mul_add]; omega]; exact h
    have ih := byB_dg k (x >>> w) h2
    rw [byB, byB_congr (g := dgB w (x >>> w)) fun i _ => by
      unfold dgB; rw [← Nat.shiftRight_add, show w + w * i = w * (i + 1) by rw [Nat.mul_add]; omega], ih]
    unfold dgB
    rw [Nat.mul_zero, Nat.shiftRight_zero, Nat.shiftRight_eq_div_pow]
    exact Nat.div_add_mod x (2 ^ w)
theorem dgB_lt (w x i : Nat) : dgB w x i < 2 ^ w := Nat.mod_lt _ (Nat.two_pow_pos w)
theorem byB_64 : ∀ (k : Nat) (f : Nat → Nat), (∀ i, f i ≤ 64) → byB 8 f k ≤ 64 * byB 8 (fun _ => 1) k
  | 0, _, _ => by simp [byB]
  | k + 1, f, h => by
    have ih := byB_64 k (fun i => f (i + 1)) fun i => h (i + 1)
    have h0 := h 0
    have e : byB 8 (fun _ => 1) (k + 1) = 2 ^ 8 * byB 8 (fun _ => 1) k + 1 := rfl
    rw [e, byB]; omega
/-! ### four bits -/
def nb1 (b : Nat) : Nat := ((b >>> 1) &&& 5) + ((b >>> 0) &&& 5)
def nb2 (b : Nat) : Nat := ((nb1 b >>> 2) &&& 3) + ((nb1 b >>> 0) &&& 3)
def nbP (b : Nat) : Nat := (b &&& 1) + (((b >>> 1) &&& 1) + (((b >>> 2) &&& 1) + ((b >>> 3) &&& 1)))
theorem nb_all : ((List.range 16).all fun b => decide (nb2 b = nbP b ∧ nbP b ≤ 4 ∧ nb1 b < 16)) = true := by kernel_rfl
theorem nb_ok {b : Nat} (h : b < 16) : nb2 b = nbP b ∧ nbP b ≤ 4 ∧ nb1 b < 16 := by
  have := nb_all; rw [List.all_eq_true] at this
  exact of_decide_eq_true (this b (by simpa using h))
def S16 (f : Nat → Nat) : Nat → Nat
  | 0 => 0
  | k + 1 => f 0 + S16 (fun i => f (i + 1)) k
theorem nb_low (x : Nat) : nbP (x % 16) = (x &&& 1) + (((x >>> 1) &&& 1) + (((x >>> 2) &&& 1) + ((x >>> 3) &&& 1))) := by
  have h : ∀ i, i < 4 → ((x % 16) >>> i) &&& 1 = (x >>> i) &&& 1 := fun i hi => by
    rw [bit1, bit1, show 16 = 2 ^ 4 from rfl, Nat.testBit_mod_two_pow, decide_eq_true hi, Bool.true_and]
  unfold nbP
  rw [h 1 (by decide), h 2 (by decide), h 3 (by decide)]
  have := h 0 (by decide); rw [Nat.shiftRight_zero, Nat.shiftRight_zero] at this; rw [this]
theorem pc_S16 : ∀ (k x : Nat), x < 2 ^ (4 * k) → x < 18446744073709551616 → pc x = S16 (fun i => nbP (dgB 4 x i)) k
  | 0, x, h, _ => by
    obtain rfl : x = 0 := by simpa using h
    unfold pc; rfl
  | k + 1, x, h, h2 => by
    have hl : ∀ i, x >>> i ≤ x := fun i => by rw [Nat.shiftRight_eq_div_pow]; exact Nat.div_le_self _ _
    have h4 : x >>> 4 < 2 ^ (4 * k) := by
      rw [Nat.shiftRight_eq_div_pow]
      refine Nat.div_lt_of_lt_mul ?_
      rw [← Nat.pow_add, show 4 + 4 * k = 4 * (k + 1) by omega]; exact h
    have ih := pc_S16 k (x >>> 4) h4 (Nat.lt_of_le_of_lt (hl 4) h2)
    rw [S16]
    have e0 : dgB 4 x 0 = x % 16 := by unfold dgB; rfl
    have e1 : (fun i => nbP (dgB 4 x (i + 1))) = fun i => nbP (dgB 4 (x >>> 4) i) := by
      funext i; unfold dgB; rw [← Nat.shiftRight_add, show 4 + 4 * i = 4 * (i + 1) by omega]
    have st : ∀ i, pc (x >>> i) = ((x >>> i) &&& 1) + pc (x >>> (i + 1)) := fun i => by
      rw [pc_step (x := x >>> i) (Nat.lt_of_le_of_lt (hl i) h2), ← Nat.shiftRight_add]
    have s0 := pc_step h2
    have s1 := st 1; have s2 := st 2; have s3 := st 3
    rw [e0, e1, nb_low, ← ih]
    simp only [Nat.reduceAdd] at s1 s2 s3
    omega
/-! ### 64 bits -/
def o1 (x : Nat) : Nat := ((x >>> 1) &&& 6148914691236517205) + (x &&& 6148914691236517205)
def o2 (x : Nat) : Nat := ((o1 x >>> 2) &&& 3689348814741910323) + (o1 x &&& 3689348814741910323)
def o3 (x : Nat) : Nat := ((o2 x >>> 4) + o2 x) &&& 1085102592571150095
def o4 (x : Nat) : Nat := o3 x + (o3 x >>> 8)
def o5 (x : Nat) : Nat := o4 x + (o4 x >>> 16)
def o6 (x : Nat) : Nat := o5 x + (o5 x >>> 32)
theorem and0 (a b : Nat) : a &&& b = (a >>> 0) &&& b := by rw [Nat.shiftRight_zero]
theorem nib_byte : ∀ (k : Nat) (g : Nat → Nat), (∀ i, g (2 * i + 1) = 0) → byB 4 g (2 * k) = byB 8 (fun i => g (2 * i)) k
  | 0, _, _ => rfl
  | k + 1, g, h => by
    rw [show 2 * (k + 1) = (2 * k + 1) + 1 by omega, byB, byB, byB, nib_byte k (fun i => g (i + 1 + 1)) (fun i => by have := h (i + 1); rw [show 2 * (i + 1) + 1 = 2 * i + 1 + 1 + 1 by omega] at this; exact this)]
    have h0 := h 0
    simp only [Nat.mul_zero, Nat.zero_add] at h0 ⊢
    rw [h0, byB_congr (f := fun i => g (2 * i + 1 + 1)) (g := fun i => g (2 * (i + 1))) fun i _ => by rw [show 2 * (i + 1) = 2 * i + 1 + 1 by omega]]
    omega
section
variable {x : Nat} (hx : x < 18446744073709551616)
include hx
theorem o1_eq : o1 x = byB 4 (fun i => nb1 (dgB 4 x i)) 16 := by
  have e : byB 4 (dgB 4 x) 16 = x := byB_dg 16 x hx
  have hm : (6148914691236517205 : Nat) = byB 4 (fun _ => 5) 16 := by kernel_rfl
  unfold o1
  rw [and0 x, hm]
  conv => lhs; rw [← e]
  rw [byB_and (by decide) 16 _ _ (dgB_lt 4 x) (fun _ => by decide), byB_and (by decide) 16 _ _ (dgB_lt 4 x) (fun _ => by decide), byB_add]
  rfl
theorem o2_eq : o2 x = byB 4 (fun i => nbP (dgB 4 x i)) 16 := by
  have hb : ∀ i, nb1 (dgB 4 x i) < 2 ^ 4 := fun i => (nb_ok (dgB_lt 4 x i)).2.2
  have hm : (3689348814741910323 : Nat) = byB 4 (fun _ => 3) 16 := by kernel_rfl
  unfold o2
  rw [and0 (o1 x), hm, o1_eq hx, byB_and (by decide) 16 _ _ hb (fun _ => by decide), byB_and (by decide) 16 _ _ hb (fun _ => by decide), byB_add]
  exact byB_congr fun i _ => (nb_ok (dgB_lt 4 x i)).1
/-- what a number of four bits holds, 0 behind the end -/
def q4 (x i : Nat) : Nat := if i < 16 then nbP (dgB 4 x i) else 0
omit hx in
theorem q4_le (i : Nat) : q4 x i ≤ 4 := by
  unfold q4; split
  · exact (nb_ok (dgB_lt 4 x i)).2.1
  · decide
theorem o2_q : o2 x = byB 4 (q4 x) 16 := (o2_eq hx).trans (byB_congr fun i hi => by unfold q4; rw [if_pos hi])
def q8 (x i : Nat) : Nat := q4 x (2 * i) + q4 x (2 * i + 1)
omit hx in
theorem q8_le (i : Nat) : q8 x i ≤ 8 := by have := q4_le (x := x) (2 * i); have := q4_le (x := x) (2 * i + 1); unfold q8; omega
omit hx in
theorem q8_0 {i : Nat} (h : 8 ≤ i) : q8 x i = 0 := by unfold q8 q4; rw [if_neg (by omega), if_neg (by omega)]
theorem o3_eq : o3 x = byB 8 (q8 x) 8 := by
  have hm : (1085102592571150095 : Nat) = byB 4 (fun i => if i % 2 = 0 then 15 else 0) 16 := by kernel_rfl
  have e : o2 x >>> 4 = byB 4 (fun i => q4 x (i + 1)) 16 := by
    rw [o2_q hx, byB_shr 15 _ (by have := q4_le (x := x) 0; omega)]
    exact (byB_top 15 (fun i => q4 x (i + 1)) (by unfold q4; rfl)).symm
  unfold o3
  rw [e, o2_q hx, byB_add, hm, and0, byB_and (by decide) 16 _ _ (fun i => by have := q4_le (x := x) i; have := q4_le (x := x) (i + 1); show _ < 16; omega) (fun i => by split <;> decide)]
  rw [nib_byte 8 _ (fun i => by rw [if_neg (by omega)]; simp)]
  refine byB_congr fun i hi => ?_
  show ((q4 x (2 * i + 1) + q4 x (2 * i)) >>> 0) &&& (if (2 * i) % 2 = 0 then 15 else 0) = q8 x i
  rw [if_pos (by omega), Nat.shiftRight_zero, show 15 = 2 ^ 4 - 1 from rfl, Nat.and_two_pow_sub_one_eq_mod]
  have := q8_le (x := x) i
  unfold q8 at this ⊢
  omega
def q16 (x i : Nat) : Nat := q8 x i + q8 x (i + 1)
def q32 (x i : Nat) : Nat := q16 x i + q16 x (i + 2)
def q64 (x i : Nat) : Nat := q32 x i + q32 x (i + 4)
omit hx in
theorem q16_le (i : Nat) : q16 x i ≤ 16 := by have := q8_le (x := x) i; have := q8_le (x := x) (i + 1); unfold q16; omega
omit hx in
theorem q32_le (i : Nat) : q32 x i ≤ 32 := by have := q16_le (x := x) i; have := q16_le (x := x) (i + 2); unfold q32; omega
theorem o4_eq : o4 x = byB 8 (q16 x) 8 := by
  unfold o4
  rw [o3_eq hx, byB_shr 7 _ (by have := q8_le (x := x) 0; omega), ← byB_top 7 (fun i => q8 x (i + 1)) (q8_0 (by omega)), byB_add]
  rfl
theorem o5_eq : o5 x = byB 8 (q32 x) 8 := by
  unfold o5
  rw [o4_eq hx, show (16 : Nat) = 8 + 8 from rfl, Nat.shiftRight_add, byB_shr 7 _ (by have := q16_le (x := x) 0; omega), byB_shr 6 _ (by have := q16_le (x := x) 1; show q16 x (0 + 1) < _; simpa using (by omega : q16 x 1 < 2 ^ 8))]
  rw [← byB_top 6 (fun i => q16 x (i + 1 + 1)) (by show q16 x 8 = 0; unfold q16; rw [q8_0 (by omega), q8_0 (by omega)]), ← byB_top 7 (fun i => q16 x (i + 1 + 1)) (by show q16 x 9 = 0; unfold q16; rw [q8_0 (by omega), q8_0 (by omega)]), byB_add]
  rfl
theorem o6_eq : o6 x = byB 8 (q64 x) 8 := by
  have hz : ∀ j, 8 ≤ j → q32 x j = 0 := fun j hj => by unfold q32 q16; rw [q8_0 (by omega), q8_0 (by omega), q8_0 (by omega), q8_0 (by omega)]
  have hb : ∀ j, q32 x j < 2 ^ 8 := fun j => by have := q32_le (x := x) j; omega
  unfold o6
  rw [o5_eq hx, show (32 : Nat) = 8 + 8 + 8 + 8 from rfl, Nat.shiftRight_add, Nat.shiftRight_add, Nat.shiftRight_add, byB_shr 7 _ (hb 0), byB_shr 6 (fun i => q32 x (i + 1)) (hb 1), byB_shr 5 (fun i => q32 x (i + 1 + 1)) (hb 2), byB_shr 4 (fun i => q32 x (i + 1 + 1 + 1)) (hb 3)]
  rw [← byB_top 4 (fun i => q32 x (i + 1 + 1 + 1 + 1)) (hz 8 (by omega)), ← byB_top 5 (fun i => q32 x (i + 1 + 1 + 1 + 1)) (hz 9 (by omega)), ← byB_top 6 (fun i => q32 x (i + 1 + 1 + 1 + 1)) (hz 10 (by omega)), ← byB_top 7 (fun i => q32 x (i + 1 + 1 + 1 + 1)) (hz 11 (by omega)), byB_add]
  rfl
theorem ones_64 : o6 x &&& 127 = pc x := by
  have h64 : q64 x 0 ≤ 64 := by have := q32_le (x := x) 0; have := q32_le (x := x) 4; unfold q64; show q32 x 0 + q32 x (0 + 4) ≤ 64; simp only [Nat.zero_add]; omega
  have e : q64 x 0 = pc x := by
    rw [pc_S16 16 x hx hx]
    unfold q64 q32 q16 q8 q4
    simp [S16]
    omega
  rw [o6_eq hx, byB, show (127 : Nat) = 2 ^ 7 - 1 from rfl, Nat.and_two_pow_sub_one_eq_mod, ← e]
  omega
theorem o_lt : o1 x < 18446744073709551616 ∧ o2 x < 18446744073709551616 ∧ (o2 x >>> 4) + o2 x < 18446744073709551616 ∧ o4 x < 18446744073709551616 ∧ o5 x < 18446744073709551616 ∧ o6 x < 18446744073709551616 := by
  refine ⟨?_, ?_, ?_, ?_, ?_, ?_⟩
  · rw [o1_eq hx]; exact byB_lt 16 _ (fun i => (nb_ok (dgB_lt 4 x i)).2.2)
  · rw [o2_q hx]; exact byB_lt 16 _ (fun i => by have := q4_le (x := x) i; show _ < 16; omega)
  · have e : o2 x >>> 4 = byB 4 (fun i => q4 x (i + 1)) 16 := by
      rw [o2_q hx, byB_shr 15 _ (by have := q4_le (x := x) 0; omega)]
      exact (byB_top 15 (fun i => q4 x (i + 1)) (by unfold q4; rfl)).symm
    rw [e, o2_q hx, byB_add]; exact byB_lt 16 _ (fun i => by have := q4_le (x := x) i; have := q4_le (x := x) (i + 1); show _ < 16; omega)
  · rw [o4_eq hx]; exact byB_lt 8 _ (fun i => by have := q16_le (x := x) i; show _ < 256; omega)
  · rw [o5_eq hx]; exact byB_lt 8 _ (fun i => by have := q32_le (x := x) i; show _ < 256; omega)
  · rw [o6_eq hx]; exact byB_lt 8 _ (fun i => by have := q32_le (x := x) i; have := q32_le (x := x) (i + 4); unfold q64; show _ < 256; omega)
theorem o6_le : o6 x ≤ 9223372036854775807 := by
  have h := byB_64 8 (q64 x) (fun i => by have := q32_le (x := x) i; have := q32_le (x := x) (i + 4); unfold q64; omega)
  rw [o6_eq hx]
  have e : 64 * byB 8 (fun _ => 1) 8 = 4629771061636907072 := by kernel_rfl
  omega
end
attribute [irreducible] o1 o2 o3 o4 o5 o6
end Go.Proofs.YtabekcodjcbolaaGreat
