/-
  Plain laws: a scheme repeated.
-/
import Derived.Test.YtjkicobdokcjfaaJoin
namespace Go.Proofs.Ytjkicobdokcjfaa
set_option linter.unusedVariables false
set_option linter.unusedSimpArgs false
open Go.RowKit
/-- the rows after j more copies -/
def rpF (a : Nat → Nat) (m : Nat) : Nat → Nat → Nat
  | 0 => a
  | j + 1 => jnF (rpF a m j) a ((j + 1) * m)
theorem rpF_lt {a : Nat → Nat} (ha : ∀ k, a k < 256) (m : Nat) : ∀ j k, rpF a m j k < 256
  | 0, k => ha k
  | j + 1, k => jnF_lt (rpF_lt ha m j) _ k
theorem rpF_bd {a : Nat → Nat} {m k : Nat} (h : a k < 2 ^ m) : ∀ j, rpF a m j k < 2 ^ ((j + 1) * m)
  | 0 => by simpa [rpF] using h
  | j + 1 => by
    have h1 : rpF a m j k < 2 ^ ((j + 1 + 1) * m) := Nat.lt_of_lt_of_le (rpF_bd h j) (Nat.pow_le_pow_right (by decide) (Nat.mul_le_mul_right m (by omega)))
    have h2 : (a k <<< ((j + 1) * m)) % 256 < 2 ^ ((j + 1 + 1) * m) := by
      refine Nat.lt_of_le_of_lt (Nat.mod_le _ _) ?_
      rw [Nat.shiftLeft_eq, Nat.succ_mul (j + 1) m, Nat.pow_add, Nat.mul_comm]
      exact Nat.mul_lt_mul_of_pos_left h (Nat.two_pow_pos _)
    exact Nat.or_lt_two_pow h1 h2
theorem rpF_zero {a : Nat → Nat} {m k : Nat} (h : a k = 0) : ∀ j, rpF a m j k = 0
  | 0 => h
  | j + 1 => by
    show rpF a m j k ||| ((a k <<< ((j + 1) * m)) % 256) = 0
    rw [rpF_zero h j, h]; simp
theorem rp_ok {s : Int} {m j : Nat} {a b : Nat → Nat} (h : schOk s (m : Int) a b = true) (hj : (j + 1) * m ≤ 8) : schOk s (((j + 1) * m : Nat) : Int) (rpF a m j) (rpF b m j) = true := by
  obtain ⟨hs, hp, hr⟩ := schOk_spec h
  obtain ⟨n, rfl⟩ : ∃ n : Nat, s = (n : Int) := ⟨s.toNat, by omega⟩
  refine (schOk_t hs ⟨?_, by omega⟩ fun k hk => ?_).symm
  · have : 1 * 1 ≤ (j + 1) * m := Nat.mul_le_mul (by omega) (by omega)
    omega
  · obtain ⟨h1, h2⟩ := hr k hk
    simp only [Int.toNat_natCast] at h1 h2
    refine ⟨Nat.or_lt_two_pow (rpF_bd (Nat.lt_of_le_of_lt Nat.left_le_or h1) j) (rpF_bd (Nat.lt_of_le_of_lt Nat.right_le_or h1) j), fun hn => ?_⟩
    have h0 := h2 hn
    have ha : a k = 0 := by have := @Nat.left_le_or (a k) (b k); omega
    have hb : b k = 0 := by have := @Nat.right_le_or (a k) (b k); omega
    rw [rpF_zero ha, rpF_zero hb]; rfl
theorem selI0 (u : Int) : selI 0 u = u := rfl
theorem selF0 (f : Nat → Nat) : selF 0 f = f := rfl
/-- one more copy -/
theorem rp_step (s : Int) (m j c : Nat) (a b : Nat → Nat) :
    schV (selI c s) (selI c ((((j + 1) * m : Nat) : Int) + (m : Int))) (selF c (jnF (rpF a m j) a ((((j + 1) * m : Nat) : Int)).toNat)) (selF c (jnF (rpF b m j) b ((((j + 1) * m : Nat) : Int)).toNat))
      = schV (selI c s) (selI c (((j + 1 + 1) * m : Nat) : Int)) (selF c (rpF a m (j + 1))) (selF c (rpF b m (j + 1))) := by
  have e : (((j + 1) * m : Nat) : Int) + (m : Int) = (((j + 1 + 1) * m : Nat) : Int) := by rw [Nat.succ_mul (j + 1) m]; omega
  rw [e]; rfl
def rpC (s p : Int) (a b : Nat → Nat) (c : Int) : Nat := bif schOk s p a b then (if 1 ≤ c ∧ c ≤ 8 then (if p * c ≤ 8 then 0 else 3) else 2) else 1
section
variable {s p c : Int} {a b : Nat → Nat}
theorem rpC_1 (h : schOk s p a b = false) : rpC s p a b c = 1 := by unfold rpC; rw [h]; rfl
theorem rpC_2 (h : schOk s p a b = true) (h2 : ¬ (1 ≤ c ∧ c ≤ 8)) : rpC s p a b c = 2 := by unfold rpC; rw [h, cond_true, if_neg h2]
theorem rpC_3 (h : schOk s p a b = true) (h2 : 1 ≤ c ∧ c ≤ 8) (h3 : ¬ p * c ≤ 8) : rpC s p a b c = 3 := by unfold rpC; rw [h, cond_true, if_pos h2, if_neg h3]
theorem rpC_0 (h : schOk s p a b = true) (h2 : 1 ≤ c ∧ c ≤ 8) (h3 : p * c ≤ 8) : rpC s p a b c = 0 := by unfold rpC; rw [h, cond_true, if_pos h2, if_pos h3]
theorem first_rep : firstZ 2 (fun i => [!schOk s p a b, !decide (1 ≤ c ∧ c ≤ 8)].getD i false) (fun i => [1, 2].getD i 0) = bif schOk s p a b then (if 1 ≤ c ∧ c ≤ 8 then 0 else 2) else 1 := by
  rw [firstZ2]
  cases schOk s p a b with
  | false => rfl
  | true =>
    rw [Bool.not_true, cond_false, cond_true]
    by_cases h : 1 ≤ c ∧ c ≤ 8
    · rw [if_pos h, decide_eq_true h]; rfl
    · rw [if_neg h, decide_eq_false h]; rfl
end
def rpV (s p : Int) (a b : Nat → Nat) (c : Int) : List Value := schV (selI (rpC s p a b c) s) (selI (rpC s p a b c) (p * c)) (selF (rpC s p a b c) (rpF a p.toNat (c.toNat - 1))) (selF (rpC s p a b c) (rpF b p.toNat (c.toNat - 1)))
theorem rp_f {s p c e : Int} {a b : Nat → Nat} (h : ¬ rpC s p a b c = 0) (he : e = ((rpC s p a b c : Nat) : Int)) : Value.tuple #[.agg (schV 0 0 (fun _ => 0) (fun _ => 0)).toArray, .int .i64 e] = .tuple #[.agg (rpV s p a b c).toArray, .int .i64 ((rpC s p a b c : Nat) : Int)] := by
  unfold rpV selI selF; rw [if_neg h, if_neg h, if_neg h, if_neg h, he]
/-- the end: j more copies were made; q tells whether the last fitted -/
theorem rp_end {s : Int} {m e j q : Nat} {a b : Nat → Nat} (hok : schOk s (m : Int) a b = true) (he : 1 ≤ e ∧ e ≤ 8) (h0 : q = 0 → j + 1 = e ∧ (j + 1) * m ≤ 8) (h3 : ¬ q = 0 → q = 3 ∧ 8 < e * m) :
    Value.tuple #[.agg (schV (selI q s) (selI q (((j + 1) * m : Nat) : Int)) (selF q (rpF a m j)) (selF q (rpF b m j))).toArray, .int .i64 (q : Int)] = .tuple #[.agg (rpV s (m : Int) a b (e : Int)).toArray, .int .i64 ((rpC s (m : Int) a b (e : Int) : Nat) : Int)] := by
  by_cases hq : q = 0
  · obtain ⟨h1, h2⟩ := h0 hq
    subst h1
    have hm : (m : Int) * (((j + 1 : Nat)) : Int) = (((j + 1) * m : Nat) : Int) := by rw [Nat.mul_comm]; simp
    have hC : rpC s (m : Int) a b (((j + 1 : Nat)) : Int) = 0 := rpC_0 hok (by omega) (by rw [hm]; omega)
    unfold rpV
    rw [hC, hq, hm]; rfl
  · obtain ⟨h1, h2⟩ := h3 hq
    have hm : (m : Int) * (e : Int) = ((e * m : Nat) : Int) := by rw [Nat.mul_comm]; simp
    have hC : rpC s (m : Int) a b (e : Int) = 3 := rpC_3 hok (by omega) (by rw [hm]; omega)
    unfold rpV
    rw [hC, h1]; rfl
theorem rp_c3 {s : Int} {m j e : Nat} {a b : Nat → Nat} (hok : schOk s (m : Int) a b = true) (hjm : (j + 1) * m ≤ 8) (he : j + 1 < e) (h : ¬ jnC s (((j + 1) * m : Nat) : Int) (rpF a m j) (rpF b m j) s (m : Int) a b = 0) :
    jnC s (((j + 1) * m : Nat) : Int) (rpF a m j) (rpF b m j) s (m : Int) a b = 3 ∧ 8 < e * m := by
  have h2 := rp_ok (j := j) hok hjm
  by_cases h4 : (((j + 1) * m : Nat) : Int) + (m : Int) ≤ 8
  · exact absurd (jnC_0 h2 hok rfl h4) h
  · refine ⟨jnC_3 h2 hok rfl h4, ?_⟩
    have h5 : (j + 1 + 1) * m ≤ e * m := Nat.mul_le_mul_right m he
    rw [Nat.succ_mul (j + 1) m] at h5
    omega
theorem rp_h0 {s : Int} {m j : Nat} {a b A B : Nat → Nat} (h : jnC s (((j + 1) * m : Nat) : Int) A B s (m : Int) a b = 0) : (j + 1 + 1) * m ≤ 8 := by
  obtain ⟨_, _, _, h⟩ := jnC_spec h
  rw [Nat.succ_mul (j + 1) m]; omega
section
variable {s p c : Int} {a b : Nat → Nat}
theorem rp_err (h : ¬ firstZ 2 (fun i => [!schOk s p a b, !decide (1 ≤ c ∧ c ≤ 8)].getD i false) (fun i => [1, 2].getD i 0) = 0) : ¬ rpC s p a b c = 0 ∧ firstZ 2 (fun i => [!schOk s p a b, !decide (1 ≤ c ∧ c ≤ 8)].getD i false) (fun i => [1, 2].getD i 0) = ((rpC s p a b c : Nat) : Int) := by
  rw [first_rep] at h ⊢
  cases hs : schOk s p a b with
  | false => rw [rpC_1 hs]; exact ⟨by decide, rfl⟩
  | true =>
    rw [hs, cond_true] at h
    rw [cond_true]
    by_cases h2 : 1 ≤ c ∧ c ≤ 8
    · rw [if_pos h2] at h; exact absurd rfl h
    · rw [rpC_2 hs h2, if_neg h2]; exact ⟨by decide, rfl⟩
theorem rp_okc (h : firstZ 2 (fun i => [!schOk s p a b, !decide (1 ≤ c ∧ c ≤ 8)].getD i false) (fun i => [1, 2].getD i 0) = 0) : schOk s p a b = true ∧ (1 ≤ c ∧ c ≤ 8) := by
  rw [first_rep] at h
  cases hs : schOk s p a b with
  | false => rw [hs] at h; cases h
  | true =>
    rw [hs, cond_true] at h
    by_cases h2 : 1 ≤ c ∧ c ≤ 8
    · exact ⟨rfl, h2⟩
    · rw [if_neg h2] at h; cases h
theorem mul_88 {x y : Int} (h : 1 ≤ x ∧ x ≤ 8) (h2 : 1 ≤ y ∧ y ≤ 8) : 0 ≤ x * y ∧ x * y ≤ 64 := by
  have h3 : 0 ≤ x * y := Int.mul_nonneg (by omega) (by omega)
  have h4 : x * y ≤ 8 * 8 := Int.mul_le_mul h.2 h2.2 (by omega) (by omega)
  omega
theorem rp_em {m e : Nat} (h : ¬ 8 < (m : Int) * (e : Int)) : e * m ≤ 8 := by
  rw [← Int.natCast_mul, Nat.mul_comm] at h; omega
theorem rp_start (s : Int) (m : Nat) (a b : Nat → Nat) : schV s (m : Int) a b = schV s (((0 + 1) * m : Nat) : Int) (rpF a m 0) (rpF b m 0) := by rw [Nat.zero_add, Nat.one_mul]; rfl
end
attribute [irreducible] rpC
end Go.Proofs.Ytjkicobdokcjfaa
