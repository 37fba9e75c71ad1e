/-
  Plain laws: an order that is drawn moves the bits of a part alone.
-/
import Derived.Test.YtagghfllgafmgaaCov
import Derived.Test.YtagghfllgafmgaaBits
import Derived.Test.YtagghfllgafmgaaSrc
namespace Go.Proofs.Ytagghfllgafmgaa
set_option linter.unusedVariables false
set_option linter.unusedSimpArgs false
open Go.RowKit
/-! ### sums -/
def Sm (u : Nat → Nat) : Nat → Nat
  | 0 => 0
  | k + 1 => Sm u k + u k
theorem Sm_congr {u v : Nat → Nat} : ∀ n, (∀ j, j < n → u j = v j) → Sm u n = Sm v n
  | 0, _ => rfl
  | n + 1, h => by rw [Sm, Sm, Sm_congr n (fun j hj => h j (by omega)), h n (by omega)]
theorem Sm_upd (u : Nat → Nat) (i a : Nat) : ∀ n, i < n → Sm (upd u i a) n + u i = Sm u n + a
  | 0, h => absurd h (Nat.not_lt_zero _)
  | n + 1, h => by
    rw [Sm, Sm]
    by_cases e : i = n
    · subst e
      rw [upd_same, Sm_congr (u := upd u i a) (v := u) i (fun j hj => upd_ne (by omega))]; omega
    · have := Sm_upd u i a n (by omega)
      rw [upd_ne (show n ≠ i from fun q => e q.symm)]; omega
theorem Sm_swp (u : Nat → Nat) {i k n : Nat} (hi : i < n) (hk : k < n) : Sm (upd (upd u i (u k)) k (u i)) n = Sm u n := by
  have h1 := Sm_upd u i (u k) n hi
  have h2 := Sm_upd (upd u i (u k)) k (u i) n hk
  have h3 : upd u i (u k) k = u k := by
    by_cases e : k = i
    · subst e; rw [upd_same]
    · exact upd_ne e
  rw [h3] at h2; omega
theorem Sm_ord (g : Nat → Nat) (n x : Nat) : ∀ r, r ≤ n - 1 → Sm (fun j => g (ordO n x r j)) n = Sm g n
  | 0, _ => rfl
  | r + 1, h => by
    have ih := Sm_ord g n x r (by omega)
    have hd := drawK_lt (x := ordX n x r) (n := n - 1 - r + 1) (by omega)
    rw [← ih, ← Sm_swp (fun j => g (ordO n x r j)) (i := n - 1 - r) (k := drawK (ordX n x r) (n - 1 - r + 1)) (n := n) (by omega) (by omega)]
    refine Sm_congr n fun j hj => ?_
    rw [ordO_succ]
    unfold swp
    by_cases h2 : j = drawK (ordX n x r) (n - 1 - r + 1)
    · subst h2; rw [upd_same, upd_same]
    · rw [upd_ne h2, upd_ne h2]
      by_cases h1 : j = n - 1 - r
      · subst h1; rw [upd_same, upd_same]
      · rw [upd_ne h1, upd_ne h1]
theorem pcS_Sm (z : Nat) : ∀ n, pcS z n = Sm (fun j => (z >>> j) &&& 1) n
  | 0 => rfl
  | n + 1 => by rw [pcS, Sm, pcS_Sm z n]
/-! ### parts in another order -/
theorem rdF_test (v : Nat) (o : Nat → Nat) (k : Nat) : ∀ n, n ≤ 8 → (rdF v o n).testBit k = (decide (k < n) && v.testBit (o k))
  | 0, _ => by show (0 : Nat).testBit k = _; simp
  | n + 1, h => by
    have ih := rdF_test v o k n (by omega)
    have hb : (v >>> o n) &&& 1 ≤ 1 := Nat.and_le_right
    have h2 : ((((v >>> o n) &&& 1) <<< n) % 256) = ((v >>> o n) &&& 1) <<< n := by
      refine Nat.mod_eq_of_lt ?_
      rw [Nat.shiftLeft_eq]
      have : ((v >>> o n) &&& 1) * 2 ^ n ≤ 1 * 2 ^ n := Nat.mul_le_mul_right _ hb
      have : 2 ^ n ≤ 2 ^ 7 := Nat.pow_le_pow_right (by decide) (by omega)
      omega
    rw [rdF, Nat.testBit_or, ih, h2, Nat.testBit_shiftLeft]
    rcases Nat.lt_trichotomy k n with hk | rfl | hk
    · rw [decide_eq_true hk, decide_eq_true (show k < n + 1 by omega), decide_eq_false (show ¬ k ≥ n by omega)]; simp
    · rw [decide_eq_false (show ¬ k < k by omega), decide_eq_true (show k < k + 1 by omega), decide_eq_true (show k ≥ k by omega), Nat.sub_self, bit1]
      cases v.testBit (o k) <;> simp
    · rw [decide_eq_false (show ¬ k < n by omega), decide_eq_false (show ¬ k < n + 1 by omega)]
      rcases (show (v >>> o n) &&& 1 = 0 ∨ (v >>> o n) &&& 1 = 1 by omega) with e | e <;> rw [e]
      · simp
      · obtain ⟨d, hd⟩ : ∃ d, k - n = d + 1 := ⟨k - n - 1, by omega⟩
        rw [hd, Nat.testBit_succ]; simp
theorem rdF_or (a b : Nat) (o : Nat → Nat) {n : Nat} (hn : n ≤ 8) : rdF (a ||| b) o n = rdF a o n ||| rdF b o n := by
  apply Nat.eq_of_testBit_eq
  intro i
  rw [Nat.testBit_or, rdF_test _ _ _ n hn, rdF_test _ _ _ n hn, rdF_test _ _ _ n hn, Nat.testBit_or]
  cases decide (i < n) <;> rfl
theorem rdF_pow (v : Nat) (o : Nat → Nat) {n : Nat} (hn : n ≤ 8) : rdF v o n < 2 ^ n := by
  refine Nat.lt_pow_two_of_testBit _ fun i hi => ?_
  rw [rdF_test _ _ _ n hn, decide_eq_false (by omega)]; rfl
theorem rdF_pc {v n x : Nat} (hn : n ≤ 8) (hv : v < 2 ^ n) : pc (rdF v (oOf n x) n) = pc v := by
  have hr := rdF_pow v (oOf n x) hn
  have hb : 2 ^ n ≤ 2 ^ 8 := Nat.pow_le_pow_right (by decide) hn
  rw [pc_pcS n _ hr (by omega), pc_pcS n _ hv (by omega), pcS_Sm, pcS_Sm, ← Sm_ord (fun j => (v >>> j) &&& 1) n x (n - 1) (Nat.le_refl _)]
  refine Sm_congr n fun j hj => ?_
  show (rdF v (oOf n x) n >>> j) &&& 1 = (v >>> oOf n x j) &&& 1
  rw [bit1, bit1, rdF_test _ _ _ n hn, decide_eq_true hj]; rfl
section
variable {f : Nat → Nat → Nat} {n x r s k : Nat}
theorem dw_pow (hn : n ≤ 8) : dwC f n x r k < 2 ^ n := rdF_pow _ _ hn
theorem dw_pc (hn : n ≤ 8) (h : f k r < 2 ^ n) : pc (dwC f n x r k) = pc (f k r) := rdF_pc hn h
theorem dw_pc2 (hn : n ≤ 8) (h : f k r < 2 ^ n) (h2 : f k s < 2 ^ n) : pc (dwC f n x r k ||| dwC f n x s k) = pc (f k r ||| f k s) := by
  unfold dwC; rw [← rdF_or _ _ _ hn]; exact rdF_pc hn (Nat.or_lt_two_pow h h2)
end
/-! ### pictures that are shown again -/
theorem pic_self {p : Nat} (h : p < 18446744073709551616) : pic (bitB p) = p := by
  apply Nat.eq_of_testBit_eq
  intro i
  unfold pic
  rw [picF_bit _ i 64 (Nat.le_refl _), bitB_test]
  by_cases hi : i < 64
  · rw [decide_eq_true hi]; rfl
  · rw [Nat.testBit_lt_two_pow (Nat.lt_of_lt_of_le (m := 2 ^ 64) h (Nat.pow_le_pow_right (n := 2) (by decide) (by omega)))]; simp
theorem pic_is {q : Nat → Bool} {p : Nat} (hp : p < 18446744073709551616) (h : ∀ k, k < 64 → q k = bitB p k) : pic q = p := by
  rw [← pic_self hp]
  apply Nat.eq_of_testBit_eq
  intro i
  unfold pic
  rw [picF_bit _ i 64 (Nat.le_refl _), picF_bit _ i 64 (Nat.le_refl _)]
  by_cases hi : i < 64
  · rw [h i hi]
  · rw [decide_eq_false hi]; rfl
theorem lays_ok {n : Nat} {p : Int} {c : Nat → Nat → Nat} {q : Nat} (hp : p = (q : Int)) (hq : 1 ≤ q ∧ q ≤ 8) (hc : ∀ i, i < n → ∀ k, k < 64 → c i k < 2 ^ q) {P : Nat → Int} (hP : ∀ i, i < n → P i = p) : codeP n P c p = 0 := by
  subst hp
  refine (codeP_0 (layAll_t fun k hk => ?_).symm hP).symm
  rw [hP k hk]; exact layOk_iff.2 ⟨by omega, fun j hj => by simpa using hc k hk j hj⟩
end Go.Proofs.Ytagghfllgafmgaa
