/-
  Plain laws: schemes of which some parts are kept.
-/
import Derived.Test.YtdlmbdclbnlmlaaFam2
import Derived.Test.YtdlmbdclbnlmlaaKeep
namespace Go.Proofs.Ytdlmbdclbnlmlaa
set_option linter.unusedVariables false
set_option linter.unusedSimpArgs false
open Go.RowKit
theorem bit_tb (f i : Nat) : (f >>> i) &&& 1 = if f.testBit i then 1 else 0 := by
  rw [Nat.testBit, Nat.and_comm 1]
  have : (f >>> i) &&& 1 ≤ 1 := Nat.and_le_right
  rcases (show (f >>> i) &&& 1 = 0 ∨ (f >>> i) &&& 1 = 1 by omega) with h | h <;> rw [h] <;> rfl
theorem pcS_congr {f h : Nat} : ∀ k, (∀ i, i < k → f.testBit i = h.testBit i) → pcS f k = pcS h k
  | 0, _ => rfl
  | k + 1, e => by rw [pcS, pcS, pcS_congr k (fun i hi => e i (by omega)), bit_tb, bit_tb, e k (by omega)]
theorem pc_hi {u k b : Nat} (hu : u < 2 ^ k) (hb : b ≤ 1) (hk : k < 8) : pc (u ||| (b <<< k)) = pc u + b ∧ u ||| (b <<< k) < 2 ^ (k + 1) := by
  have h1 : b <<< k < 2 ^ (k + 1) := by
    rw [Nat.shiftLeft_eq, Nat.pow_succ]
    have := Nat.mul_le_mul_right (2 ^ k) hb
    have := Nat.two_pow_pos k
    omega
  have h2 : u < 2 ^ (k + 1) := by rw [Nat.pow_succ]; omega
  have h3 : u ||| (b <<< k) < 2 ^ (k + 1) := Nat.or_lt_two_pow h2 h1
  have h4 : 2 ^ (k + 1) ≤ 2 ^ 8 := Nat.pow_le_pow_right (by decide) (by omega)
  refine ⟨?_, h3⟩
  rw [pc_pcS (k + 1) _ h3 (by omega), pc_pcS k u hu (by omega), pcS]
  congr 1
  · refine pcS_congr k fun i hi => ?_
    rw [Nat.testBit_or, Nat.testBit_shiftLeft, decide_eq_false (by omega)]; simp
  · rw [bit_tb, Nat.testBit_or, Nat.testBit_lt_two_pow hu, Nat.testBit_shiftLeft, decide_eq_true (by omega), Nat.sub_self]
    rcases (show b = 0 ∨ b = 1 by omega) with rfl | rfl <;> rfl
theorem pc_kp (x v : Nat) : ∀ i, i ≤ 8 → kpV x v i < 2 ^ (kpC x i) ∧ pc (kpV x v i) = pcS (v &&& x) i
  | 0, _ => ⟨by show 0 < 1; decide, by show pc 0 = 0; unfold pc; rfl⟩
  | i + 1, h => by
    obtain ⟨i1, i2⟩ := pc_kp x v i (by omega)
    have hc := kpC_le x i
    have hv : (v >>> i) &&& 1 ≤ 1 := Nat.and_le_right
    rw [kpV, kpC, pcS]
    by_cases hx : (x >>> i) &&& 1 = 0
    · rw [if_pos hx, if_pos hx]
      refine ⟨i1, ?_⟩
      rw [i2, Nat.shiftRight_and_distrib, Nat.and_assoc, hx, Nat.and_zero]; rfl
    · rw [if_neg hx, if_neg hx]
      have hx1 : (x >>> i) &&& 1 = 1 := by have : (x >>> i) &&& 1 ≤ 1 := Nat.and_le_right; omega
      obtain ⟨j1, j2⟩ := pc_hi (b := (v >>> i) &&& 1) i1 hv (by omega)
      have hm : (((v >>> i) &&& 1) <<< kpC x i) % 256 = ((v >>> i) &&& 1) <<< kpC x i := by
        refine Nat.mod_eq_of_lt ?_
        rw [Nat.shiftLeft_eq]
        have h1 := Nat.mul_le_mul_right (2 ^ kpC x i) hv
        have h2 : 2 ^ kpC x i ≤ 2 ^ 7 := Nat.pow_le_pow_right (by decide) (by omega)
        omega
      rw [hm]
      refine ⟨j2, ?_⟩
      rw [j1, i2, Nat.shiftRight_and_distrib, Nat.and_assoc, hx1]
theorem kpV_zero (x : Nat) : ∀ i, kpV x 0 i = 0
  | 0 => rfl
  | i + 1 => by rw [kpV, kpV_zero x i]; simp
theorem kpV_or (x u v : Nat) : ∀ i, kpV x (u ||| v) i = kpV x u i ||| kpV x v i
  | 0 => by show (0 : Nat) = 0 ||| 0; decide
  | i + 1 => by
    rw [kpV, kpV, kpV, kpV_or x u v i]
    split
    · rfl
    · rw [Nat.shiftRight_or_distrib, Nat.and_or_distrib_right, Nat.shiftLeft_or_distrib, show (256 : Nat) = 2 ^ 8 from rfl, Nat.or_mod_two_pow]
      ac_rfl
theorem kp_lin (x p : Nat) (a : Nat → Nat) (y : Nat) : ∀ k, orS (fun r => kpV x (a r) p) y k = kpV x (orS a y k) p
  | 0 => (kpV_zero x p).symm
  | k + 1 => by
    rw [orS, orS, kp_lin x p a y k]
    split
    · rw [kpV_or]
    · rfl
theorem and_lin (x : Nat) (a : Nat → Nat) (y : Nat) : ∀ k, orS (fun r => a r &&& x) y k = orS a y k &&& x
  | 0 => (Nat.zero_and x).symm
  | k + 1 => by
    rw [orS, orS, and_lin x a y k]
    split
    · rw [Nat.and_or_distrib_right]
    · rfl
theorem orS_pow {t : Nat → Nat} {p : Nat} (x : Nat) : ∀ k, (∀ r, r < k → t r < 2 ^ p) → orS t x k < 2 ^ p
  | 0, _ => Nat.two_pow_pos p
  | k + 1, h => by
    rw [orS]; split
    · exact Nat.or_lt_two_pow (orS_pow x k fun r hr => h r (by omega)) (h k (by omega))
    · exact orS_pow x k fun r hr => h r (by omega)
theorem wt_keep {a : Nat → Nat} {p x y : Nat} (hp : p ≤ 8) (ha : ∀ r, r < 6 → a r < 2 ^ p) : wt (fun r => kpV x (a r) p) y = wt (fun r => a r &&& x) y := by
  unfold wt
  have h1 := orS_pow (t := a) y 6 ha
  have h2 : orS a y 6 &&& x < 2 ^ p := Nat.lt_of_le_of_lt Nat.and_le_left h1
  have h3 : 2 ^ p ≤ 2 ^ 8 := Nat.pow_le_pow_right (by decide) hp
  rw [kp_lin, and_lin, (pc_kp x (orS a y 6) p hp).2, pc_pcS p _ h2 (by omega)]
theorem gap_keep {a b : Nat → Nat} {p x y : Nat} (hp : p ≤ 8) (ha : ∀ r, r < 6 → a r < 2 ^ p) (hb : ∀ r, r < 6 → b r < 2 ^ p) : gapZ (fun r => kpV x (a r) p) (fun r => kpV x (b r) p) y = gapZ (fun r => a r &&& x) (fun r => b r &&& x) y := by
  unfold gapZ; rw [wt_keep hp ha, wt_keep hp hb]
theorem lg_keep {a b : Nat → Nat} {p x f : Nat} (hp : p ≤ 8) (ha : ∀ r, r < 6 → a r < 2 ^ p) (hb : ∀ r, r < 6 → b r < 2 ^ p) : ∀ n, lgF (fun r => kpV x (a r) p) (fun r => kpV x (b r) p) f n = lgF (fun r => a r &&& x) (fun r => b r &&& x) f n
  | 0 => rfl
  | n + 1 => by rw [lgF, lgF, lg_keep hp ha hb n, gap_keep hp ha hb]
theorem kpC_pc (x : Nat) : ∀ i, kpC x i = pcS x i
  | 0 => rfl
  | i + 1 => by
    have : (x >>> i) &&& 1 ≤ 1 := Nat.and_le_right
    rw [kpC, pcS, kpC_pc x i]
    split <;> omega
/-! ### bits.OnesCount64 below 256 -/
def oc1 (x : Nat) : Nat := (((x >>> 1) &&& 6148914691236517205) + (x &&& 6148914691236517205)) % 18446744073709551616
def oc2 (x : Nat) : Nat := (((x >>> 2) &&& 3689348814741910323) + (x &&& 3689348814741910323)) % 18446744073709551616
def oc3 (x : Nat) : Nat := (((x >>> 4) + x) % 18446744073709551616) &&& 1085102592571150095
def oc4 (x : Nat) : Nat := (x + (x >>> 8)) % 18446744073709551616
def oc5 (x : Nat) : Nat := (x + (x >>> 16)) % 18446744073709551616
def oc6 (x : Nat) : Nat := (x + (x >>> 32)) % 18446744073709551616
def oc (x : Nat) : Nat := oc6 (oc5 (oc4 (oc3 (oc2 (oc1 x)))))
theorem oc_all : ((List.range 256).all fun x => decide (oc x < 9223372036854775808 ∧ oc x &&& 127 = pc x)) = true := by kernel_rfl
theorem oc_ok {x : Nat} (h : x < 256) : oc x < 9223372036854775808 ∧ oc x &&& 127 = pc x := by
  have := oc_all
  rw [List.all_eq_true] at this
  exact of_decide_eq_true (this x (by simpa using h))
theorem oc_lt (x : Nat) : oc1 x < 18446744073709551616 ∧ oc2 x < 18446744073709551616 ∧ oc3 x < 18446744073709551616 ∧ oc4 x < 18446744073709551616 ∧ oc5 x < 18446744073709551616 ∧ oc6 x < 18446744073709551616 :=
  ⟨Nat.mod_lt _ (by decide), Nat.mod_lt _ (by decide), Nat.lt_of_le_of_lt Nat.and_le_right (by decide), Nat.mod_lt _ (by decide), Nat.mod_lt _ (by decide), Nat.mod_lt _ (by decide)⟩
end Go.Proofs.Ytdlmbdclbnlmlaa
