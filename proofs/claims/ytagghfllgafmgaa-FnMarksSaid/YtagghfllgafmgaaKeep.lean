/-
  Plain laws: the parts that are kept; a part that is lost.
-/
import Derived.Test.YtagghfllgafmgaaSchA
import Derived.Test.YtagghfllgafmgaaSel
namespace Go.Proofs.Ytagghfllgafmgaa
set_option linter.unusedVariables false
set_option linter.unusedSimpArgs false
open Go.RowKit
/-! ### keep -/
/-- how many of the first i bits of x are set -/
def kpC (x : Nat) : Nat → Nat
  | 0 => 0
  | i + 1 => if (x >>> i) &&& 1 = 0 then kpC x i else kpC x i + 1
/-- the bits of v at the places that x names, packed -/
def kpV (x v : Nat) : Nat → Nat
  | 0 => 0
  | i + 1 => if (x >>> i) &&& 1 = 0 then kpV x v i else kpV x v i ||| ((((v >>> i) &&& 1) <<< kpC x i) % 256)
theorem kpC_le (x : Nat) : ∀ i, kpC x i ≤ i
  | 0 => Nat.le_refl _
  | i + 1 => by
    have := kpC_le x i
    rw [kpC]; split <;> omega
theorem kpV_lt (x v : Nat) : ∀ i, kpV x v i < 256
  | 0 => by show 0 < 256; decide
  | i + 1 => by
    rw [kpV]; split
    · exact kpV_lt x v i
    · exact or_lt_u8 (kpV_lt x v i) (Nat.mod_lt _ (by decide))
/-- one more place, for every row -/
def nxR (a A : Nat → Nat) (i j : Nat) : Nat → Nat := fun r => A r ||| ((((a r >>> i) &&& 1) <<< j) % 256)
theorem nxR_lt {a A : Nat → Nat} (hA : ∀ k, A k < 256) (i j : Nat) : ∀ k, nxR a A i j k < 256 := fun k => or_lt_u8 (hA k) (Nat.mod_lt _ (by decide))
theorem keep_upd (a A : Nat → Nat) (i j k : Nat) : upd (mixF (nxR a A i j) A k) k ((mixF (nxR a A i j) A k k ||| ((((a k >>> i) &&& 1) <<< j) % 256))) = mixF (nxR a A i j) A (k + 1) := by
  rw [mix_at]; exact mix_upd (nxR a A i j) A k
theorem keep_t {a A : Nat → Nat} {x i j : Nat} (hA : ∀ r, r < 6 → A r = kpV x (a r) i) (hj : j = kpC x i) (h : ¬ (x >>> i) &&& 1 = 0) {k : Nat} (hk : k = 6) : ∀ r, r < 6 → mixF (nxR a A i j) A k r = kpV x (a r) (i + 1) := by
  intro r hr
  rw [mix_lo (by omega), kpV, if_neg h, ← hA r hr, ← hj]; rfl
theorem keep_f {a A : Nat → Nat} {x i : Nat} (hA : ∀ r, r < 6 → A r = kpV x (a r) i) (h : (x >>> i) &&& 1 = 0) : ∀ r, r < 6 → A r = kpV x (a r) (i + 1) := by
  intro r hr
  rw [kpV, if_pos h]; exact hA r hr
theorem kpC_t {x i j : Nat} (hj : j = kpC x i) (h : ¬ (x >>> i) &&& 1 = 0) : j + 1 = kpC x (i + 1) := by rw [kpC, if_neg h, hj]
theorem kpC_f {x i j : Nat} (hj : j = kpC x i) (h : (x >>> i) &&& 1 = 0) : j = kpC x (i + 1) := by rw [kpC, if_pos h, hj]
/-! ### a part that is lost -/
def lsB (q v : Nat) : Nat := (v &&& ((((1 <<< q) % 256) + 255) % 256)) ||| (((v >>> (q + 1)) <<< q) % 256)
theorem lsB_lt {q v : Nat} (hv : v < 256) : lsB q v < 256 := or_lt_u8 (and_lt_l hv) (Nat.mod_lt _ (by decide))
theorem lose_all : ∀ p, p < 9 → ∀ q, q < p → kpC (bdiff (2 ^ p - 1) ((1 <<< q) % 256)) p = p - 1 ∧ ∀ v, v < 2 ^ p → kpV (bdiff (2 ^ p - 1) ((1 <<< q) % 256)) v p = lsB q v := by decide +kernel
def lsC (s p : Int) (a b : Nat → Nat) (q : Int) : Nat := bif schOk s p a b then (if 0 ≤ q ∧ q ≤ p - 1 then (if p = 1 then 4 else 0) else 2) else 1
section
variable {s p q : Int} {a b : Nat → Nat}
theorem first_lose : firstZ 3 (fun i => [!schOk s p a b, !decide (0 ≤ q ∧ q ≤ p - 1), decide (p = 1)].getD i false) (fun i => [1, 2, 4].getD i 0) = ((lsC s p a b q : Nat) : Int) := by
  rw [firstZ3]
  unfold lsC
  cases hs : schOk s p a b with
  | false => rfl
  | true =>
    rw [Bool.not_true, cond_false, cond_true]
    by_cases h : 0 ≤ q ∧ q ≤ p - 1
    · rw [if_pos h, decide_eq_true h, Bool.not_true, cond_false]
      by_cases h1 : p = 1
      · rw [if_pos h1, decide_eq_true h1]; rfl
      · rw [if_neg h1, decide_eq_false h1]; rfl
    · rw [if_neg h, decide_eq_false h]; rfl
theorem lsC_1 (h : schOk s p a b = false) : lsC s p a b q = 1 := by unfold lsC; rw [h]; rfl
theorem lsC_2 (h : schOk s p a b = true) (h2 : ¬ (0 ≤ q ∧ q ≤ p - 1)) : lsC s p a b q = 2 := by unfold lsC; rw [h, cond_true, if_neg h2]
theorem lsC_4 (h : schOk s p a b = true) (h2 : 0 ≤ q ∧ q ≤ p - 1) (h3 : p = 1) : lsC s p a b q = 4 := by unfold lsC; rw [h, cond_true, if_pos h2, if_pos h3]
theorem lsC_0 (h : schOk s p a b = true) (h2 : 0 ≤ q ∧ q ≤ p - 1) (h3 : ¬ p = 1) : lsC s p a b q = 0 := by unfold lsC; rw [h, cond_true, if_pos h2, if_neg h3]
theorem lsC_spec (h : lsC s p a b q = 0) : schOk s p a b = true ∧ (0 ≤ q ∧ q ≤ p - 1) ∧ ¬ p = 1 := by
  unfold lsC at h
  cases hs : schOk s p a b with
  | false => rw [hs] at h; cases h
  | true =>
    rw [hs, cond_true] at h
    split at h
    · split at h
      · cases h
      · exact ⟨rfl, by assumption, by assumption⟩
    · cases h
end
/-- What a lost part leaves, and the code. -/
def lsV (s p : Int) (a b : Nat → Nat) (q : Int) : List Value := schV (selI (lsC s p a b q) s) (selI (lsC s p a b q) (p - 1)) (selF (lsC s p a b q) fun k => lsB q.toNat (a k)) (selF (lsC s p a b q) fun k => lsB q.toNat (b k))
theorem ls_f {s p q c : Int} {a b : Nat → Nat} (h : ¬ lsC s p a b q = 0) (hc : c = ((lsC s p a b q : Nat) : Int)) : Value.tuple #[.agg (schV 0 0 (fun _ => 0) (fun _ => 0)).toArray, .int .i64 c] = .tuple #[.agg (lsV s p a b q).toArray, .int .i64 ((lsC s p a b q : Nat) : Int)] := by
  unfold lsV selI selF; rw [if_neg h, if_neg h, if_neg h, if_neg h, hc]
theorem ls_t {s p q u : Int} {a b A B : Nat → Nat} (h : lsC s p a b q = 0) (hu : u = p - 1) (hA : ∀ k, k < 6 → A k = lsB q.toNat (a k)) (hB : ∀ k, k < 6 → B k = lsB q.toNat (b k)) : Value.tuple #[.agg (schV s u A B).toArray, .int .i64 0] = .tuple #[.agg (lsV s p a b q).toArray, .int .i64 ((lsC s p a b q : Nat) : Int)] := by
  unfold lsV selI selF; rw [if_pos h, if_pos h, if_pos h, if_pos h, h, hu, schV_congr rfl rfl hA hB]; rfl
theorem ls_impl {s : Int} {m r : Nat} {a b : Nat → Nat} (h : lsC s (m : Int) a b (r : Int) = 0) : Value.tuple #[.agg (schV s ((kpC (bdiff (2 ^ m - 1) ((1 <<< r) % 256)) ((m : Int)).toNat : Nat) : Int) (fun k => kpV (bdiff (2 ^ m - 1) ((1 <<< r) % 256)) (a k) ((m : Int)).toNat) (fun k => kpV (bdiff (2 ^ m - 1) ((1 <<< r) % 256)) (b k) ((m : Int)).toNat)).toArray, .int .i64 0] = .tuple #[.agg (lsV s (m : Int) a b (r : Int)).toArray, .int .i64 ((lsC s (m : Int) a b (r : Int) : Nat) : Int)] := by
  obtain ⟨hok, hr, hm⟩ := lsC_spec h
  obtain ⟨_, hp, hrow⟩ := schOk_spec hok
  obtain ⟨h1, h2⟩ := lose_all m (by omega) r (by omega)
  refine ls_t h ?_ (fun k hk => ?_) (fun k hk => ?_)
  · rw [Int.toNat_natCast, h1]; omega
  · have := (hrow k hk).1
    exact h2 (a k) (Nat.lt_of_le_of_lt Nat.left_le_or this)
  · have := (hrow k hk).1
    exact h2 (b k) (Nat.lt_of_le_of_lt Nat.right_le_or this)
def lsF (r : Nat) (a : Nat → Nat) : Nat → Nat := fun k => lsB r (a k)
theorem lose_upd (a : Nat → Nat) (r k : Nat) : upd (mixF (lsF r a) a k) k (lsB r (mixF (lsF r a) a k k)) = mixF (lsF r a) a (k + 1) := by
  rw [mix_at]; exact mix_upd (lsF r a) a k
attribute [irreducible] lsC
end Go.Proofs.Ytagghfllgafmgaa
