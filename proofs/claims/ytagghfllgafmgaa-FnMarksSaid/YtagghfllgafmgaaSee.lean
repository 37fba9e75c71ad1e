/-
  Plain laws: who sees the picture by what was handed on, and the first sight.
-/
import Derived.Test.YtagghfllgafmgaaHand
import Derived.Test.YtagghfllgafmgaaApp
namespace Go.Proofs.Ytagghfllgafmgaa
set_option linter.unusedVariables false
set_option linter.unusedSimpArgs false
open Go.RowKit
theorem orS_stop {t : Nat → Nat} {x n : Nat} : ∀ (d : Nat), (∀ k, n ≤ k → k < n + d → t k = 0) → orS t x (n + d) = orS t x n
  | 0, _ => rfl
  | d + 1, h => by
    rw [← Nat.add_assoc, orS, h (n + d) (by omega) (by omega), Nat.or_zero, orS_stop d (fun k h1 h2 => h k h1 (by omega))]
    split <;> rfl
theorem sees_rows {n : Nat} {p : Int} {a b : Nat → Nat} (h : schOk (n : Int) p a b = true) (x : Nat) : n ≤ 6 ∧ pc (orS a x n) = wt a x ∧ pc (orS b x n) = wt b x := by
  obtain ⟨h1, _, h3⟩ := schOk_spec h
  have hz : ∀ k, n ≤ k → k < n + (6 - n) → a k = 0 ∧ b k = 0 := fun k hk hk2 => by
    have := (h3 k (by omega)).2 (by omega)
    exact ⟨Nat.eq_zero_of_le_zero (this ▸ Nat.left_le_or), Nat.eq_zero_of_le_zero (this ▸ Nat.right_le_or)⟩
  have e6 : n + (6 - n) = 6 := by omega
  refine ⟨by omega, ?_, ?_⟩
  · unfold wt; rw [← orS_stop (6 - n) (fun k h1 h2 => (hz k h1 h2).1), e6]
  · unfold wt; rw [← orS_stop (6 - n) (fun k h1 h2 => (hz k h1 h2).2), e6]
def seQ (a b : Nat → Nat) (x y : Nat → Int) (t k : Nat) : Bool := decide (0 < gapZ a b (knF x y (k : Int) t))
section
variable {a b : Nat → Nat} {x y : Nat → Int} {t k : Nat}
theorem seQ_t (h : 0 < gapZ a b (knF x y (k : Int) t)) : seQ a b x y t k = true := decide_eq_true h
theorem seQ_f (h : ¬ 0 < gapZ a b (knF x y (k : Int) t)) : seQ a b x y t k = false := decide_eq_false h
end
def fsF (a b : Nat → Nat) (x y : Nat → Int) : Nat → Nat → Nat × Nat × Nat
  | 0, _ => (0, 0, 6)
  | m + 1, k => bif decide (0 < flN (seQ a b x y (k + 1)) 10) then (k, flA (seQ a b x y (k + 1)) 10 0, 0) else fsF a b x y m (k + 1)
def fsT (s p : Int) (a b : Nat → Nat) (n : Nat) (x y : Nat → Int) : Nat × Nat × Nat := bif hvOk s p a b n x y then fsF a b x y n 0 else (0, 0, 1)
section
variable {s p : Int} {a b : Nat → Nat} {n k : Nat} {x y : Nat → Int}
theorem fs_i (h : hvOk s p a b n x y = false) : fsT s p a b n x y = (0, 0, 1) := by unfold fsT; rw [h]; rfl
theorem fs_o (h : hvOk s p a b n x y = true) : fsT s p a b n x y = fsF a b x y (n - 0) 0 := by unfold fsT; rw [h]; rfl
theorem fs_t (hk : k < n) (h : fsT s p a b n x y = fsF a b x y (n - k) k) (hq : 0 < flN (seQ a b x y (k + 1)) 10) : fsT s p a b n x y = (k, flA (seQ a b x y (k + 1)) 10 0, 0) := by
  rw [h, show n - k = (n - k - 1) + 1 by omega, fsF, decide_eq_true hq]; rfl
theorem fs_f (hk : k < n) (h : fsT s p a b n x y = fsF a b x y (n - k) k) (hq : ¬ 0 < flN (seQ a b x y (k + 1)) 10) : fsT s p a b n x y = fsF a b x y (n - (k + 1)) (k + 1) := by
  rw [h, show n - k = (n - (k + 1)) + 1 by omega, fsF, decide_eq_false hq]; rfl
theorem fs_e (hk : ¬ k < n) (h : fsT s p a b n x y = fsF a b x y (n - k) k) : fsT s p a b n x y = (0, 0, 6) := by
  rw [h, show n - k = 0 by omega]; rfl
end
theorem giv1_v {s p t : Int} {a b : Nat → Nat} {n : Nat} {x y : Nat → Int} (h : ¬ givC s p a b n x y t true = 0) (ht : 0 ≤ t ∧ t ≤ (n : Int)) : hvOk s p a b n x y = false := by
  cases hv : hvOk s p a b n x y with
  | false => rfl
  | true => exact absurd (givC_0 hv ht rfl).symm h
theorem giv1_e {s p t : Int} {a b : Nat → Nat} {n : Nat} {x y : Nat → Int} (h : ¬ givC s p a b n x y t true = 0) (ht : 0 ≤ t ∧ t ≤ (n : Int)) : givC s p a b n x y t true = 1 := (givC_1 (giv1_v h ht)).symm
theorem fs_tup {P : Nat × Nat × Nat} {u v w : Nat} {u' v' w' : Int} (h : P = (u, v, w)) (h1 : u' = (u : Int)) (h2 : v' = (v : Int)) (h3 : w' = (w : Int)) : Value.tuple #[.int .i64 u', .int .i64 v', .int .i64 w'] = .tuple #[.int .i64 ((P.1 : Nat) : Int), .int .i64 ((P.2.1 : Nat) : Int), .int .i64 ((P.2.2 : Nat) : Int)] := by
  subst h; rw [h1, h2, h3]
attribute [irreducible] seQ fsT
end Go.Proofs.Ytagghfllgafmgaa
