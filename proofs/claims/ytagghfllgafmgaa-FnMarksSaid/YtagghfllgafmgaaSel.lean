/-
  A function whose first values are new; what is told where a code is 0. Nothing here speaks of one program.
-/
import Derived.Test.YtagghfllgafmgaaSl
namespace Go.Proofs.Ytagghfllgafmgaa
set_option linter.unusedVariables false
set_option linter.unusedSimpArgs false
open Go.RowKit
/-- the first k values are new, the rest old -/
def mixF (f g : Nat → Nat) (k : Nat) : Nat → Nat := fun r => if r < k then f r else g r
theorem mix_zero (f g : Nat → Nat) : g = mixF f g 0 := by funext r; unfold mixF; rw [if_neg (by omega)]
theorem mix_at (f g : Nat → Nat) (k : Nat) : mixF f g k k = g k := by unfold mixF; rw [if_neg (by omega)]
theorem mix_upd (f g : Nat → Nat) (k : Nat) : upd (mixF f g k) k (f k) = mixF f g (k + 1) := by
  funext r
  unfold upd mixF
  by_cases h : r = k
  · subst h; simp
  · rw [if_neg h]
    by_cases h2 : r < k
    · rw [if_pos h2, if_pos (by omega)]
    · rw [if_neg h2, if_neg (by omega)]
theorem mix_lo {f g : Nat → Nat} {n k : Nat} (h : k < n) : mixF f g n k = f k := by unfold mixF; rw [if_pos h]
theorem mix_lt {f g : Nat → Nat} {B : Nat} (hf : ∀ k, f k < B) (hg : ∀ k, g k < B) (n : Nat) : ∀ k, mixF f g n k < B := by
  intro k; unfold mixF; split
  · exact hf k
  · exact hg k
def selI (c : Nat) (u : Int) : Int := if c = 0 then u else 0
def selF (c : Nat) (f : Nat → Nat) : Nat → Nat := if c = 0 then f else fun _ => 0
theorem selF_lt {c : Nat} {f : Nat → Nat} {B : Nat} (h : ∀ k, f k < B) (hB : 0 < B) : ∀ k, selF c f k < B := by
  intro k; unfold selF; split
  · exact h k
  · exact hB
def selZ (c : Nat) (u : Int) : Int := if c = 0 then u else 0
def selN (c : Nat) (u : Nat) : Nat := if c = 0 then u else 0
theorem selN_lt {c u B : Nat} (h : u < B) : selN c u < B := by unfold selN; split <;> omega
end Go.Proofs.Ytagghfllgafmgaa
