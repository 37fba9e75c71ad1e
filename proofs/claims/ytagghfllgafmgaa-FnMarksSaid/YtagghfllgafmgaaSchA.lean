/-
  Plain laws: gap tables, noise, levels, ratios, lost parts.
-/
import Derived.Test.YtagghfllgafmgaaSch
namespace Go.Proofs.Ytagghfllgafmgaa
set_option linter.unusedVariables false
set_option linter.unusedSimpArgs false
open Go.RowKit
theorem pow_le64 {n : Nat} (h : n ≤ 6) : 2 ^ n ≤ 64 := Nat.le_trans (Nat.pow_le_pow_right (by decide) h) (by decide)
def gapTab (s p : Int) (a b : Nat → Nat) : Nat → Int := bif schOk s p a b then tabZ (gapZ a b) (2 ^ s.toNat) else fun _ => 0
theorem gapTab_f {s p : Int} {a b : Nat → Nat} (h : schOk s p a b = false) : Value.tuple #[.agg (arrZ .i8 64 (fun _ => 0)).toArray, .int .i64 1] = .tuple #[.agg (arrZ .i8 64 (gapTab s p a b)).toArray, .int .i64 ((codeIf (schOk s p a b) 1 : Nat) : Int)] := by
  unfold gapTab; rw [h]; rfl
theorem gapTab_t {p : Int} {a b : Nat → Nat} {n k : Nat} (h : schOk (n : Int) p a b = true) (hk : k = 2 ^ n) : Value.tuple #[.agg (arrZ .i8 64 (tabZ (gapZ a b) k)).toArray, .int .i64 0] = .tuple #[.agg (arrZ .i8 64 (gapTab (n : Int) p a b)).toArray, .int .i64 ((codeIf (schOk (n : Int) p a b) 1 : Nat) : Int)] := by
  unfold gapTab; rw [h, hk]; rfl
/-! ### noise -/
def survC (s p : Int) (a b : Nat → Nat) (x : Nat) (z : Int) : Nat := if asked s p a b x = 0 then (if 0 ≤ z ∧ z ≤ 8 then 0 else 2) else asked s p a b x
def survB (s p : Int) (a b : Nat → Nat) (x : Nat) (z : Int) : Bool := decide (survC s p a b x z = 0) && decide (2 * z < gapZ a b x)
section
variable {s p z : Int} {a b : Nat → Nat} {x : Nat}
theorem first_surv : firstZ 2 (fun i => [!decide (((asked s p a b x : Nat) : Int) = 0), !decide (0 ≤ z ∧ z ≤ 8)].getD i false) (fun i => [((asked s p a b x : Nat) : Int), 2].getD i 0) = ((survC s p a b x z : Nat) : Int) := by
  rw [firstZ2]
  unfold survC
  by_cases h : asked s p a b x = 0
  · rw [if_pos h]
    have h' : (!decide (((asked s p a b x : Nat) : Int) = 0)) = false := by rw [h]; rfl
    rw [h', cond_false]
    by_cases hz : 0 ≤ z ∧ z ≤ 8
    · rw [if_pos hz, decide_eq_true hz]; rfl
    · rw [if_neg hz, decide_eq_false hz]; rfl
  · rw [if_neg h]
    have h' : (!decide (((asked s p a b x : Nat) : Int) = 0)) = true := by rw [decide_eq_false (by omega)]; rfl
    rw [h', cond_true]
theorem survC_spec (h : survC s p a b x z = 0) : asked s p a b x = 0 ∧ 0 ≤ z ∧ z ≤ 8 := by
  unfold survC at h
  split at h
  · split at h
    · exact ⟨by assumption, by assumption⟩
    · cases h
  · omega
theorem survC_2 (h : asked s p a b x = 0) (hz : ¬ (0 ≤ z ∧ z ≤ 8)) : survC s p a b x z = 2 := by unfold survC; rw [if_pos h, if_neg hz]
theorem survC_n (h : ¬ asked s p a b x = 0) : survC s p a b x z = asked s p a b x := by unfold survC; rw [if_neg h]
theorem survC_0 (h : asked s p a b x = 0) (hz : 0 ≤ z ∧ z ≤ 8) : survC s p a b x z = 0 := by unfold survC; rw [if_pos h, if_pos hz]
theorem surv_f {c : Int} (h : ¬ survC s p a b x z = 0) (hc : c = ((survC s p a b x z : Nat) : Int)) : Value.tuple #[.bool false, .int .i64 c] = .tuple #[.bool (survB s p a b x z), .int .i64 ((survC s p a b x z : Nat) : Int)] := by
  unfold survB; rw [decide_eq_false h, hc]; rfl
theorem surv_t (h : survC s p a b x z = 0) : Value.tuple #[.bool (decide (2 * z < gapZ a b x)), .int .i64 0] = .tuple #[.bool (survB s p a b x z), .int .i64 ((survC s p a b x z : Nat) : Int)] := by
  unfold survB; rw [h, show decide (0 = 0) = true from rfl, Bool.true_and]; rfl
/-! ### levels -/
def lvC (s p : Int) (a b : Nat → Nat) (x : Nat) : Nat := if asked s p a b x = 0 then (if 0 < gapZ a b x then 0 else 6) else asked s p a b x
def sel0 (c u : Nat) : Nat := if c = 0 then u else 0
theorem lv_1 (h : ¬ asked s p a b x = 0) : Value.tuple #[.int .i64 0, .int .i64 0, .int .i64 ((asked s p a b x : Nat) : Int)] = .tuple #[.int .i64 ((sel0 (lvC s p a b x) (wt a x) : Nat) : Int), .int .i64 ((sel0 (lvC s p a b x) (wt b x) : Nat) : Int), .int .i64 ((lvC s p a b x : Nat) : Int)] := by
  have e : lvC s p a b x = asked s p a b x := by unfold lvC; rw [if_neg h]
  unfold sel0; rw [e, if_neg h, if_neg h]; rfl
theorem lv_2 (h : asked s p a b x = 0) (h2 : ¬ 0 < gapZ a b x) : Value.tuple #[.int .i64 0, .int .i64 0, .int .i64 6] = .tuple #[.int .i64 ((sel0 (lvC s p a b x) (wt a x) : Nat) : Int), .int .i64 ((sel0 (lvC s p a b x) (wt b x) : Nat) : Int), .int .i64 ((lvC s p a b x : Nat) : Int)] := by
  have e : lvC s p a b x = 6 := by unfold lvC; rw [if_pos h, if_neg h2]
  unfold sel0; rw [e]; rfl
theorem lv_3 (h : asked s p a b x = 0) (h2 : 0 < gapZ a b x) : Value.tuple #[.int .i64 ((wt a x : Nat) : Int), .int .i64 ((wt b x : Nat) : Int), .int .i64 0] = .tuple #[.int .i64 ((sel0 (lvC s p a b x) (wt a x) : Nat) : Int), .int .i64 ((sel0 (lvC s p a b x) (wt b x) : Nat) : Int), .int .i64 ((lvC s p a b x : Nat) : Int)] := by
  have e : lvC s p a b x = 0 := by unfold lvC; rw [if_pos h, if_pos h2]
  unfold sel0; rw [e]; rfl
end
attribute [irreducible] survC survB lvC gapTab
end Go.Proofs.Ytagghfllgafmgaa
