/-
  Plain laws: fractions.
-/
import Derived.Test.YtdlmbdclbnlmlaaDefs
namespace Go.Proofs.Ytdlmbdclbnlmlaa
set_option linter.unusedVariables false
set_option linter.unusedSimpArgs false
open Go.RowKit
theorem mul_bd16 {a b : Int} (ha : -32768 ≤ a ∧ a ≤ 32767) (hb : -32768 ≤ b ∧ b ≤ 32767) : -1073741824 ≤ a * b ∧ a * b ≤ 1073741824 := by
  have h1 : a.natAbs ≤ 32768 := by omega
  have h2 : b.natAbs ≤ 32768 := by omega
  have h3 : (a * b).natAbs ≤ 32768 * 32768 := by rw [Int.natAbs_mul]; exact Nat.mul_le_mul h1 h2
  omega
def ratOk (n d : Int) : Prop := (-100 ≤ n ∧ n ≤ 100) ∧ (1 ≤ d ∧ d ≤ 100)
instance (n d : Int) : Decidable (ratOk n d) := inferInstanceAs (Decidable (_ ∧ _))
theorem ratOk_t {n d : Int} (h : -100 ≤ n ∧ n ≤ 100) : decide (1 ≤ d ∧ d ≤ 100) = decide (ratOk n d) := by
  unfold ratOk; simp only [h, true_and]
theorem ratOk_f {n d : Int} (h : ¬ (-100 ≤ n ∧ n ≤ 100)) : false = decide (ratOk n d) := (decide_eq_false (fun q => h q.1)).symm
/-- The sign of a - b. -/
def cmpZ (a b : Int) : Int := if a < b then -1 else if b < a then 1 else 0
theorem cmpZ_sub (a b : Int) : cmpZ (a - b) 0 = cmpZ a b := by
  unfold cmpZ
  simp only [show (a - b < 0) ↔ (a < b) from by omega, show (0 < a - b) ↔ (b < a) from by omega]
theorem cmpZ_lt {a b : Int} (h : a < b) : -1 = cmpZ a b := by unfold cmpZ; rw [if_pos h]
theorem cmpZ_gt {a b : Int} (h : b < a) : 1 = cmpZ a b := by unfold cmpZ; rw [if_neg (by omega), if_pos h]
theorem cmpZ_eq {a b : Int} (h : ¬ a < b) (h2 : ¬ b < a) : 0 = cmpZ a b := by unfold cmpZ; rw [if_neg h, if_neg h2]
def cmpF (n d m e : Int) : Int := if ratOk n d ∧ ratOk m e then cmpZ (n * e) (m * d) else 0
theorem cmpR_t {n d m e : Int} (h : ratOk n d) (h2 : ratOk m e) : Value.tuple #[.int .i64 (cmpZ (n * e) (m * d)), .int .i64 0] = .tuple #[.int .i64 (cmpF n d m e), .int .i64 ((codeIf (decide (ratOk n d) && decide (ratOk m e)) 1 : Nat) : Int)] := by
  unfold cmpF; rw [if_pos ⟨h, h2⟩, decide_eq_true h, decide_eq_true h2]; rfl
theorem cmpR_f1 {n d m e : Int} (h : ¬ ratOk n d) : Value.tuple #[.int .i64 0, .int .i64 1] = .tuple #[.int .i64 (cmpF n d m e), .int .i64 ((codeIf (decide (ratOk n d) && decide (ratOk m e)) 1 : Nat) : Int)] := by
  unfold cmpF; rw [if_neg (fun q => h q.1), decide_eq_false h]; rfl
theorem cmpR_f2 {n d m e : Int} (h : ¬ ratOk m e) : Value.tuple #[.int .i64 0, .int .i64 1] = .tuple #[.int .i64 (cmpF n d m e), .int .i64 ((codeIf (decide (ratOk n d) && decide (ratOk m e)) 1 : Nat) : Int)] := by
  unfold cmpF; rw [if_neg (fun q => h q.2), decide_eq_false h, Bool.and_false]; rfl
end Go.Proofs.Ytdlmbdclbnlmlaa
