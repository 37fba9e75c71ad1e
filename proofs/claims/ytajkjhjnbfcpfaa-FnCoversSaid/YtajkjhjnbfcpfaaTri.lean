/-
  Plain laws: what three layers show that are drawn together.
-/
import Derived.Test.YtajkjhjnbfcpfaaPerm
import Derived.Test.YtajkjhjnbfcpfaaSrc
namespace Go.Proofs.Ytajkjhjnbfcpfaa
set_option linter.unusedVariables false
set_option linter.unusedSimpArgs false
open Go.RowKit
theorem fit255 {x : Nat} (h : x ≤ 255) : fitI .i64 ((x : Nat) : Int) := by simp only [fitI]; omega
/-! ### how many cells have so many black parts -/
def hsF (p : Int) (c : Nat → Nat) : Nat → Nat := fun v => bif layOk p c then cnt (fun j => pc (c j)) v 64 else 0
def hsC (p : Int) (c : Nat → Nat) : Nat := bif layOk p c then 0 else 1
section
variable {p : Int} {c : Nat → Nat}
theorem hs_f (h : layOk p c = false) : Value.tuple #[.agg (arrU .i64 9 (fun _ => 0)).toArray, .int .i64 1] = .tuple #[.agg (arrU .i64 9 (hsF p c)).toArray, .int .i64 ((hsC p c : Nat) : Int)] := by
  have e : hsF p c = fun _ => 0 := by funext v; unfold hsF; rw [h]; rfl
  rw [e]; unfold hsC; rw [h]; rfl
theorem hs_t {e : Nat → Nat} (h : layOk p c = true) (he : ∀ v, e v = cnt (fun j => pc (c j)) v 64) : Value.tuple #[.agg (arrU .i64 9 e).toArray, .int .i64 0] = .tuple #[.agg (arrU .i64 9 (hsF p c)).toArray, .int .i64 ((hsC p c : Nat) : Int)] := by
  rw [arrU_congr (d := hsF p c) fun j _ => (he j).trans (by unfold hsF; rw [h]; rfl)]; unfold hsC; rw [h]; rfl
end
theorem cnt_all {u : Nat → Nat} {v : Nat} : ∀ n, (∀ j, j < n → u j = v) → cnt u v n = n
  | 0, _ => rfl
  | n + 1, h => by rw [cnt, cnt_all n (fun j hj => h j (by omega)), if_pos (h n (by omega))]
/-! ### three layers -/
theorem otF_4 (b : Bool) : otF b < 2 ^ 2 := by cases b <;> decide
theorem tri_4 (p q k r : Nat) : triF p q k r < 2 ^ 2 := by
  unfold triF
  match r with
  | 0 => show 1 < 4; decide
  | 1 => exact otF_4 _
  | 2 => exact otF_4 _
  | _ + 3 => show 0 < 4; decide
section
variable {p q x : Nat}
theorem tri_k {r s : Nat} : codeP 2 (fun i => [(2 : Int), 2].getD i 0) (fun i => [dwC (triF p q) 2 x r, dwC (triF p q) 2 x s].getD i (fun _ => 0)) 2 = 0 := by
  refine lays_ok (q := 2) rfl (by decide) (fun i hi k _ => ?_) (fun i hi => ?_)
  · rcases (show i = 0 ∨ i = 1 by omega) with rfl | rfl
    · rw [List.getD_cons_zero]; exact dw_pow (by decide)
    · rw [List.getD_cons_succ, List.getD_cons_zero]; exact dw_pow (by decide)
  · rcases (show i = 0 ∨ i = 1 by omega) with rfl | rfl <;> rfl
theorem tri_s {r s z : Nat} (hz : z < 18446744073709551616) (h : ∀ k, k < 64 → decide (2 ≤ pc (triF p q k r ||| triF p q k s)) = bitB z k) :
    selN (codeP 2 (fun i => [(2 : Int), 2].getD i 0) (fun i => [dwC (triF p q) 2 x r, dwC (triF p q) 2 x s].getD i (fun _ => 0)) 2) (pic (fun r_ => decide ((2 : Int) ≤ ((pc (orC (fun i => [dwC (triF p q) 2 x r, dwC (triF p q) 2 x s].getD i (fun _ => 0)) 2 r_) : Nat) : Int)))) = z := by
  unfold selN
  rw [if_pos tri_k]
  refine pic_is hz fun k hk => ?_
  rw [orC_2, dw_pc2 (by decide) (tri_4 p q k r) (tri_4 p q k s), ← h k hk]
  exact decide_eq_decide.2 (by omega)
theorem tri_1 (hp : p < 18446744073709551616) : selN (codeP 2 (fun i => [(2 : Int), 2].getD i 0) (fun i => [dwC (triF p q) 2 x 0, dwC (triF p q) 2 x 1].getD i (fun _ => 0)) 2) (pic (fun r_ => decide ((2 : Int) ≤ ((pc (orC (fun i => [dwC (triF p q) 2 x 0, dwC (triF p q) 2 x 1].getD i (fun _ => 0)) 2 r_) : Nat) : Int)))) = p :=
  tri_s hp fun k hk => by show decide (2 ≤ pc (1 ||| otF (bitB p k))) = bitB p k; cases bitB p k <;> kernel_rfl
theorem tri_2 (hq : q < 18446744073709551616) : selN (codeP 2 (fun i => [(2 : Int), 2].getD i 0) (fun i => [dwC (triF p q) 2 x 0, dwC (triF p q) 2 x 2].getD i (fun _ => 0)) 2) (pic (fun r_ => decide ((2 : Int) ≤ ((pc (orC (fun i => [dwC (triF p q) 2 x 0, dwC (triF p q) 2 x 2].getD i (fun _ => 0)) 2 r_) : Nat) : Int)))) = q :=
  tri_s hq fun k hk => by show decide (2 ≤ pc (1 ||| otF (bitB q k))) = bitB q k; cases bitB q k <;> kernel_rfl
theorem tri_3 (hp : p < 18446744073709551616) (hq : q < 18446744073709551616) : selN (codeP 2 (fun i => [(2 : Int), 2].getD i 0) (fun i => [dwC (triF p q) 2 x 1, dwC (triF p q) 2 x 2].getD i (fun _ => 0)) 2) (pic (fun r_ => decide ((2 : Int) ≤ ((pc (orC (fun i => [dwC (triF p q) 2 x 1, dwC (triF p q) 2 x 2].getD i (fun _ => 0)) 2 r_) : Nat) : Int)))) = p ^^^ q :=
  tri_s (Nat.xor_lt_two_pow (n := 64) hp hq) fun k hk => by
    show decide (2 ≤ pc (otF (bitB p k) ||| otF (bitB q k))) = bitB (p ^^^ q) k
    rw [bitB_test (p ^^^ q), Nat.testBit_xor, ← bitB_test, ← bitB_test]
    cases bitB p k <;> cases bitB q k <;> kernel_rfl
theorem tri_l : layOk 2 (dwC (triF p q) 2 x 2) = true := layOk_iffN.2 ⟨by decide, fun k _ => dw_pow (by decide)⟩
theorem tri_h0 : hsC 2 (dwC (triF p q) 2 x 2) = 0 := by unfold hsC; rw [tri_l]; rfl
theorem tri_h1 : hsF 2 (dwC (triF p q) 2 x 2) 1 = 64 := by
  unfold hsF; rw [tri_l, cond_true]
  refine cnt_all 64 fun j _ => ?_
  rw [dw_pc (by decide) (tri_4 p q j 2)]
  show pc (otF (bitB q j)) = 1
  cases bitB q j <;> kernel_rfl
end
attribute [irreducible] hsF hsC
end Go.Proofs.Ytajkjhjnbfcpfaa
