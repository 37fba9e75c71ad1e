/-
  What the program's functions compute, in plain words: layers, marks.
-/
import Derived.Test.YtagghfllgafmgaaFacts
namespace Go.Proofs.Ytagghfllgafmgaa
set_option linter.unusedVariables false
set_option linter.unusedSimpArgs false
open Go.RowKit

theorem mask_eq (p : Nat) (h : p ≤ 8) : ((1 <<< p) % 256 + (256 - 1)) % 256 = 2 ^ p - 1 := by
  have : ∀ p, p < 9 → ((1 <<< p) % 256 + (256 - 1)) % 256 = 2 ^ p - 1 := by decide
  exact this p (by omega)
theorem mask_lt {p : Nat} (h : p ≤ 8) : 2 ^ p - 1 < 256 := by
  have : ∀ p, p < 9 → 2 ^ p - 1 < 256 := by decide
  exact this p (by omega)
theorem bdiff_mask {x n : Nat} (hx : x < 256) (hn : n ≤ 8) : bdiff x (2 ^ n - 1) = 0 ↔ x < 2 ^ n := by
  have : ∀ n, n < 9 → ∀ x, x < 256 → (bdiff x (2 ^ n - 1) = 0 ↔ x < 2 ^ n) := by decide +kernel
  exact this n (by omega) x hx
theorem shr_zero {x n : Nat} : x >>> n = 0 ↔ x < 2 ^ n := by
  rw [Nat.shiftRight_eq_div_pow, Nat.div_eq_zero_iff]
  have : 0 < 2 ^ n := Nat.two_pow_pos n
  omega
theorem all_snoc {p : Nat → Prop} {k : Nat} (h : ∀ j, j < k → p j) (hk : p k) : ∀ j, j < k + 1 → p j := by
  intro j hj
  by_cases e : j = k
  · subst e; exact hk
  · exact h j (by omega)

/-! ### layers -/
def layOk (p : Int) (c : Nat → Nat) : Bool := decide (1 ≤ p ∧ p ≤ 8) && (List.range 64).all (fun k => decide (c k < 2 ^ p.toNat))
theorem layOk_iff {p : Int} {c : Nat → Nat} : layOk p c = true ↔ (1 ≤ p ∧ p ≤ 8) ∧ ∀ k, k < 64 → c k < 2 ^ p.toNat := by
  simp [layOk, List.all_eq_true]
theorem layOk_iffN {n : Nat} {c : Nat → Nat} : layOk (n : Int) c = true ↔ (1 ≤ n ∧ n ≤ 8) ∧ ∀ k, k < 64 → c k < 2 ^ n := by
  rw [layOk_iff]; simp; omega
theorem layOk_f1 {p : Int} {c : Nat → Nat} (h : ¬ (1 ≤ p ∧ p ≤ 8)) : layOk p c = false := by
  rw [Bool.eq_false_iff, Ne, layOk_iff]; exact fun h' => h h'.1
theorem layOk_f2 {n k : Nat} {c : Nat → Nat} (hk : k < 64) (h : ¬ c k < 2 ^ n) : layOk (n : Int) c = false := by
  rw [Bool.eq_false_iff, Ne, layOk_iffN]; exact fun h' => h (h'.2 k hk)
theorem layOk_t {n : Nat} {c : Nat → Nat} (h : 1 ≤ (n : Int) ∧ (n : Int) ≤ 8) (hc : ∀ k, k < 64 → c k < 2 ^ n) : layOk (n : Int) c = true := layOk_iffN.2 ⟨by omega, hc⟩

/-- the mark of a layer: behind k cells -/
def mixI (seed : Nat) (p : Int) : Nat := (seed * 16777619 % 4294967296) ^^^ (p % 4294967296).toNat
def markK (seed : Nat) (p : Int) (c : Nat → Nat) : Nat → Nat
  | 0 => mixI seed p
  | k + 1 => (markK seed p c k * 16777619 % 4294967296) ^^^ c k
theorem markK_lt {seed : Nat} {p : Int} {c : Nat → Nat} (k : Nat) (hc : ∀ j, c j < 256) : markK seed p c k < 4294967296 := by
  cases k with
  | zero => exact Nat.xor_lt_two_pow (n := 32) (Nat.mod_lt _ (by decide)) (toNat_mod_lt (B := 4294967296) (by decide))
  | succ k => exact Nat.xor_lt_two_pow (n := 32) (Nat.mod_lt _ (by decide)) (Nat.lt_trans (hc k) (by decide))
def codeIf (b : Bool) (e : Nat) : Nat := bif b then 0 else e
def markF (seed : Nat) (p : Int) (c : Nat → Nat) : Nat := bif layOk p c then markK seed p c 64 else 0
theorem mark_t {seed : Nat} {p : Int} {c : Nat → Nat} (h : layOk p c = true) : markK seed p c 64 = markF seed p c := by
  unfold markF; rw [h, cond_true]
theorem mark_f {seed : Nat} {p : Int} {c : Nat → Nat} (h : layOk p c = false) : 0 = markF seed p c := by
  unfold markF; rw [h, cond_false]
theorem code_t {b : Bool} (e : Nat) (h : b = true) : 0 = codeIf b e := by rw [h]; rfl
theorem code_f {b : Bool} (e : Nat) (h : b = false) : e = codeIf b e := by rw [h]; rfl
theorem tup2 {k1 k2 : IntKind} {a b c d : Nat} (h1 : a = c) (h2 : b = d) : Value.tuple #[.int k1 (a : Int), .int k2 (b : Int)] = .tuple #[.int k1 (c : Int), .int k2 (d : Int)] := by rw [h1, h2]
theorem upd_snoc {α : Type} {c d : Nat → α} {k : Nat} {v : α} (h : ∀ j, j < k → d j = c j) (hv : v = c k) : ∀ j, j < k + 1 → upd d k v j = c j := by
  intro j hj
  unfold upd
  split
  · rename_i e; subst e; exact hv
  · exact h j (by omega)
end Go.Proofs.Ytagghfllgafmgaa
