/-
  Plain laws: handings of shares: which are valid, who holds a share, what a person knows.
-/
import Derived.Test.YtagghfllgafmgaaHan
import Derived.Test.YtagghfllgafmgaaSch
import Derived.Test.YtagghfllgafmgaaSel
namespace Go.Proofs.Ytagghfllgafmgaa
set_option linter.unusedVariables false
set_option linter.unusedSimpArgs false
open Go.RowKit
def idxF (q : Nat → Bool) : Nat → Nat → Int
  | 0, _ => -1
  | m + 1, k => bif q k then (k : Int) else idxF q m (k + 1)
def idxZ (n : Nat) (q : Nat → Bool) : Int := idxF q n 0
theorem idx_t {q : Nat → Bool} {n k : Nat} (hk : k < n) (h : idxZ n q = idxF q (n - k) k) (hq : q k = true) : (k : Int) = idxZ n q := by
  rw [h, show n - k = (n - k - 1) + 1 by omega, idxF, hq]; rfl
theorem idx_f {q : Nat → Bool} {n k : Nat} (hk : k < n) (h : idxZ n q = idxF q (n - k) k) (hq : q k = false) : idxZ n q = idxF q (n - (k + 1)) (k + 1) := by
  rw [h, show n - k = (n - (k + 1)) + 1 by omega, idxF, hq]; rfl
theorem idx_e {q : Nat → Bool} {n k : Nat} (hk : ¬ k < n) (h : idxZ n q = idxF q (n - k) k) : -1 = idxZ n q := by
  rw [h, show n - k = 0 by omega]; rfl
def anyB (n : Nat) (q : Nat → Bool) : Bool := (List.range n).any q
theorem idxF_any (q : Nat → Bool) : ∀ (m k : Nat), (0 ≤ idxF q m k ↔ ∃ i, i < m ∧ q (k + i) = true)
  | 0, k => by
    unfold idxF
    constructor
    · intro h; omega
    · rintro ⟨i, hi, _⟩; omega
  | m + 1, k => by
    unfold idxF
    cases hq : q k with
    | true => exact ⟨fun _ => ⟨0, by omega, hq⟩, fun _ => by rw [cond_true]; omega⟩
    | false =>
      rw [cond_false, idxF_any q m (k + 1)]
      constructor
      · rintro ⟨i, hi, h⟩; exact ⟨i + 1, by omega, by rw [← h]; congr 1; omega⟩
      · rintro ⟨i, hi, h⟩
        cases i with
        | zero => rw [Nat.add_zero, hq] at h; cases h
        | succ i => exact ⟨i, by omega, by rw [← h]; congr 1; omega⟩
theorem any_idx (n : Nat) (q : Nat → Bool) : decide (0 ≤ idxZ n q) = anyB n q := by
  rw [Bool.eq_iff_iff, decide_eq_true_eq]
  unfold idxZ anyB
  rw [idxF_any, List.any_eq_true]
  simp
def hanP (s u v : Int) : Prop := (0 ≤ u ∧ u ≤ s - 1) ∧ (0 ≤ v ∧ v ≤ 9)
instance (s u v : Int) : Decidable (hanP s u v) := inferInstanceAs (Decidable (_ ∧ _))
def hanOk (s : Int) (n : Nat) (x y : Nat → Int) : Bool := decide (n ≤ 60) && (List.range n).all fun k => decide (hanP s (x k) (y k))
section
variable {s : Int} {n k : Nat} {x y : Nat → Int}
theorem hanOk_any : (decide ((n : Int) ≤ 60) && !anyB n (fun i => !decide (hanP s (x i) (y i)))) = hanOk s n x y := by
  unfold hanOk anyB
  congr 1
  · exact decide_eq_decide.2 (by omega)
  · rw [Bool.eq_iff_iff]
    simp
theorem hanOk_l (h : ¬ (n : Int) ≤ 60) : false = hanOk s n x y := by unfold hanOk; rw [decide_eq_false (by omega), Bool.false_and]
theorem hanOk_s (h : (n : Int) ≤ 60) : (!anyB n (fun i => !decide (hanP s (x i) (y i)))) = hanOk s n x y := by rw [← hanOk_any, decide_eq_true h, Bool.true_and]
theorem hanOk_f (hk : k < n) (h : ¬ hanP s (x k) (y k)) : false = hanOk s n x y := by
  have : ((List.range n).all fun k => decide (hanP s (x k) (y k))) = false := by
    rw [List.all_eq_false]; exact ⟨k, by simpa using hk, by simpa using h⟩
  unfold hanOk; rw [this, Bool.and_false]
theorem hanOk_t (h : ∀ k, k < n → hanP s (x k) (y k)) : decide ((n : Int) ≤ 60) = hanOk s n x y := by
  have : ((List.range n).all fun k => decide (hanP s (x k) (y k))) = true := by
    rw [List.all_eq_true]; intro k hk; exact decide_eq_true (h k (by simpa using hk))
  unfold hanOk; rw [this, Bool.and_true]
  exact decide_eq_decide.2 (by omega)
theorem hanOk_spec (h : hanOk s n x y = true) : n ≤ 60 ∧ ∀ k, k < n → hanP s (x k) (y k) := by
  unfold hanOk at h
  simp only [Bool.and_eq_true, decide_eq_true_eq, List.all_eq_true, List.mem_range] at h
  exact h
end
/-! ### codes -/
def hvOk (s p : Int) (a b : Nat → Nat) (n : Nat) (x y : Nat → Int) : Bool := schOk s p a b && hanOk s n x y
def givC (s p : Int) (a b : Nat → Nat) (n : Nat) (x y : Nat → Int) (t : Int) (ok : Bool) : Nat := bif hvOk s p a b n x y then (bif decide (0 ≤ t ∧ t ≤ (n : Int)) && ok then 0 else 2) else 1
section
variable {s p t : Int} {a b : Nat → Nat} {n : Nat} {x y : Nat → Int} {ok : Bool}
theorem hvOk_f (h : schOk s p a b = false) : false = hvOk s p a b n x y := by unfold hvOk; rw [h, Bool.false_and]
theorem hvOk_t (h : schOk s p a b = true) : hanOk s n x y = hvOk s p a b n x y := by unfold hvOk; rw [h, Bool.true_and]
theorem hvOk_spec (h : hvOk s p a b n x y = true) : schOk s p a b = true ∧ hanOk s n x y = true := by unfold hvOk at h; simpa using h
theorem givC_1 (h : hvOk s p a b n x y = false) : 1 = givC s p a b n x y t ok := by unfold givC; rw [h]; rfl
theorem givC_2 (h : hvOk s p a b n x y = true) (h2 : ¬ (0 ≤ t ∧ t ≤ (n : Int))) : 2 = givC s p a b n x y t ok := by unfold givC; rw [h, decide_eq_false h2]; rfl
theorem givC_3 (h : hvOk s p a b n x y = true) (h2 : ok = false) : 2 = givC s p a b n x y t ok := by unfold givC; rw [h, h2, Bool.and_false]; rfl
theorem givC_0 (h : hvOk s p a b n x y = true) (h2 : 0 ≤ t ∧ t ≤ (n : Int)) (h3 : ok = true) : 0 = givC s p a b n x y t ok := by unfold givC; rw [h, decide_eq_true h2, h3]; rfl
theorem givC_spec (h : givC s p a b n x y t ok = 0) : hvOk s p a b n x y = true ∧ (0 ≤ t ∧ t ≤ (n : Int)) ∧ ok = true := by
  unfold givC at h
  cases h1 : hvOk s p a b n x y with
  | false => rw [h1] at h; cases h
  | true =>
    rw [h1, cond_true] at h
    cases h2 : (decide (0 ≤ t ∧ t ≤ (n : Int)) && ok) with
    | false => rw [h2] at h; cases h
    | true => simpa using h2
theorem first_giv2 (h : 0 ≤ t ∧ t ≤ (n : Int)) : firstZ 2 (fun i => [!hvOk s p a b n x y, !ok].getD i false) (fun i => [1, 2].getD i 0) = ((givC s p a b n x y t ok : Nat) : Int) := by
  rw [firstZ2]; unfold givC; rw [decide_eq_true h, Bool.true_and]
  cases hvOk s p a b n x y <;> cases ok <;> rfl
theorem first_giv1 (h : ¬ (0 ≤ t ∧ t ≤ (n : Int))) : firstZ 2 (fun i => [!hvOk s p a b n x y, true].getD i false) (fun i => [1, 2].getD i 0) = ((givC s p a b n x y t ok : Nat) : Int) := by
  rw [firstZ2]; unfold givC; rw [decide_eq_false h, Bool.false_and]
  cases hvOk s p a b n x y <;> rfl
end
/-! ### who holds, what is known -/
def hoF (x y : Nat → Int) (q : Int) : Nat → Int
  | 0 => -1
  | k + 1 => if x k = q then y k else hoF x y q k
theorem hoF_t {x y : Nat → Int} {q : Int} {k : Nat} (h : x k = q) : y k = hoF x y q (k + 1) := by rw [hoF, if_pos h]
theorem hoF_f {x y : Nat → Int} {q v : Int} {k : Nat} (hv : v = hoF x y q k) (h : ¬ x k = q) : v = hoF x y q (k + 1) := by rw [hoF, if_neg h, hv]
def knF (x y : Nat → Int) (z : Int) : Nat → Nat
  | 0 => 0
  | k + 1 => if y k = z then knF x y z k ||| ((1 <<< (x k).toNat) % 256) else knF x y z k
theorem knF_lt (x y : Nat → Int) (z : Int) : ∀ k, knF x y z k < 256
  | 0 => by show 0 < 256; decide
  | k + 1 => by
    rw [knF]; split
    · exact or_lt_u8 (knF_lt x y z k) (Nat.mod_lt _ (by decide))
    · exact knF_lt x y z k
theorem knF_t {x y : Nat → Int} {z : Int} {k v : Nat} (hv : v = knF x y z k) (h : y k = z) : v ||| ((1 <<< (x k).toNat) % 256) = knF x y z (k + 1) := by rw [knF, if_pos h, hv]
theorem knF_f {x y : Nat → Int} {z : Int} {k v : Nat} (hv : v = knF x y z k) (h : ¬ y k = z) : v = knF x y z (k + 1) := by rw [knF, if_neg h, hv]
theorem ho_f {c : Nat} {u d : Int} (h : ¬ c = 0) (hd : d = (c : Int)) : Value.tuple #[.int .i64 0, .int .i64 d] = .tuple #[.int .i64 (selZ c u), .int .i64 (c : Int)] := by unfold selZ; rw [if_neg h, hd]
theorem ho_t {c : Nat} {u v : Int} (h : c = 0) (hv : v = u) : Value.tuple #[.int .i64 v, .int .i64 0] = .tuple #[.int .i64 (selZ c u), .int .i64 (c : Int)] := by unfold selZ; rw [if_pos h, h, hv]; rfl
theorem kn_f {c : Nat} {u : Nat} {d : Int} (h : ¬ c = 0) (hd : d = (c : Int)) : Value.tuple #[.int .u8 0, .int .i64 d] = .tuple #[.int .u8 ((selN c u : Nat) : Int), .int .i64 (c : Int)] := by unfold selN; rw [if_neg h, hd]; rfl
theorem kn_t {c : Nat} {u v : Nat} (h : c = 0) (hv : v = u) : Value.tuple #[.int .u8 (v : Int), .int .i64 0] = .tuple #[.int .u8 ((selN c u : Nat) : Int), .int .i64 (c : Int)] := by unfold selN; rw [if_pos h, h, hv]; rfl
attribute [irreducible] hanOk givC hvOk
end Go.Proofs.Ytagghfllgafmgaa
