/-
  Rows of two small numbers, and rows of layers, one behind the other.
-/
import Derived.Test.YtagghfllgafmgaaApp
import Derived.Test.YtagghfllgafmgaaRow
namespace Go.Proofs.Ytagghfllgafmgaa
set_option linter.unusedVariables false
set_option linter.unusedSimpArgs false
open Go.RowKit
theorem recV_tot {s : Nat} {g : Nat → List Value} (hg : ∀ i, (g i).length = s) {n i : Nat} (h : i < n) : 0 + i * s + s ≤ (recV n g).length := by
  rw [recV_len hg, Nat.zero_add, ← Nat.succ_mul]; exact Nat.mul_le_mul_right s h
/-- What is left of the room for an argument of n elements. -/
def szL (n : Nat) (z : Int) : Int := if z - n < 0 then -1 else z - n
theorem szL_ok {n : Nat} {z : Int} (h : 0 ≤ szL n z) : (n : Int) ≤ z ∧ szL n z = z - n := by
  unfold szL at h ⊢
  split at h
  · omega
  · rename_i q; rw [if_neg q]; omega
def hanR (x y : Nat → Int) (i : Nat) : List Value := [.int .i8 (x i), .int .i8 (y i)]
def hanV (n : Nat) (x y : Nat → Int) : List Value := recV n (hanR x y)
theorem hanV_row (x y : Nat → Int) : ∀ i, (hanR x y i).length = 2 := fun _ => rfl
theorem hanV_put {n i : Nat} {u v : Int} {x y : Nat → Int} (h : i < n) : (hanV n x y).take (0 + i * 2) ++ [.int .i8 u, .int .i8 v] ++ (hanV n x y).drop (0 + i * 2 + 2) = hanV n (upd x i u) (upd y i v) := by
  unfold hanV
  rw [recV_set0 (hanV_row x y) h rfl]
  refine recV_congr fun r _ => ?_
  unfold hanR upd
  split <;> rfl
theorem hanV_set_x {n i : Nat} {u : Int} {x y : Nat → Int} (h : i < n) : (hanV n x y).set (0 + i * 2) (.int .i8 u) = hanV n (upd x i u) y := by
  unfold hanV
  rw [Nat.zero_add, ← Nat.add_zero (i * 2), recV_cell (hanV_row x y) h (by decide)]
  refine recV_congr fun r _ => ?_
  unfold hanR upd
  split <;> rfl
theorem hanV_set_y {n i : Nat} {u : Int} {x y : Nat → Int} (h : i < n) : (hanV n x y).set (0 + i * 2 + 1) (.int .i8 u) = hanV n x (upd y i u) := by
  unfold hanV
  rw [Nat.zero_add, recV_cell (hanV_row x y) h (by decide)]
  refine recV_congr fun r _ => ?_
  unfold hanR upd
  split <;> rfl
theorem hanV_in {n i j q : Nat} {x y : Nat → Int} (h : i < n) (hj : j < 2) (e : q = i * 2 + j) : q < (hanV n x y).length := by subst e; exact recV_in (hanV_row x y) h hj
theorem hanV_congr {n : Nat} {x y x' y' : Nat → Int} (hx : ∀ i, i < n → x i = x' i) (hy : ∀ i, i < n → y i = y' i) : hanV n x y = hanV n x' y' := recV_congr fun i hi => by unfold hanR; rw [hx i hi, hy i hi]
theorem hanV_of {n : Nat} {G : Nat → List Value} (hG : ∀ i, i < n → Flat (G i) [.i8, .i8]) : ∃ x y : Nat → Int, recV n G = hanV n x y ∧ (∀ i, i < n → -128 ≤ x i ∧ x i ≤ 127) ∧ (∀ i, i < n → -128 ≤ y i ∧ y i ≤ 127) :=
  ⟨fun i => numAt (G i) 0, fun i => numAt (G i) 1, recV_congr fun i hi => (hG i hi).two.1, fun i hi => (hG i hi).two.2.1, fun i hi => (hG i hi).two.2.2⟩
theorem hanV_app {n : Nat} {x y : Nat → Int} (u v : Int) : hanV n x y ++ [.int .i8 u, .int .i8 v] = hanV (n + 1) (upd x n u) (upd y n v) := by
  unfold hanV
  rw [recV_succ]
  congr 1
  · exact recV_congr fun i hi => by unfold hanR upd; rw [if_neg (by omega), if_neg (by omega)]
  · unfold hanR upd; rw [if_pos rfl, if_pos rfl]
theorem hanV_one {n : Nat} (x y : Nat → Int) : ∀ v, v ∈ hanV n x y → v.oneCell' = true := by
  intro v hv
  obtain ⟨i, _, hi⟩ := List.mem_flatMap.1 hv
  simp only [hanR, List.mem_cons, List.not_mem_nil, or_false] at hi
  rcases hi with rfl | rfl <;> rfl
theorem arrU_of {k : IntKind} {n : Nat} {G : Nat → List Value} (hk : 0 < uB k) (hG : ∀ i, i < n → Flat (G i) [k]) : ∃ c : Nat → Nat, recV n G = arrU k n c ∧ ∀ i, c i < uB k := by
  have h : ∀ i, ∃ m : Nat, m < uB k ∧ (i < n → G i = [.int k (m : Int)]) := by
    intro i
    by_cases hi : i < n
    · obtain ⟨h1, h2⟩ := (hG i hi).one
      obtain ⟨m, hm, hb⟩ := nat_of_fit hk h2
      exact ⟨m, hb, fun _ => by rw [h1, hm]⟩
    · exact ⟨0, hk, fun h => absurd h hi⟩
  refine ⟨fun i => Classical.choose (h i), ?_, fun i => (Classical.choose_spec (h i)).1⟩
  have e : ∀ m, m ≤ n → recV m G = arrU k m (fun i => Classical.choose (h i)) := by
    intro m
    induction m with
    | zero => intro _; rfl
    | succ m ih =>
      intro hm
      rw [recV_succ, ih (by omega), (Classical.choose_spec (h m)).2 (by omega)]
      unfold arrU
      rw [List.range_succ, List.map_append]; rfl
  exact e n (Nat.le_refl _)
def hanEq (n : Nat) (x y : Nat → Int) (m : Nat) (u v : Nat → Int) : Bool := decide (n = m) && (List.range n).all fun k => decide (x k = u k ∧ y k = v k)
section
variable {n m k : Nat} {x y u v : Nat → Int}
theorem hanEq_l (h : ¬ n = m) : false = hanEq n x y m u v := by unfold hanEq; rw [decide_eq_false h, Bool.false_and]
theorem hanEq_n (hk : k < n) (h : ¬ (x k = u k ∧ y k = v k)) : false = hanEq n x y m u v := by
  have : ((List.range n).all fun k => decide (x k = u k ∧ y k = v k)) = false := by
    rw [List.all_eq_false]; exact ⟨k, by simpa using hk, by simpa using h⟩
  unfold hanEq; rw [this, Bool.and_false]
theorem hanEq_t (hn : n = m) (h : ∀ k, k < n → x k = u k ∧ y k = v k) : true = hanEq n x y m u v := by
  have : ((List.range n).all fun k => decide (x k = u k ∧ y k = v k)) = true := by
    rw [List.all_eq_true]; intro k hk; exact decide_eq_true (h k (by simpa using hk))
  unfold hanEq; rw [this, decide_eq_true hn]; rfl
end
end Go.Proofs.Ytagghfllgafmgaa
