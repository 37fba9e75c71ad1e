/-
  Plain laws: layers that share a picture by a scheme.
-/
import Derived.Test.YtagghfllgafmgaaPerm
import Derived.Test.YtagghfllgafmgaaWrong
import Derived.KernelRfl
namespace Go.Proofs.Ytagghfllgafmgaa
set_option linter.unusedVariables false
set_option linter.unusedSimpArgs false
open Go.RowKit
/-- the row of share r in cell k -/
def shF (a b : Nat → Nat) (x : Nat) (k r : Nat) : Nat := bif bitB x k then b r else a r
theorem shF_lt {a b : Nat → Nat} {x B : Nat} (ha : ∀ k, a k < B) (hb : ∀ k, b k < B) (k r : Nat) : shF a b x k r < B := by
  unfold shF
  cases bitB x k
  · exact ha r
  · exact hb r
theorem rdF_bit {v : Nat} {o : Nat → Nat} {m j : Nat} (hm : m ≤ 8) (hj : j < m) : (rdF v o m >>> j) &&& 1 = (v >>> o j) &&& 1 := by rw [bit1, bit1, rdF_test _ _ _ m hm, decide_eq_true hj]; rfl
theorem colA_rd {t o : Nat → Nat} {m j : Nat} (hm : m ≤ 8) (hj : j < m) : ∀ n, colA (fun r => rdF (t r) o m) j n = colA t (o j) n
  | 0 => rfl
  | n + 1 => by rw [colA, colA, colA_rd hm hj n, rdF_bit hm hj]
theorem cnt_Sm (u : Nat → Nat) (v : Nat) : ∀ n, cnt u v n = Sm (fun j => if u j = v then 1 else 0) n
  | 0 => rfl
  | n + 1 => by rw [cnt, Sm, cnt_Sm u v n]
theorem cnt_ord (u : Nat → Nat) (n x v : Nat) : cnt (fun j => u (oOf n x j)) v n = cnt u v n := by
  rw [cnt_Sm, cnt_Sm]; exact Sm_ord (fun j => if u j = v then 1 else 0) n x (n - 1) (Nat.le_refl _)
section
variable {n m x sd k : Nat} {a b : Nat → Nat}
theorem share_eq (hm : m ≤ 8) : eqR m (srtF m (colsA n (fun r => dwC (shF a b x) m sd r k))) (dueF n m a b (bitB x k)) = true := by
  refine (eqR_t ?_).symm
  unfold dueF
  refine srt_eq.2 fun v => ?_
  rw [← cnt_ord (colsA n (bif bitB x k then b else a)) m (sdK m sd k) v]
  refine cnt_congr (fun j hj => ?_)
  show colA (fun r => rdF (shF a b x k r) (oOf m (sdK m sd k)) m) j n = colA (bif bitB x k then b else a) (oOf m (sdK m sd k) j) n
  rw [colA_rd hm hj]
  unfold shF
  cases bitB x k <;> rfl
theorem share_wr (hm : m ≤ 8) : wrQ n m a b n (dwC (shF a b x) m sd) x k = false := wr_f rfl (share_eq hm)
end
theorem picF_0 {q : Nat → Bool} : ∀ n, (∀ k, k < n → q k = false) → picF q n = 0
  | 0, _ => rfl
  | n + 1, h => by rw [← picF_f rfl (h n (by omega)), picF_0 n fun k hk => h k (by omega)]
theorem pic_0 {q : Nat → Bool} (h : ∀ k, k < 64 → q k = false) : pic q = 0 := picF_0 64 h
theorem pic_zero {q : Nat → Bool} (h : pic q = 0) {k : Nat} (hk : k < 64) : q k = false := by
  rw [← bit_pic (q := q) hk, h, bitB_test]; simp
/-! ### schemes that are well known -/
theorem known_1 : schOk 2 2 (upd (upd (fun _ => 0) 0 1) 1 1) (upd (upd (fun _ => 0) 0 1) 1 2) = true := by kernel_rfl
theorem known_2 : schOk 3 3 (upd (upd (upd (fun _ => 0) 0 1) 1 1) 2 1) (upd (upd (upd (fun _ => 0) 0 1) 1 2) 2 4) = true := by kernel_rfl
theorem known_3 : schOk 3 4 (upd (upd (upd (fun _ => 0) 0 12) 1 10) 2 6) (upd (upd (upd (fun _ => 0) 0 3) 1 5) 2 9) = true := by kernel_rfl
section
variable {n m i : Nat} {a b : Nat → Nat}
theorem drawn_ok (hn : 1 ≤ n ∧ n ≤ 6) (hm : 1 ≤ m ∧ m ≤ 8) (ha : ∀ k, a k < 2 ^ m ∧ (n ≤ k → a k = 0)) (hb : ∀ k, b k < 2 ^ m ∧ (n ≤ k → b k = 0)) : schOk (n : Int) (m : Int) a b = true :=
  (schOk_t (by omega) (by omega) fun k hk => ⟨Nat.or_lt_two_pow (ha k).1 (hb k).1, fun h => by rw [(ha k).2 h, (hb k).2 h]; rfl⟩).symm
theorem drawn_up {c : Nat → Nat} {v : Nat} (hc : ∀ k, c k < 2 ^ m ∧ (n ≤ k → c k = 0)) (hi : i < n) (hv : v < 1 <<< m ∨ (v = 0 ∧ 1 <<< m ≤ 1)) : ∀ k, upd c i v k < 2 ^ m ∧ (n ≤ k → upd c i v k = 0) := fun k => by
  rw [Nat.one_shiftLeft] at hv
  have hp := Nat.two_pow_pos m
  by_cases e : k = i
  · subst e; rw [upd_same]; exact ⟨by omega, fun h => by omega⟩
  · rw [upd_ne e]; exact hc k
end
theorem sch_pow {n p : Int} {a b : Nat → Nat} (h : schOk n p a b = true) : ∀ k, k < 6 → a k < 2 ^ p.toNat ∧ b k < 2 ^ p.toNat := fun k hk => by
  have h3 := ((schOk_spec h).2.2 k hk).1
  exact ⟨Nat.lt_of_le_of_lt Nat.left_le_or h3, Nat.lt_of_le_of_lt Nat.right_le_or h3⟩
theorem shl_64 {k : Nat} (h : k ≤ 6) : 1 <<< k ≤ 64 := by
  rw [Nat.one_shiftLeft]
  have : 2 ^ k ≤ 2 ^ 6 := Nat.pow_le_pow_right (by decide) h
  omega
theorem shl_62 {k : Nat} (h : k ≤ 6) : 1 * 2 ^ k < 9223372036854775808 := by
  have := shl_64 h
  rw [Nat.one_shiftLeft] at this; omega
end Go.Proofs.Ytagghfllgafmgaa
