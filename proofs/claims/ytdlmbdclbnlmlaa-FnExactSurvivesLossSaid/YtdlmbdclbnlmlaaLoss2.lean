/-
  Plain laws: schemes that stand the loss of parts.
-/
import Derived.Test.YtdlmbdclbnlmlaaLoss
namespace Go.Proofs.Ytdlmbdclbnlmlaa
set_option linter.unusedVariables false
set_option linter.unusedSimpArgs false
open Go.RowKit
theorem sh8 {k : Nat} (h : k ≤ 8) : 1 * 2 ^ k < 9223372036854775808 := by
  have : 2 ^ k ≤ 2 ^ 8 := Nat.pow_le_pow_right (by decide) h
  omega
theorem shl_256 {k : Nat} (h : k ≤ 8) : 1 <<< k ≤ 256 := by
  rw [Nat.one_shiftLeft]
  have : 2 ^ k ≤ 2 ^ 8 := Nat.pow_le_pow_right (by decide) h
  omega
def slE (p : Nat) (a b : Nat → Nat) (l : Int) (N f x : Nat) : Bool := decide (((pc x : Nat) : Int) = (p : Int) - l) && decide (lgF (fun r => a r &&& x) (fun r => b r &&& x) f N ≤ 0)
def slC (s p : Int) (a b : Nat → Nat) (m : Int) (f : Nat) (l : Int) : Nat := bif schOk s p a b && famOk m f then (if 0 ≤ l ∧ l ≤ p - 1 then svC s p a b m f else 2) else 1
def slV (s p : Int) (a b : Nat → Nat) (m : Int) (f : Nat) (l : Int) : Bool := decide (slC s p a b m f l = 0) && !anyB (1 <<< p.toNat) (slE p.toNat a b l (1 <<< m.toNat) f)
section
variable {s p m l u : Int} {a b : Nat → Nat} {f n x : Nat}
theorem slC_1 (h : schOk s p a b = false ∨ famOk m f = false) : slC s p a b m f l = 1 := by
  unfold slC; rcases h with h | h <;> rw [h] <;> simp
theorem slC_2 (h1 : schOk s p a b = true) (h2 : famOk m f = true) (h : ¬ (0 ≤ l ∧ l ≤ p - 1)) : slC s p a b m f l = 2 := by unfold slC; rw [h1, h2, if_neg h]; rfl
theorem slC_s (h1 : schOk s p a b = true) (h2 : famOk m f = true) (h : 0 ≤ l ∧ l ≤ p - 1) : slC s p a b m f l = svC s p a b m f := by unfold slC; rw [h1, h2, if_pos h]; rfl
theorem sl_e {C : Nat} (h : slC s p a b m f l = C) (hC : C ≠ 0) (hu : u = (C : Int)) : Value.tuple #[.bool false, .int .i64 u] = .tuple #[.bool (slV s p a b m f l), .int .i64 ((slC s p a b m f l : Nat) : Int)] := by
  unfold slV; rw [h, decide_eq_false hC, hu]; rfl
theorem sl_f (h : slC s p a b m f l = 0) (hx : x < 1 <<< p.toNat) (hE : slE p.toNat a b l (1 <<< m.toNat) f x = true) : Value.tuple #[.bool false, .int .i64 0] = .tuple #[.bool (slV s p a b m f l), .int .i64 ((slC s p a b m f l : Nat) : Int)] := by
  have : anyB (1 <<< p.toNat) (slE p.toNat a b l (1 <<< m.toNat) f) = true := by
    unfold anyB; rw [List.any_eq_true]; exact ⟨x, List.mem_range.2 hx, hE⟩
  unfold slV; rw [h, this]; rfl
theorem sl_t (h : slC s p a b m f l = 0) (hE : ∀ x, x < 1 <<< p.toNat → slE p.toNat a b l (1 <<< m.toNat) f x = false) : Value.tuple #[.bool true, .int .i64 0] = .tuple #[.bool (slV s p a b m f l), .int .i64 ((slC s p a b m f l : Nat) : Int)] := by
  have : anyB (1 <<< p.toNat) (slE p.toNat a b l (1 <<< m.toNat) f) = false := by
    unfold anyB; rw [List.any_eq_false]; intro x hx; rw [hE x (List.mem_range.1 hx)]; decide
  unfold slV; rw [h, this]; rfl
theorem slE_t {p N : Nat} (h1 : ((pc x : Nat) : Int) = (p : Int) - l) (h2 : lgF (fun r => a r &&& x) (fun r => b r &&& x) f N ≤ 0) : slE p a b l N f x = true := by unfold slE; rw [decide_eq_true h1, decide_eq_true h2]; rfl
theorem slE_f1 {p N : Nat} (h1 : ¬ ((pc x : Nat) : Int) = (p : Int) - l) : slE p a b l N f x = false := by unfold slE; rw [decide_eq_false h1]; rfl
theorem slE_f2 {p N : Nat} (h2 : ¬ lgF (fun r => a r &&& x) (fun r => b r &&& x) f N ≤ 0) : slE p a b l N f x = false := by unfold slE; rw [decide_eq_false h2, Bool.and_false]
theorem first_sl {e1 e2 : Bool} (h1 : e1 = !(schOk s p a b && famOk m f)) (h2 : e2 = !decide (0 ≤ l ∧ l ≤ p - 1)) : firstZ 2 (fun i => [e1, e2].getD i false) (fun i => [1, 2].getD i 0) = (((bif schOk s p a b && famOk m f then (if 0 ≤ l ∧ l ≤ p - 1 then 0 else 2) else 1 : Nat)) : Int) := by
  rw [firstZ2, h1, h2]
  by_cases h : 0 ≤ l ∧ l ≤ p - 1
  · rw [decide_eq_true h, if_pos h]; cases schOk s p a b && famOk m f <;> rfl
  · rw [decide_eq_false h, if_neg h]; cases schOk s p a b && famOk m f <;> rfl
def slK (s p : Int) (a b : Nat → Nat) (m : Int) (f : Nat) (l : Int) : Nat := bif schOk s p a b && famOk m f then (if 0 ≤ l ∧ l ≤ p - 1 then 0 else 2) else 1
theorem slK_spec (h : slK s p a b m f l = 0) : schOk s p a b = true ∧ famOk m f = true ∧ (0 ≤ l ∧ l ≤ p - 1) := by
  unfold slK at h
  cases h1 : schOk s p a b <;> cases h2 : famOk m f <;> rw [h1, h2] at h <;> simp at h
  refine ⟨rfl, rfl, ?_⟩
  by_cases h3 : 0 ≤ l ∧ l ≤ p - 1
  · exact h3
  · exact absurd ⟨h.1, h.2⟩ h3
theorem slK_C (h : ¬ slK s p a b m f l = 0) : slC s p a b m f l = slK s p a b m f l := by
  unfold slK at h ⊢; unfold slC
  cases h1 : schOk s p a b && famOk m f
  · rfl
  · rw [h1] at h
    simp only [cond_true] at h ⊢
    by_cases h3 : 0 ≤ l ∧ l ≤ p - 1
    · exact absurd (if_pos h3) h
    · rw [if_neg h3, if_neg h3]
end
theorem kp_pos {x p : Nat} {l : Int} (hp : p ≤ 8) (hx : x < 1 <<< p) (h : ((pc x : Nat) : Int) = (p : Int) - l) (hl : 0 ≤ l ∧ l ≤ (p : Int) - 1) : 1 ≤ kpC x p ∧ kpC x p ≤ 8 := by
  have h1 := kpC_le x p
  rw [Nat.one_shiftLeft] at hx
  have h3 : 2 ^ p ≤ 2 ^ 8 := Nat.pow_le_pow_right (by decide) hp
  rw [pc_pcS p x hx (by omega), ← kpC_pc] at h
  omega
theorem upd_hi {A a : Nat → Nat} {k v : Nat} (h : ∀ r, k ≤ r → A r = a r) : ∀ r, k + 1 ≤ r → upd A k v r = a r := fun r hr => by rw [upd_ne (by omega)]; exact h r (by omega)
theorem orS_congr {a c : Nat → Nat} (y : Nat) : ∀ k, (∀ r, r < k → a r = c r) → orS a y k = orS c y k
  | 0, _ => rfl
  | k + 1, h => by rw [orS, orS, orS_congr y k (fun r hr => h r (by omega)), h k (by omega)]
theorem lg_congr {a b c d : Nat → Nat} {f : Nat} (ha : ∀ r, r < 6 → a r = c r) (hb : ∀ r, r < 6 → b r = d r) : ∀ n, lgF a b f n = lgF c d f n
  | 0 => rfl
  | n + 1 => by
    have e : gapZ a b n = gapZ c d n := by unfold gapZ wt; rw [orS_congr n 6 ha, orS_congr n 6 hb]
    rw [lgF, lgF, lg_congr ha hb n, e]
theorem row_pow {s p : Int} {a b : Nat → Nat} (h : schOk s p a b = true) : (∀ r, r < 6 → a r < 2 ^ p.toNat) ∧ (∀ r, r < 6 → b r < 2 ^ p.toNat) := by
  obtain ⟨_, _, h3⟩ := schOk_spec h
  exact ⟨fun r hr => Nat.lt_of_le_of_lt Nat.left_le_or (h3 r hr).1, fun r hr => Nat.lt_of_le_of_lt Nat.right_le_or (h3 r hr).1⟩
attribute [irreducible] slE slC slV slK
end Go.Proofs.Ytdlmbdclbnlmlaa
