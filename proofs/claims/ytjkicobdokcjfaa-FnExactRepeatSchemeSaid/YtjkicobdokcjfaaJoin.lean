/-
  Plain laws: schemes side by side; a scheme repeated.
-/
import Derived.Test.YtjkicobdokcjfaaKeep
import Derived.Test.YtjkicobdokcjfaaMix
namespace Go.Proofs.Ytjkicobdokcjfaa
set_option linter.unusedVariables false
set_option linter.unusedSimpArgs false
open Go.RowKit
def jnF (a c : Nat → Nat) (m : Nat) : Nat → Nat := fun k => a k ||| ((c k <<< m) % 256)
theorem jnF_lt {a c : Nat → Nat} (ha : ∀ k, a k < 256) (m : Nat) : ∀ k, jnF a c m k < 256 := fun k => or_lt_u8 (ha k) (Nat.mod_lt _ (by decide))
theorem jn_upd (a c g : Nat → Nat) (m k : Nat) : upd (mixF (jnF a c m) g k) k (a k ||| ((c k <<< m) % 256)) = mixF (jnF a c m) g (k + 1) := mix_upd (jnF a c m) g k
def jnC (s p : Int) (a b : Nat → Nat) (t q : Int) (c d : Nat → Nat) : Nat := bif schOk s p a b && schOk t q c d then (if s = t then (if p + q ≤ 8 then 0 else 3) else 4) else 1
section
variable {s p t q : Int} {a b c d : Nat → Nat}
theorem jnC_1 (h : schOk s p a b = false) : jnC s p a b t q c d = 1 := by unfold jnC; rw [h]; rfl
theorem jnC_2 (h : schOk t q c d = false) : jnC s p a b t q c d = 1 := by unfold jnC; rw [h, Bool.and_false]; rfl
theorem jnC_4 (h : schOk s p a b = true) (h2 : schOk t q c d = true) (h3 : ¬ s = t) : jnC s p a b t q c d = 4 := by unfold jnC; rw [h, h2, Bool.and_self, cond_true, if_neg h3]
theorem jnC_3 (h : schOk s p a b = true) (h2 : schOk t q c d = true) (h3 : s = t) (h4 : ¬ p + q ≤ 8) : jnC s p a b t q c d = 3 := by unfold jnC; rw [h, h2, Bool.and_self, cond_true, if_pos h3, if_neg h4]
theorem jnC_0 (h : schOk s p a b = true) (h2 : schOk t q c d = true) (h3 : s = t) (h4 : p + q ≤ 8) : jnC s p a b t q c d = 0 := by unfold jnC; rw [h, h2, Bool.and_self, cond_true, if_pos h3, if_pos h4]
theorem jnC_spec (h : jnC s p a b t q c d = 0) : schOk s p a b = true ∧ schOk t q c d = true ∧ s = t ∧ p + q ≤ 8 := by
  cases h1 : schOk s p a b with
  | false => rw [jnC_1 h1] at h; cases h
  | true => cases h2 : schOk t q c d with
    | false => rw [jnC_2 h2] at h; cases h
    | true =>
      by_cases h3 : s = t
      · by_cases h4 : p + q ≤ 8
        · exact ⟨rfl, rfl, h3, h4⟩
        · rw [jnC_3 h1 h2 h3 h4] at h; cases h
      · rw [jnC_4 h1 h2 h3] at h; cases h
theorem first_join1 (h : schOk s p a b = false) (x y : Bool) : firstZ 3 (fun i => [true, x, y].getD i false) (fun i => [1, 4, 3].getD i 0) = ((jnC s p a b t q c d : Nat) : Int) := by
  rw [firstZ3, jnC_1 h]; rfl
theorem first_join2 (h : schOk s p a b = true) : firstZ 3 (fun i => [!schOk t q c d, !decide (s = t), decide (8 < IntKind.i8.wrap (p + q))].getD i false) (fun i => [1, 4, 3].getD i 0) = ((jnC s p a b t q c d : Nat) : Int) := by
  rw [firstZ3]
  cases h2 : schOk t q c d with
  | false => rw [jnC_2 h2]; rfl
  | true =>
    obtain ⟨_, h5, _⟩ := schOk_spec h
    obtain ⟨_, h6, _⟩ := schOk_spec h2
    have e : IntKind.i8.wrap (p + q) = p + q := wrap_fit (by simp only [fitI]; omega)
    rw [e, Bool.not_true, cond_false]
    by_cases h3 : s = t
    · rw [decide_eq_true h3, Bool.not_true, cond_false]
      by_cases h4 : p + q ≤ 8
      · rw [decide_eq_false (by omega), jnC_0 h h2 h3 h4]; rfl
      · rw [decide_eq_true (by omega), jnC_3 h h2 h3 h4]; rfl
    · rw [decide_eq_false h3, jnC_4 h h2 h3]; rfl
end
def jnV (s p : Int) (a b : Nat → Nat) (t q : Int) (c d : Nat → Nat) : List Value :=
  schV (selI (jnC s p a b t q c d) s) (selI (jnC s p a b t q c d) (p + q)) (selF (jnC s p a b t q c d) (jnF a c p.toNat)) (selF (jnC s p a b t q c d) (jnF b d p.toNat))
theorem jn_f {s p t q e : Int} {a b c d : Nat → Nat} (h : ¬ jnC s p a b t q c d = 0) (he : e = ((jnC s p a b t q c d : Nat) : Int)) : Value.tuple #[.agg (schV 0 0 (fun _ => 0) (fun _ => 0)).toArray, .int .i64 e] = .tuple #[.agg (jnV s p a b t q c d).toArray, .int .i64 ((jnC s p a b t q c d : Nat) : Int)] := by
  unfold jnV selI selF; rw [if_neg h, if_neg h, if_neg h, if_neg h, he]
theorem jn_t {s p t q u : Int} {a b c d A B : Nat → Nat} (h : jnC s p a b t q c d = 0) (hu : u = p + q) (hA : ∀ k, k < 6 → A k = jnF a c p.toNat k) (hB : ∀ k, k < 6 → B k = jnF b d p.toNat k) : Value.tuple #[.agg (schV s u A B).toArray, .int .i64 0] = .tuple #[.agg (jnV s p a b t q c d).toArray, .int .i64 ((jnC s p a b t q c d : Nat) : Int)] := by
  unfold jnV selI selF; rw [if_pos h, if_pos h, if_pos h, if_pos h, h, hu, schV_congr rfl rfl hA hB]; rfl
attribute [irreducible] jnC
end Go.Proofs.Ytjkicobdokcjfaa
