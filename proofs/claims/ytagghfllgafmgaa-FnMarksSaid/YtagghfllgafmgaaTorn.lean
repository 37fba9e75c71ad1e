/-
  Plain laws: what several shares show to a told set; torn shares.
-/
import Derived.Test.YtagghfllgafmgaaSee
import Derived.Test.YtagghfllgafmgaaCov
import Derived.Test.YtagghfllgafmgaaDraw
namespace Go.Proofs.Ytagghfllgafmgaa
set_option linter.unusedVariables false
set_option linter.unusedSimpArgs false
open Go.RowKit
def bothC (s p : Int) (a b : Nat → Nat) (n : Nat) (g : Nat → Int) (c : Nat → Nat → Nat) : Nat := bif schOk s p a b && layAll n g c then (bif decide ((n : Int) = s) && allP n g p then 0 else 4) else 1
section
variable {s p : Int} {a b : Nat → Nat} {n : Nat} {g : Nat → Int} {c : Nat → Nat → Nat}
theorem bothC_1 (h : schOk s p a b = false ∨ layAll n g c = false) : 1 = bothC s p a b n g c := by
  unfold bothC; rcases h with h | h <;> rw [h] <;> simp
theorem bothC_4 (h1 : schOk s p a b = true) (h2 : layAll n g c = true) (h : ¬ (n : Int) = s) : 4 = bothC s p a b n g c := by unfold bothC; rw [h1, h2, decide_eq_false h]; rfl
theorem bothC_5 {k : Nat} (h1 : schOk s p a b = true) (h2 : layAll n g c = true) (hk : k < n) (h : ¬ g k = p) : 4 = bothC s p a b n g c := by unfold bothC; rw [h1, h2, ← allP_f hk h, Bool.and_false]; rfl
theorem bothC_0 (h1 : schOk s p a b = true) (h2 : layAll n g c = true) (h : (n : Int) = s) (h3 : ∀ k, k < n → g k = p) : 0 = bothC s p a b n g c := by unfold bothC; rw [h1, h2, decide_eq_true h, ← allP_t h3]; rfl
theorem bothC_spec (h : bothC s p a b n g c = 0) : schOk s p a b = true ∧ layAll n g c = true ∧ (n : Int) = s := by
  unfold bothC at h
  cases h1 : schOk s p a b <;> cases h2 : layAll n g c <;> rw [h1, h2] at h <;> simp at h
  refine ⟨rfl, rfl, ?_⟩
  cases h3 : (decide ((n : Int) = s) && allP n g p) with
  | true => exact of_decide_eq_true (Bool.and_eq_true_iff.1 h3).1
  | false => rw [h3] at h; cases h
theorem first_both {e1 e2 : Bool} (h1 : e1 = !(schOk s p a b && layAll n g c)) (h2 : e2 = !(decide ((n : Int) = s) && allP n g p)) : firstZ 2 (fun i => [e1, e2].getD i false) (fun i => [1, 4].getD i 0) = ((bothC s p a b n g c : Nat) : Int) := by
  rw [firstZ2, h1, h2]; unfold bothC
  cases schOk s p a b && layAll n g c <;> cases decide ((n : Int) = s) && allP n g p <;> rfl
end
/-! ### sets that see -/
def setOk (s : Int) (x : Nat) : Prop := x ≠ 0 ∧ x < 2 ^ s.toNat
instance (s : Int) (x : Nat) : Decidable (setOk s x) := inferInstanceAs (Decidable (_ ∧ _))
theorem set_1 {s : Int} {x : Nat} (h : setOk s x) (hx : x = 0) : False := h.1 hx
theorem set_2 {n x : Nat} (hx : ¬ x = 0) (h : x < 2 ^ n) : setOk (n : Int) x := ⟨hx, by simpa using h⟩
theorem set_3 {n x : Nat} (h : setOk (n : Int) x) : x < 2 ^ n := by simpa using h.2
def swC (s : Int) (x : Nat) : Nat := if setOk s x then 0 else 2
def rsC (s : Int) (a b : Nat → Nat) (x : Nat) : Nat := if setOk s x then (if 0 < gapZ a b x then 0 else 8) else 2
section
variable {s : Int} {a b : Nat → Nat} {x : Nat}
theorem sw_e1 (h : x = 0) : true = !decide (setOk s x) := by rw [decide_eq_false (fun q => q.1 h)]; rfl
theorem sw_e2 (hs : 1 ≤ s ∧ s ≤ 6) (hx : x < 256) (h : ¬ x = 0) : (!decide (isSetB s x)) = !decide (setOk s x) := congrArg _ (decide_eq_decide.2 ⟨fun q => ⟨h, (isSetB_iff hs hx).1 q⟩, fun q => (isSetB_iff hs hx).2 q.2⟩)
theorem first_sw {e0 e : Bool} (h0 : e0 = false) (he : e = !decide (setOk s x)) : firstZ 2 (fun i => [e0, e].getD i false) (fun i => [1, 2].getD i 0) = ((swC s x : Nat) : Int) := by
  rw [firstZ2, h0, he]; unfold swC
  by_cases h : setOk s x
  · rw [if_pos h, decide_eq_true h]; rfl
  · rw [if_neg h, decide_eq_false h]; rfl
theorem sw_1 {u : Int} (h : ¬ swC s x = 0) (hu : u = (swC s x : Nat)) : Value.tuple #[.bool false, .int .i64 0, .int .i64 u] = .tuple #[.bool (decide (rsC s a b x = 0)), .int .i64 ((selN (rsC s a b x) (wt b x) : Nat) : Int), .int .i64 ((swC s x : Nat) : Int)] := by
  subst hu
  have h2 : ¬ setOk s x := fun q => h (by unfold swC; rw [if_pos q])
  unfold rsC; rw [if_neg h2]; rfl
theorem sw_2 (h : swC s x = 0) (h2 : ¬ 0 < gapZ a b x) : Value.tuple #[.bool false, .int .i64 0, .int .i64 0] = .tuple #[.bool (decide (rsC s a b x = 0)), .int .i64 ((selN (rsC s a b x) (wt b x) : Nat) : Int), .int .i64 ((swC s x : Nat) : Int)] := by
  have h3 : setOk s x := by unfold swC at h; split at h; · assumption
                            · cases h
  rw [h]; unfold rsC; rw [if_pos h3, if_neg h2]; rfl
theorem sw_3 (h : swC s x = 0) (h2 : 0 < gapZ a b x) : Value.tuple #[.bool true, .int .i64 ((wt b x : Nat) : Int), .int .i64 0] = .tuple #[.bool (decide (rsC s a b x = 0)), .int .i64 ((selN (rsC s a b x) (wt b x) : Nat) : Int), .int .i64 ((swC s x : Nat) : Int)] := by
  have h3 : setOk s x := by unfold swC at h; split at h; · assumption
                            · cases h
  rw [h]; unfold rsC; rw [if_pos h3, if_pos h2]; rfl
theorem rsC_spec (h : rsC s a b x = 0) : setOk s x ∧ 0 < gapZ a b x := by
  unfold rsC at h
  split at h
  · split at h
    · exact ⟨‹_›, ‹_›⟩
    · cases h
  · cases h
theorem rsC_0 (h : setOk s x) (h2 : 0 < gapZ a b x) : rsC s a b x = 0 := by unfold rsC; rw [if_pos h, if_pos h2]
theorem rsC_8 (h : setOk s x) (h2 : ¬ 0 < gapZ a b x) : rsC s a b x = 8 := by unfold rsC; rw [if_pos h, if_neg h2]
theorem rsC_2 (h : ¬ setOk s x) : rsC s a b x = 2 := by unfold rsC; rw [if_neg h]
theorem first_rs {e1 : Bool} (h1 : e1 = !decide (((swC s x : Nat) : Int) = 0)) : firstZ 2 (fun i => [e1, !decide (rsC s a b x = 0)].getD i false) (fun i => [((swC s x : Nat) : Int), 8].getD i 0) = ((rsC s a b x : Nat) : Int) := by
  rw [firstZ2, h1]; unfold rsC swC
  by_cases h : setOk s x
  · rw [if_pos h, if_pos h]
    by_cases h2 : 0 < gapZ a b x
    · rw [if_pos h2]; rfl
    · rw [if_neg h2]; rfl
  · rw [if_neg h, if_neg h]; rfl
end
/-! ### what is read -/
theorem flL_mem {q : Nat → Bool} {n k : Nat} (hk : k < n) (h : q k = true) : 0 < flN q n := by
  unfold flN flL
  exact List.length_pos_of_mem (List.mem_filter.2 ⟨List.mem_range.2 hk, h⟩)
theorem set_pick {n x : Nat} (h : setOk (n : Int) x) : 0 < flN (bitB x) n := by
  obtain ⟨h0, h1⟩ := h
  obtain ⟨k, hk⟩ := Nat.exists_testBit_of_ne_zero h0
  have hkn : k < n := by
    rcases Nat.lt_or_ge k n with h | h
    · exact h
    · rw [Nat.testBit_lt_two_pow (Nat.lt_of_lt_of_le h1 (Nat.pow_le_pow_right (by decide) (by simpa using h)))] at hk; cases hk
  refine flL_mem hkn ?_
  unfold bitB
  refine decide_eq_true ?_
  rw [Nat.testBit, Nat.and_comm] at hk
  have : (x >>> k) &&& 1 ≠ 0 := by simpa using hk
  have : (x >>> k) &&& 1 ≤ 1 := Nat.and_le_right
  omega
def pkG (x n : Nat) (g : Nat → Int) : Nat → Int := fun j => g (flA (bitB x) n j)
def pkC (x n : Nat) (c : Nat → Nat → Nat) : Nat → Nat → Nat := fun j => c (flA (bitB x) n j)
def picT (b : Nat → Nat) (n : Nat) (c : Nat → Nat → Nat) (x : Nat) : Nat := pic (fun r => decide (((wt b x : Nat) : Int) ≤ ((pc (orC (pkC x n c) (flN (bitB x) n) r) : Nat) : Int)))
theorem picT_lt (b : Nat → Nat) (n : Nat) (c : Nat → Nat → Nat) (x : Nat) : picT b n c x < 18446744073709551616 := by unfold picT; exact picF_lt _ 64
def rwC (s p : Int) (a b : Nat → Nat) (n : Nat) (g : Nat → Int) (c : Nat → Nat → Nat) (x : Nat) : Nat := if bothC s p a b n g c = 0 then rsC s a b x else bothC s p a b n g c
section
variable {s p : Int} {a b : Nat → Nat} {n x : Nat} {g : Nat → Int} {c : Nat → Nat → Nat} {u : Int}
theorem rwC_b (h : ¬ bothC s p a b n g c = 0) : rwC s p a b n g c x = bothC s p a b n g c := if_neg h
theorem rwC_r (h : bothC s p a b n g c = 0) : rwC s p a b n g c x = rsC s a b x := if_pos h
theorem selN_0 {C u : Nat} (h : C = 0) : selN C u = u := by unfold selN; rw [if_pos h]
theorem rw_k {C K v : Nat} (hC : C = K) (hK : K ≠ 0) (hu : u = (K : Int)) : Value.tuple #[.int .u64 0, .int .i64 u] = .tuple #[.int .u64 ((selN C v : Nat) : Int), .int .i64 (C : Int)] := by subst hC; unfold selN; rw [if_neg hK, hu]; rfl
theorem rw_t' {C v v' : Nat} (hc : C = 0) (hv : v' = v) : Value.tuple #[.int .u64 (v' : Int), .int .i64 0] = .tuple #[.int .u64 ((selN C v : Nat) : Int), .int .i64 (C : Int)] := by unfold selN; rw [if_pos hc, hc, hv]; rfl
theorem rw_f {C v : Nat} (hc : C ≠ 0) (hu : u = (C : Int)) : Value.tuple #[.int .u64 0, .int .i64 u] = .tuple #[.int .u64 ((selN C v : Nat) : Int), .int .i64 (C : Int)] := by unfold selN; rw [if_neg hc, hu]; rfl
theorem rw_t {C v : Nat} (hc : C = 0) : Value.tuple #[.int .u64 (v : Int), .int .i64 0] = .tuple #[.int .u64 ((selN C v : Nat) : Int), .int .i64 (C : Int)] := by unfold selN; rw [if_pos hc, hc]; rfl
end
/-! ### torn shares -/
theorem orS_lt64 {t : Nat → Nat} (ht : ∀ k, t k < 18446744073709551616) (x : Nat) : ∀ k, orS t x k < 18446744073709551616
  | 0 => by show 0 < _; decide
  | k + 1 => by
    rw [orS]
    split
    · exact or_lt_u64 (orS_lt64 ht x k) (ht k)
    · exact orS_lt64 ht x k
theorem full_sub {u : Nat} : 18446744073709551615 - u = 2 ^ 64 - (u + 1) := by omega
theorem full_bdiff {u e : Nat} (hu : u < 18446744073709551616) (he : e < 18446744073709551616) : bdiff (18446744073709551615 - u) e = 18446744073709551615 - (u ||| e) := by
  have h1 : u ||| e < 2 ^ 64 := Nat.or_lt_two_pow hu he
  apply Nat.eq_of_testBit_eq
  intro i
  rw [bdiff_testBit, full_sub, full_sub, Nat.testBit_two_pow_sub_succ hu, Nat.testBit_two_pow_sub_succ h1, Nat.testBit_or]
  cases u.testBit i <;> cases e.testBit i <;> cases decide (i < 64) <;> rfl
theorem and_full {q u : Nat} (hq : q < 18446744073709551616) (hu : u < 18446744073709551616) : q &&& (18446744073709551615 - u) = bdiff q u := by
  apply Nat.eq_of_testBit_eq
  intro i
  rw [bdiff_testBit, full_sub, Nat.testBit_and, Nat.testBit_two_pow_sub_succ hu]
  rcases Nat.lt_or_ge i 64 with h | h
  · rw [decide_eq_true h, Bool.true_and]
  · rw [Nat.testBit_lt_two_pow (Nat.lt_of_lt_of_le (m := 2 ^ 64) hq (Nat.pow_le_pow_right (n := 2) (by decide) h))]; rfl
theorem torn_t {e : Nat → Nat} {x k v : Nat} (he : ∀ k, e k < 18446744073709551616) (hv : v = 18446744073709551615 - orS e x k) (h : (x >>> k) &&& 1 = 1) : bdiff v (e k) = 18446744073709551615 - orS e x (k + 1) := by
  rw [hv, full_bdiff (orS_lt64 he x k) (he k), orS_t rfl h]
theorem torn_f {e : Nat → Nat} {x k v : Nat} (hv : v = 18446744073709551615 - orS e x k) (h : ¬ (x >>> k) &&& 1 = 1) : v = 18446744073709551615 - orS e x (k + 1) := by
  rw [hv, ← orS_f rfl h]
def rtC (s p : Int) (a b : Nat → Nat) (n : Nat) (g : Nat → Int) (c : Nat → Nat → Nat) (x m : Nat) : Nat := if bothC s p a b n g c = 0 then (if m = n then rwC s p a b n g c x else 2) else bothC s p a b n g c
section
variable {s p : Int} {a b : Nat → Nat} {n x m : Nat} {g : Nat → Int} {c : Nat → Nat → Nat} {u : Int}
theorem rtC_b (h : ¬ bothC s p a b n g c = 0) : rtC s p a b n g c x m = bothC s p a b n g c := if_neg h
theorem rtC_2 (h : bothC s p a b n g c = 0) (hm : ¬ m = n) : rtC s p a b n g c x m = 2 := by unfold rtC; rw [if_pos h, if_neg hm]
theorem rtC_r (h : bothC s p a b n g c = 0) (hm : m = n) : rtC s p a b n g c x m = rwC s p a b n g c x := by unfold rtC; rw [if_pos h, if_pos hm]
theorem rt_k {C K v z : Nat} (hC : C = K) (hK : K ≠ 0) (hu : u = (K : Int)) : Value.tuple #[.int .u64 0, .int .u64 0, .int .i64 u] = .tuple #[.int .u64 ((selN C v : Nat) : Int), .int .u64 ((selN C z : Nat) : Int), .int .i64 (C : Int)] := by subst hC; unfold selN; rw [if_neg hK, if_neg hK, hu]; rfl
theorem rt_f {C v z : Nat} (hc : C ≠ 0) (hu : u = (C : Int)) : Value.tuple #[.int .u64 0, .int .u64 0, .int .i64 u] = .tuple #[.int .u64 ((selN C v : Nat) : Int), .int .u64 ((selN C z : Nat) : Int), .int .i64 (C : Int)] := by unfold selN; rw [if_neg hc, if_neg hc, hu]; rfl
theorem rt_t {C v z v' z' : Nat} (hc : C = 0) (hv : v' = v) (hz : z' = z) : Value.tuple #[.int .u64 (v' : Int), .int .u64 (z' : Int), .int .i64 0] = .tuple #[.int .u64 ((selN C v : Nat) : Int), .int .u64 ((selN C z : Nat) : Int), .int .i64 (C : Int)] := by unfold selN; rw [if_pos hc, if_pos hc, hc, hv, hz]; rfl
end
attribute [irreducible] bothC setOk swC rsC rwC rtC
end Go.Proofs.Ytagghfllgafmgaa
