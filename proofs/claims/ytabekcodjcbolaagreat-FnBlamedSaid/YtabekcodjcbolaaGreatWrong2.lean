/-
  Plain laws: what a share may have in a part, which shares are blamed.
-/
import Derived.Test.YtabekcodjcbolaaGreatWrong
import Derived.Test.YtabekcodjcbolaaGreatBits
namespace Go.Proofs.YtabekcodjcbolaaGreat
set_option linter.unusedVariables false
set_option linter.unusedSimpArgs false
open Go.RowKit
theorem shl_256 {k : Nat} (h : k ≤ 8) : 1 <<< k ≤ 256 := by
  rw [Nat.one_shiftLeft]
  have : 2 ^ k ≤ 2 ^ 8 := Nat.pow_le_pow_right (by decide) h
  omega
theorem sh8 {k : Nat} (h : k ≤ 8) : 1 * 2 ^ k < 9223372036854775808 := by
  have := shl_256 h
  rw [Nat.one_shiftLeft] at this; omega
theorem shl_pos0 (k : Nat) : 0 < 1 <<< k := by rw [Nat.one_shiftLeft]; exact Nat.two_pow_pos k
theorem flA_256 {q : Nat → Bool} {p : Nat} (hp : p ≤ 8) : ∀ j, flA q (1 <<< p) j < 256 := fun j => Nat.lt_of_lt_of_le (flA_lt q _ j (shl_pos0 p)) (shl_256 hp)
/-! ### how many bits -/
theorem fl_pc {z : Nat} (h : z < 18446744073709551616) : flN (bitB z) 64 = pc z := by rw [fl_pcS]; exact (pc_pcS 64 z h h).symm
/-! ### what a share may have -/
def possQ (s p : Nat) (a b : Nat → Nat) (n : Nat) (c : Nat → Nat → Nat) (i : Nat) (q : Bool) (k v : Nat) : Bool := eqR p (srtF p (colsA n (upd (fun r => c r k) i v))) (dueF s p a b q)
theorem alln {t : Nat → Nat} {n j : Nat} (hn : n ≤ 6) : colR t ((((1 <<< n) % 256) + 255) % 256) n j = colA t j n := by
  have hm : (((1 <<< n) % 256) + 255) % 256 = 2 ^ n - 1 := by
    rcases (show n = 0 ∨ n = 1 ∨ n = 2 ∨ n = 3 ∨ n = 4 ∨ n = 5 ∨ n = 6 by omega) with rfl | rfl | rfl | rfl | rfl | rfl | rfl <;> decide
  rw [← colA_and t _ j n (by omega), hm, Nat.and_two_pow_sub_one_eq_mod]
  exact Nat.mod_eq_of_lt (colA_pow t j n hn)
section
variable {s p n i v k : Nat} {a b u : Nat → Nat} {c : Nat → Nat → Nat} {q : Bool}
theorem po_t (h1 : ∀ z, upd u i z = upd (fun r => c r k) i z) (h : eqR p (srtF p (colsA n (upd u i v))) (dueF s p a b q) = true) : possQ s p a b n c i q k v = true := by unfold possQ; rw [← h1]; exact h
theorem po_f (h1 : ∀ z, upd u i z = upd (fun r => c r k) i z) (h : eqR p (srtF p (colsA n (upd u i v))) (dueF s p a b q) = false) : possQ s p a b n c i q k v = false := by unfold possQ; rw [← h1]; exact h
theorem pi_e (h1 : ∀ z, upd u i z = upd (fun r => c r k) i z) (hs : s ≤ 6) (hns : n = s) (ha : ∀ k, s ≤ k → k < 6 → a k = 0) (hb : ∀ k, s ≤ k → k < 6 → b k = 0) :
    eqR p (srtF p (colR (upd u i v) ((((1 <<< s) % 256) + 255) % 256) n)) (srtF p (colR (bif q then b else a) ((((1 <<< s) % 256) + 255) % 256) 6)) = possQ s p a b n c i q k v := by
  unfold possQ
  rw [due_impl hs ha hb, h1, srtF_congr (d := colsA n (upd (fun r => c r k) i v)) (fun j _ => by rw [← hns]; exact alln (by omega))]
theorem pi_t (h1 : ∀ z, upd u i z = upd (fun r => c r k) i z) (hs : s ≤ 6) (hns : n = s) (ha : ∀ k, s ≤ k → k < 6 → a k = 0) (hb : ∀ k, s ≤ k → k < 6 → b k = 0)
    (h : eqR p (srtF p (colR (upd u i v) ((((1 <<< s) % 256) + 255) % 256) n)) (srtF p (colR (bif q then b else a) ((((1 <<< s) % 256) + 255) % 256) 6)) = true) : possQ s p a b n c i q k v = true := (pi_e h1 hs hns ha hb).symm.trans h
theorem pi_f (h1 : ∀ z, upd u i z = upd (fun r => c r k) i z) (hs : s ≤ 6) (hns : n = s) (ha : ∀ k, s ≤ k → k < 6 → a k = 0) (hb : ∀ k, s ≤ k → k < 6 → b k = 0)
    (h : eqR p (srtF p (colR (upd u i v) ((((1 <<< s) % 256) + 255) % 256) n)) (srtF p (colR (bif q then b else a) ((((1 <<< s) % 256) + 255) % 256) 6)) = false) : possQ s p a b n c i q k v = false := (pi_e h1 hs hns ha hb).symm.trans h
end
theorem upd_hu {u r : Nat → Nat} {i v : Nat} (h : ∀ z, upd u i z = upd r i z) : ∀ z, upd (upd u i v) i z = upd r i z := fun z => by rw [upd_upd]; exact h z
/-! ### codes -/
def shC (s p : Int) (a b : Nat → Nat) (n : Nat) (g : Nat → Int) (c : Nat → Nat → Nat) (i : Int) : Nat := if bothC s p a b n g c = 0 then (if 0 ≤ i ∧ i ≤ s - 1 then 0 else 2) else bothC s p a b n g c
def pcC (s p : Int) (a b : Nat → Nat) (n : Nat) (g : Nat → Int) (c : Nat → Nat → Nat) (i k : Int) : Nat := if shC s p a b n g c i = 0 then (if 0 ≤ k ∧ k ≤ 63 then 0 else 2) else shC s p a b n g c i
section
variable {s p i k : Int} {a b : Nat → Nat} {n : Nat} {g : Nat → Int} {c : Nat → Nat → Nat} {e1 e2 : Bool} {u : Int}
theorem shC_b (h : ¬ bothC s p a b n g c = 0) : shC s p a b n g c i = bothC s p a b n g c := if_neg h
theorem shC_0 (h : bothC s p a b n g c = 0) (h2 : 0 ≤ i ∧ i ≤ s - 1) : shC s p a b n g c i = 0 := by unfold shC; rw [if_pos h, if_pos h2]
theorem shC_2 (h : bothC s p a b n g c = 0) (h2 : ¬ (0 ≤ i ∧ i ≤ s - 1)) : shC s p a b n g c i = 2 := by unfold shC; rw [if_pos h, if_neg h2]
theorem shC_spec (h : shC s p a b n g c i = 0) : bothC s p a b n g c = 0 ∧ 0 ≤ i ∧ i ≤ s - 1 := by
  unfold shC at h
  split at h
  · split at h
    · exact ⟨‹_›, ‹_›⟩
    · cases h
  · exact absurd h ‹_›
theorem sh_z2 (h : bothC s p a b n g c = 0) (h2 : ¬ (0 ≤ i ∧ i ≤ s - 1)) : (2 : Int) = ((shC s p a b n g c i : Nat) : Int) := by rw [shC_2 h h2]; rfl
theorem sh_z0 (h : bothC s p a b n g c = 0) (h2 : 0 ≤ i ∧ i ≤ s - 1) : ((bothC s p a b n g c : Nat) : Int) = ((shC s p a b n g c i : Nat) : Int) := by rw [shC_0 h h2, h]
theorem sh_zb (h : ¬ bothC s p a b n g c = 0) : ((bothC s p a b n g c : Nat) : Int) = ((shC s p a b n g c i : Nat) : Int) := by rw [shC_b h]
theorem pcC_b (h : ¬ shC s p a b n g c i = 0) : pcC s p a b n g c i k = shC s p a b n g c i := if_neg h
theorem pcC_0 (h : shC s p a b n g c i = 0) (h2 : 0 ≤ k ∧ k ≤ 63) : pcC s p a b n g c i k = 0 := by unfold pcC; rw [if_pos h, if_pos h2]
theorem pcC_2 (h : shC s p a b n g c i = 0) (h2 : ¬ (0 ≤ k ∧ k ≤ 63)) : pcC s p a b n g c i k = 2 := by unfold pcC; rw [if_pos h, if_neg h2]
theorem pcC_spec (h : pcC s p a b n g c i k = 0) : shC s p a b n g c i = 0 ∧ 0 ≤ k ∧ k ≤ 63 := by
  unfold pcC at h
  split at h
  · split at h
    · exact ⟨‹_›, ‹_›⟩
    · cases h
  · exact absurd h ‹_›
theorem first_sh (h1 : e1 = !decide (((bothC s p a b n g c : Nat) : Int) = 0)) (h2 : e2 = !decide (0 ≤ i ∧ i ≤ s - 1)) : firstZ 2 (fun j => [e1, e2].getD j false) (fun j => [((bothC s p a b n g c : Nat) : Int), 2].getD j 0) = ((shC s p a b n g c i : Nat) : Int) := by
  rw [firstZ2, h1, h2]; unfold shC
  by_cases h : bothC s p a b n g c = 0
  · rw [if_pos h, h]
    by_cases h2 : 0 ≤ i ∧ i ≤ s - 1
    · rw [if_pos h2, decide_eq_true h2]; rfl
    · rw [if_neg h2, decide_eq_false h2]; rfl
  · rw [if_neg h, decide_eq_false (show ¬ ((bothC s p a b n g c : Nat) : Int) = 0 by omega)]; rfl
theorem first_pc (h1 : e1 = !decide (((shC s p a b n g c i : Nat) : Int) = 0)) (h2 : e2 = !decide (0 ≤ k ∧ k ≤ 63)) : firstZ 2 (fun j => [e1, e2].getD j false) (fun j => [((shC s p a b n g c i : Nat) : Int), 2].getD j 0) = ((pcC s p a b n g c i k : Nat) : Int) := by
  rw [firstZ2, h1, h2]; unfold pcC
  by_cases h : shC s p a b n g c i = 0
  · rw [if_pos h, h]
    by_cases h2 : 0 ≤ k ∧ k ≤ 63
    · rw [if_pos h2, decide_eq_true h2]; rfl
    · rw [if_neg h2, decide_eq_false h2]; rfl
  · rw [if_neg h, decide_eq_false (show ¬ ((shC s p a b n g c i : Nat) : Int) = 0 by omega)]; rfl
end
theorem pic_at {q : Nat → Bool} {k v : Nat} (hk : k = 64) (h : v = picF q k) : v = pic q := by subst hk; exact h
/-! ### what is sure -/
def sureQ (s p : Nat) (a b : Nat → Nat) (n : Nat) (c : Nat → Nat → Nat) (i x k : Nat) : Bool := decide (flN (possQ s p a b n c i (bitB x k) k) (1 <<< p) = 1)
theorem su_t {s p n i x k : Nat} {a b : Nat → Nat} {c : Nat → Nat → Nat} (h : flN (possQ s p a b n c i (bitB x k) k) (1 <<< p) = 1) : sureQ s p a b n c i x k = true := decide_eq_true h
theorem su_f {s p n i x k : Nat} {a b : Nat → Nat} {c : Nat → Nat → Nat} (h : ¬ flN (possQ s p a b n c i (bitB x k) k) (1 <<< p) = 1) : sureQ s p a b n c i x k = false := decide_eq_false h
/-! ### layers that are repaired -/
def repOk (s p : Nat) (a b : Nat → Nat) (n : Nat) (c : Nat → Nat → Nat) (i x z : Nat) : Bool := (List.range 64).all fun k => !bitB z k || decide (0 < flN (possQ s p a b n c i (bitB x k) k) (1 <<< p))
def rpC (s p : Nat) (a b : Nat → Nat) (n : Nat) (c : Nat → Nat → Nat) (i x z k : Nat) : Nat := bif bitB z k then flA (possQ s p a b n c i (bitB x k) k) (1 <<< p) 0 else c i k
section
variable {s p n i x z k : Nat} {a b d : Nat → Nat} {c : Nat → Nat → Nat}
theorem repOk_t (h : ∀ k, k < 64 → bitB z k = true → 0 < flN (possQ s p a b n c i (bitB x k) k) (1 <<< p)) : repOk s p a b n c i x z = true := by
  unfold repOk; rw [List.all_eq_true]
  intro k hk
  cases hb : bitB z k with
  | true => rw [decide_eq_true (h k (by simpa using hk) hb)]; rfl
  | false => rfl
theorem repOk_f (hk : k < 64) (h : bitB z k = true) (h0 : flN (possQ s p a b n c i (bitB x k) k) (1 <<< p) = 0) : repOk s p a b n c i x z = false := by
  unfold repOk; rw [List.all_eq_false]
  refine ⟨k, by simpa using hk, ?_⟩
  rw [h, h0]; decide
theorem rpC_t (h : bitB z k = true) : rpC s p a b n c i x z k = flA (possQ s p a b n c i (bitB x k) k) (1 <<< p) 0 := by unfold rpC; rw [h]; rfl
theorem rpC_f (h : bitB z k = false) : rpC s p a b n c i x z k = c i k := by unfold rpC; rw [h]; rfl
theorem rpC_lt (hp : p ≤ 8) (hc : ∀ i k, c i k < 256) : ∀ k, rpC s p a b n c i x z k < 256 := fun k => by
  unfold rpC
  cases bitB z k
  · exact hc i k
  · exact flA_256 hp 0
theorem rp_lo_t (hlo : ∀ j, j < k → d j = rpC s p a b n c i x z j) (h : bitB z k = true) : ∀ j, j < k + 1 → upd d k (flA (possQ s p a b n c i (bitB x k) k) (1 <<< p) 0) j = rpC s p a b n c i x z j := upd_snoc hlo (rpC_t h).symm
theorem rp_lo_f (hlo : ∀ j, j < k → d j = rpC s p a b n c i x z j) (hhi : ∀ j, k ≤ j → d j = c i j) (h : bitB z k = false) : ∀ j, j < k + 1 → d j = rpC s p a b n c i x z j := fun j hj => by
  by_cases he : j = k
  · subst he; rw [rpC_f h]; exact hhi j (Nat.le_refl _)
  · exact hlo j (by omega)
theorem rp_hi_t {v : Nat} (hhi : ∀ j, k ≤ j → d j = c i j) : ∀ j, k + 1 ≤ j → upd d k v j = c i j := fun j hj => by rw [upd_ne (by omega)]; exact hhi j (by omega)
theorem rp_ok_t (hok : ∀ j, j < k → bitB z j = true → 0 < flN (possQ s p a b n c i (bitB x j) j) (1 <<< p)) (h : 0 < flN (possQ s p a b n c i (bitB x k) k) (1 <<< p)) : ∀ j, j < k + 1 → bitB z j = true → 0 < flN (possQ s p a b n c i (bitB x j) j) (1 <<< p) := fun j hj hb => by
  by_cases he : j = k
  · subst he; exact h
  · exact hok j (by omega) hb
theorem rp_ok_f (hok : ∀ j, j < k → bitB z j = true → 0 < flN (possQ s p a b n c i (bitB x j) j) (1 <<< p)) (h : bitB z k = false) : ∀ j, j < k + 1 → bitB z j = true → 0 < flN (possQ s p a b n c i (bitB x j) j) (1 <<< p) := fun j hj hb => by
  by_cases he : j = k
  · subst he; rw [h] at hb; cases hb
  · exact hok j (by omega) hb
def rpZ (q : Bool) (g : Int) : Int := bif q then g else 0
def rpN (q : Bool) (g : Nat) : Nat := bif q then g else 0
def rpF (q : Bool) (f : Nat → Nat) : Nat → Nat := bif q then f else fun _ => 0
theorem rpF_lt {q : Bool} {f : Nat → Nat} (h : ∀ k, f k < 256) : ∀ k, rpF q f k < 256 := fun k => by
  cases q
  · show 0 < 256; decide
  · exact h k
theorem rp_t {q : Bool} {g : Int} {m m' : Nat} {f : Nat → Nat} (hq : q = true) (hd : ∀ j, j < 64 → d j = f j) (hm : m = m') : Value.tuple #[.agg (layV g d).toArray, .int .i64 ((m : Nat) : Int), .bool true] = .tuple #[.agg (layV (rpZ q g) (rpF q f)).toArray, .int .i64 ((rpN q m' : Nat) : Int), .bool q] := by
  subst hq; rw [layV_congr (p := g) (q := g) rfl hd, hm]; rfl
theorem rp_f {q : Bool} {g : Int} {m' : Nat} {f : Nat → Nat} (hq : q = false) : Value.tuple #[.agg (layV 0 (fun _ => 0)).toArray, .int .i64 0, .bool false] = .tuple #[.agg (layV (rpZ q g) (rpF q f)).toArray, .int .i64 ((rpN q m' : Nat) : Int), .bool q] := by
  subst hq; rfl
end
/-! ### the code of a repaired layer -/
def rlC (C : Nat) (q : Bool) : Nat := if C = 0 then (bif q then 0 else 8) else C
def rlB (C : Nat) (q : Bool) : Bool := decide (C = 0) && q
section
variable {C : Nat} {q : Bool} {g : Int} {m : Nat} {f : Nat → Nat} {u : Int}
theorem rl_c (h : ¬ C = 0) (hu : u = (C : Int)) : Value.tuple #[.agg (layV 0 (fun _ => 0)).toArray, .int .i64 0, .int .i64 u] = .tuple #[.agg (layV (rpZ (rlB C q) g) (rpF (rlB C q) f)).toArray, .int .i64 ((rpN (rlB C q) m : Nat) : Int), .int .i64 ((rlC C q : Nat) : Int)] := by
  unfold rlB rlC; rw [decide_eq_false h, if_neg h, hu]; rfl
theorem rl_8 (h : C = 0) (hq : q = false) : Value.tuple #[.agg (layV 0 (fun _ => 0)).toArray, .int .i64 0, .int .i64 8] = .tuple #[.agg (layV (rpZ (rlB C q) g) (rpF (rlB C q) f)).toArray, .int .i64 ((rpN (rlB C q) m : Nat) : Int), .int .i64 ((rlC C q : Nat) : Int)] := by
  subst h hq; rfl
theorem rl_0 (h : C = 0) (hq : q = true) : Value.tuple #[.agg (layV (rpZ q g) (rpF q f)).toArray, .int .i64 ((rpN q m : Nat) : Int), .int .i64 0] = .tuple #[.agg (layV (rpZ (rlB C q) g) (rpF (rlB C q) f)).toArray, .int .i64 ((rpN (rlB C q) m : Nat) : Int), .int .i64 ((rlC C q : Nat) : Int)] := by
  subst h hq; rfl
end
/-! ### the code of the shares that are blamed -/
def blC (C z m : Nat) : Nat := if C = 0 then (if z = 0 then 4 else if m = 0 then 6 else 0) else C
section
variable {C z m : Nat}
theorem blC_b (h : ¬ C = 0) : blC C z m = C := if_neg h
theorem blC_4 (h : C = 0) (hz : z = 0) : blC C z m = 4 := by unfold blC; rw [if_pos h, if_pos hz]
theorem blC_6 (h : C = 0) (hz : ¬ z = 0) (hm : m = 0) : blC C z m = 6 := by unfold blC; rw [if_pos h, if_neg hz, if_pos hm]
theorem blC_0 (h : C = 0) (hz : ¬ z = 0) (hm : ¬ m = 0) : blC C z m = 0 := by unfold blC; rw [if_pos h, if_neg hz, if_neg hm]
theorem bl_zb (h : ¬ C = 0) : ((C : Nat) : Int) = ((blC C z m : Nat) : Int) := by rw [blC_b h]
theorem bl_z4 (h : C = 0) (hz : z = 0) : (4 : Int) = ((blC C z m : Nat) : Int) := by rw [blC_4 h hz]; rfl
theorem bl_z6 (h : C = 0) (hz : ¬ z = 0) (hm : m = 0) : (6 : Int) = ((blC C z m : Nat) : Int) := by rw [blC_6 h hz hm]; rfl
theorem blC_spec (h : blC C z m = 0) : C = 0 ∧ ¬ z = 0 ∧ ¬ m = 0 := by
  by_cases h1 : C = 0
  · by_cases h2 : z = 0
    · rw [blC_4 h1 h2] at h; cases h
    · by_cases h3 : m = 0
      · rw [blC_6 h1 h2 h3] at h; cases h
      · exact ⟨h1, h2, h3⟩
  · rw [blC_b h1] at h; exact absurd h h1
end
theorem pc_p8 {s p : Int} {a b : Nat → Nat} {n : Nat} {g : Nat → Int} {c : Nat → Nat → Nat} {i k : Int} (h : pcC s p a b n g c i k = 0) : p.toNat ≤ 8 := by
  obtain ⟨_, hp, _⟩ := schOk_spec (bothC_spec (shC_spec (pcC_spec h).1).1).1
  omega
theorem tn8 {p : Nat} (h : p ≤ 8) : ((p : Nat) : Int).toNat ≤ 8 := h
attribute [irreducible] possQ shC pcC sureQ repOk rpC rpZ rpN rpF rlC rlB blC
end Go.Proofs.YtabekcodjcbolaaGreat
