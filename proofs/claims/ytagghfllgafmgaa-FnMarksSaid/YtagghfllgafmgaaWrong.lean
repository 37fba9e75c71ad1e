/-
  Plain laws: parts that do not fit the picture, what a share may have been.
-/
import Derived.Test.YtagghfllgafmgaaSort
import Derived.Test.YtagghfllgafmgaaTorn
namespace Go.Proofs.Ytagghfllgafmgaa
set_option linter.unusedVariables false
set_option linter.unusedSimpArgs false
open Go.RowKit
section
variable {P : Program} {f : Env} {T : TypeId} {x z : Operand}
theorem PR.sliceArrTo {b off len s hi : Nat} {k2 : IntKind} {a : Bool} (hT : tyE P T = some (len, a, s)) (hx : evO f x = some (.pointer (some ⟨b, off, none⟩))) (hz : evO f z = some (.int k2 (hi : Int))) (hl : hi ≤ len) :
    PR P f (.slice T x none (some z) none) (.slice (some ⟨b, off, none⟩) hi len) := fun ρ hρ _ _ _ _ _ w => by
  have hx := hρ _ _ hx
  have hz := hρ _ _ hz
  obtain ⟨e, hu, hn⟩ := tyE_spec hT
  have hs := (tyA_spec (w := w) hn).2
  have e1 : (Instr.sliceBound (.int k2 (hi : Int)) len .sliceAlen).run P w = .ok hi w := by simp [Instr.sliceBound, asIntOf, hl]
  have e3 : (Instr.sliceBounds false len len none (some (.int k2 (hi : Int))) none).run P w = .ok (0, hi, len) w := by simp [Instr.sliceBounds, e1]
  simp only [execOp, hx, Option.map_some, Option.map_none, hz]
  simp [Instr.sliceAt, Instr.sureAddr, e3, run_und hu, hs]
  intro h0
  simp [Addr.add]
end
theorem RdA.preU {w : World} {b o n m : Nat} {k : IntKind} {c : Nat → Nat} (h : RdA w b o (arrU k m c)) (hn : n ≤ m) : RdA w b o (arrU k n c) := by
  refine ⟨h.1, fun j u hu => ?_⟩
  have hj : j < n := by
    rcases Nat.lt_or_ge j n with h' | h'
    · exact h'
    · rw [List.getElem?_eq_none (by simp [arrU]; exact h')] at hu; cases hu
  rw [arrU_get hj] at hu
  exact h.2 j u (by rw [arrU_get (Nat.lt_of_lt_of_le hj hn)]; exact hu)
/-! ### insertion by moving up -/
theorem shf_eq {u : Nat → Nat} {j v : Nat} (hj : 0 < j) : upd (upd u j (u (j - 1))) (j - 1) v = upd (upd (upd u j v) j (upd u j v (j - 1))) (j - 1) (upd u j v j) := by
  rw [upd_same, upd_ne (show j - 1 ≠ j by omega), upd_upd]
section
variable {u c : Nat → Nat} {i j v n : Nat}
theorem shf_1 (hs : ∀ k, k + 1 ≤ i → k + 1 ≠ j → upd u j v k ≤ upd u j v (k + 1)) (hx : ∀ k, k + 1 = j → j + 1 ≤ i → upd u j v k ≤ upd u j v (j + 1)) (hj : 0 < j) (hji : j ≤ i) (h : v < u (j - 1)) :
    ∀ k, k + 1 ≤ i → k + 1 ≠ j - 1 → upd (upd u j (u (j - 1))) (j - 1) v k ≤ upd (upd u j (u (j - 1))) (j - 1) v (k + 1) := by
  rw [shf_eq hj]
  exact ins_step1 hs hx hj hji (by rw [upd_same, upd_ne (by omega)]; exact h)
theorem shf_2 (hs : ∀ k, k + 1 ≤ i → k + 1 ≠ j → upd u j v k ≤ upd u j v (k + 1)) (hj : 0 < j) (hji : j ≤ i) :
    ∀ k, k + 1 = j - 1 → j - 1 + 1 ≤ i → upd (upd u j (u (j - 1))) (j - 1) v k ≤ upd (upd u j (u (j - 1))) (j - 1) v (j - 1 + 1) := by
  rw [shf_eq hj]
  exact ins_step2 hs hj hji
theorem shf_3 (hc : ∀ z, cnt (upd u j v) z n = cnt c z n) (hj : 0 < j) (hjn : j < n) : ∀ z, cnt (upd (upd u j (u (j - 1))) (j - 1) v) z n = cnt c z n := fun z => by
  rw [shf_eq hj, cnt_swp z hj n hjn]; exact hc z
theorem shf_0 (u : Nat → Nat) (i : Nat) : upd u i (u i) = u := by
  funext k
  by_cases h : k = i
  · subst h; exact upd_same _ _ _
  · exact upd_ne h
theorem shf_e (hs : ∀ k, k + 1 ≤ i → k + 1 ≠ j → upd u j v k ≤ upd u j v (k + 1)) (hq : 0 < j → u (j - 1) ≤ v) : ∀ k, k + 1 < i + 1 → upd u j v k ≤ upd u j v (k + 1) :=
  ins_exit hs fun h => by rw [upd_same, upd_ne (by omega)]; exact hq h
end
/-! ### columns, once more -/
theorem colR_255 (t : Nat → Nat) (n j : Nat) (hn : n ≤ 8) : colR t 255 n j = colA t j n := by
  rw [← colA_and t 255 j n hn, show 255 = 2 ^ 8 - 1 from rfl, Nat.and_two_pow_sub_one_eq_mod]
  exact Nat.mod_eq_of_lt (colA_lt t j n)
theorem colA_pow (t : Nat → Nat) (j : Nat) : ∀ i, i ≤ 6 → colA t j i < 2 ^ i
  | 0, _ => by show 0 < 1; decide
  | i + 1, h => by
    have h1 := colA_pow t j i (by omega)
    have h2 : 2 ^ (i + 1) = 2 * 2 ^ i := by rw [Nat.pow_succ]; omega
    rw [colA]
    refine Nat.or_lt_two_pow (by omega) (Nat.lt_of_le_of_lt (Nat.mod_le _ _) ?_)
    rw [Nat.shiftLeft_eq]
    have h3 : (t i >>> j) &&& 1 ≤ 1 := Nat.and_le_right
    have h4 : ((t i >>> j) &&& 1) * 2 ^ i ≤ 1 * 2 ^ i := Nat.mul_le_mul_right _ h3
    have : 0 < 2 ^ i := Nat.two_pow_pos i
    omega
theorem colA_stop {t : Nat → Nat} {j n : Nat} : ∀ d, (∀ k, n ≤ k → k < n + d → t k = 0) → colA t j (n + d) = colA t j n
  | 0, _ => rfl
  | d + 1, h => by
    rw [← Nat.add_assoc, colA, h (n + d) (by omega) (by omega), colA_stop d (fun k h1 h2 => h k h1 (by omega))]
    simp
theorem colR_all {t : Nat → Nat} {n j : Nat} (hn : n ≤ 6) (hz : ∀ k, n ≤ k → k < 6 → t k = 0) : colR t ((((1 <<< n) % 256) + 255) % 256) 6 j = colA t j n := by
  have hm : (((1 <<< n) % 256) + 255) % 256 = 2 ^ n - 1 := by
    rcases (show n = 0 ∨ n = 1 ∨ n = 2 ∨ n = 3 ∨ n = 4 ∨ n = 5 ∨ n = 6 by omega) with rfl | rfl | rfl | rfl | rfl | rfl | rfl <;> decide
  have h1 := colA_stop (t := t) (j := j) (n := n) (6 - n) (fun k h1 h2 => hz k h1 (by omega))
  rw [show n + (6 - n) = 6 by omega] at h1
  rw [← colA_and t _ j 6 (by decide), hm, h1, Nat.and_two_pow_sub_one_eq_mod]
  exact Nat.mod_eq_of_lt (colA_pow t j n hn)
def colsA (n : Nat) (t : Nat → Nat) : Nat → Nat := fun j => colA t j n
theorem srtF_congr {n : Nat} {c d : Nat → Nat} (h : ∀ j, j < n → c j = d j) : srtF n c = srtF n d := by
  have e : (List.range n).map c = (List.range n).map d := List.map_congr_left fun j hj => h j (by simpa using hj)
  unfold srtF; rw [e]
/-- the columns that are due: of the white rows, or of the black ones -/
def dueF (s p : Nat) (a b : Nat → Nat) (q : Bool) : Nat → Nat := srtF p (colsA s (bif q then b else a))
def wrQ (s p : Nat) (a b : Nat → Nat) (n : Nat) (c : Nat → Nat → Nat) (x k : Nat) : Bool := !eqR p (srtF p (colsA n (fun r => c r k))) (dueF s p a b (bitB x k))
theorem due_impl {s p : Nat} {a b : Nat → Nat} (hs : s ≤ 6) (ha : ∀ k, s ≤ k → k < 6 → a k = 0) (hb : ∀ k, s ≤ k → k < 6 → b k = 0) (q : Bool) : srtF p (colR (bif q then b else a) ((((1 <<< s) % 256) + 255) % 256) 6) = dueF s p a b q := by
  unfold dueF
  refine srtF_congr fun j _ => ?_
  cases q
  · exact colR_all hs ha
  · exact colR_all hs hb
theorem at_impl {p n : Nat} {t : Nat → Nat} (hn : n ≤ 8) : srtF p (colR t 255 n) = srtF p (colsA n t) := srtF_congr fun j _ => colR_255 t n j hn
theorem sch_zero {n : Nat} {p : Int} {a b : Nat → Nat} (h : schOk (n : Int) p a b = true) : n ≤ 6 ∧ (∀ k, n ≤ k → k < 6 → a k = 0) ∧ (∀ k, n ≤ k → k < 6 → b k = 0) := by
  obtain ⟨h1, _, h3⟩ := schOk_spec h
  have hz : ∀ k, n ≤ k → k < 6 → a k = 0 ∧ b k = 0 := fun k hk hk2 => by
    have := (h3 k hk2).2 (by omega)
    exact ⟨Nat.eq_zero_of_le_zero (this ▸ Nat.left_le_or), Nat.eq_zero_of_le_zero (this ▸ Nat.right_le_or)⟩
  exact ⟨by omega, fun k h1 h2 => (hz k h1 h2).1, fun k h1 h2 => (hz k h1 h2).2⟩
theorem due_T {s p : Nat} {a b : Nat → Nat} : srtF p (colsA s b) = dueF s p a b true := rfl
theorem due_F {s p : Nat} {a b : Nat → Nat} : srtF p (colsA s a) = dueF s p a b false := rfl
theorem dueF_lt (s p : Nat) (a b : Nat → Nat) (q : Bool) : ∀ k, dueF s p a b q k < 256 := srtF_lt (fun j => colA_lt _ _ _)
theorem colR_lt2 {a b : Nat → Nat} {x n : Nat} {q : Bool} (ha : ∀ k, a k < 256) (hb : ∀ k, b k < 256) : ∀ j, colR (bif q then b else a) x n j < 256 := colR_lt _ _ _
theorem wr_impl {s p n x k : Nat} {a b : Nat → Nat} {c : Nat → Nat → Nat} (hs : s ≤ 6) (hn : n ≤ 8) (ha : ∀ k, s ≤ k → k < 6 → a k = 0) (hb : ∀ k, s ≤ k → k < 6 → b k = 0) :
    (!eqR p (srtF p (colR (fun r => c r k) 255 n)) (srtF p (colR (bif bitB x k then b else a) ((((1 <<< s) % 256) + 255) % 256) 6))) = wrQ s p a b n c x k := by
  unfold wrQ; rw [due_impl hs ha hb, at_impl hn]
section
variable {s p n x k : Nat} {a b : Nat → Nat} {c : Nat → Nat → Nat} {q : Bool}
theorem wr_t (h1 : bitB x k = q) (h : eqR p (srtF p (colsA n (fun r => c r k))) (dueF s p a b q) = false) : wrQ s p a b n c x k = true := by
  unfold wrQ; rw [h1, h]; rfl
theorem wr_f (h1 : bitB x k = q) (h : eqR p (srtF p (colsA n (fun r => c r k))) (dueF s p a b q) = true) : wrQ s p a b n c x k = false := by
  unfold wrQ; rw [h1, h]; rfl
end
theorem bothC_all {s p : Int} {a b : Nat → Nat} {n : Nat} {g : Nat → Int} {c : Nat → Nat → Nat} (h : bothC s p a b n g c = 0) : ∀ j, j < n → g j = p := by
  unfold bothC at h
  cases h1 : schOk s p a b <;> cases h2 : layAll n g c <;> rw [h1, h2] at h <;> simp at h
  cases h3 : (decide ((n : Int) = s) && allP n g p) with
  | true =>
    intro j hj
    have h4 := (Bool.and_eq_true_iff.1 h3).2
    unfold allP at h4; rw [List.all_eq_true] at h4
    exact of_decide_eq_true (h4 j (by simpa using hj))
  | false => rw [h3] at h; cases h
attribute [irreducible] dueF wrQ
end Go.Proofs.Ytagghfllgafmgaa
