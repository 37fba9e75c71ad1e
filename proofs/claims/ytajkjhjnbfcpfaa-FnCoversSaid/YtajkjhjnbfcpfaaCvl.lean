/-
  Plain laws: what layers of covers show.
-/
import Derived.Test.YtajkjhjnbfcpfaaTri
namespace Go.Proofs.Ytajkjhjnbfcpfaa
set_option linter.unusedVariables false
set_option linter.unusedSimpArgs false
open Go.RowKit
/-! ### one row behind another -/
def apF (n : Nat) (u v : Nat → Nat) : Nat → Nat := fun j => if j < n then u j else v (j - n)
theorem apF_lt {n B : Nat} {u v : Nat → Nat} (hu : ∀ j, u j < B) (hv : ∀ j, v j < B) : ∀ j, apF n u v j < B := fun j => by
  unfold apF; split
  · exact hu j
  · exact hv _
theorem arrU_app {k : IntKind} {n m : Nat} {u v : Nat → Nat} : arrU k n u ++ arrU k m v = arrU k (n + m) (apF n u v) := by
  apply List.ext_getElem?
  intro j
  by_cases h : j < n
  · rw [List.getElem?_append_left (by simpa [arrU] using h), arrU_get h, arrU_get (by omega)]; unfold apF; rw [if_pos h]
  · rw [List.getElem?_append_right (by simpa [arrU] using h)]
    have hl : (arrU k n u).length = n := by simp [arrU]
    rw [hl]
    by_cases h2 : j < n + m
    · rw [arrU_get (by omega), arrU_get h2]; unfold apF; rw [if_neg h]
    · rw [List.getElem?_eq_none (by simp [arrU]; omega), List.getElem?_eq_none (by simp [arrU]; omega)]
theorem flat_natU {k : IntKind} {n : Nat} {c : Nat → Nat} (h : ∀ j, fitI k ((c j : Nat) : Int)) : Flat (arrU k n c) (List.replicate n k) := flat_arrU fun j _ => h j
/-! ### how many black parts each cell has -/
def ctF (p : Int) (c : Nat → Nat) : Nat → Nat := fun k => bif layOk p c then pc (c k) else 0
section
variable {p : Int} {c : Nat → Nat}
theorem ct_f (h : layOk p c = false) : Value.tuple #[.agg (arrU .i8 64 (fun _ => 0)).toArray, .int .i64 1] = .tuple #[.agg (arrU .i8 64 (ctF p c)).toArray, .int .i64 ((hsC p c : Nat) : Int)] := by
  have e : ctF p c = fun _ => 0 := by funext v; unfold ctF; rw [h]; rfl
  have e2 : hsC p c = 1 := by unfold hsC; rw [h]; rfl
  rw [e, e2]; rfl
theorem ct_t {e : Nat → Nat} (h : layOk p c = true) (he : ∀ j, j < 64 → e j = pc (c j)) : Value.tuple #[.agg (arrU .i8 64 e).toArray, .int .i64 0] = .tuple #[.agg (arrU .i8 64 (ctF p c)).toArray, .int .i64 ((hsC p c : Nat) : Int)] := by
  have e2 : hsC p c = 0 := by unfold hsC; rw [h]; rfl
  rw [arrU_congr (d := ctF p c) fun j hj => (he j hj).trans (by unfold ctF; rw [h, cond_true]), e2]; rfl
end
theorem selN_0' {C u : Nat} (h : C = 0) : selN C u = u := by unfold selN; rw [if_pos h]
/-! ### layers of covers -/
def cvN (a : Nat) : Nat → Nat := fun k => bif bitB a k then 3 else 2
theorem cvN_fit (a : Nat) : ∀ j, fitI .i8 ((cvN a j : Nat) : Int) := fun j => by unfold cvN; cases bitB a j <;> simp [fitI]
theorem cvN_le (a k : Nat) : cvN a k ≤ 3 := by unfold cvN; cases bitB a k <;> decide
def cvT1 (A B Z : Bool) : Bool := decide (cvA A B Z < 16) && (decide (cvB A B Z < 16) && (decide (pc (cvA A B Z) = (bif A then 3 else 2)) && (decide (pc (cvB A B Z) = (bif B then 3 else 2)) && decide (pc (cvA A B Z ||| cvB A B Z) = (bif Z then 4 else 3)))))
theorem cvT1_all : (cvT1 false false false && cvT1 false false true && cvT1 false true false && cvT1 false true true && cvT1 true false false && cvT1 true false true && cvT1 true true false && cvT1 true true true) = true := by kernel_rfl
theorem cvT1_ok (A B Z : Bool) : cvA A B Z < 16 ∧ cvB A B Z < 16 ∧ pc (cvA A B Z) = (bif A then 3 else 2) ∧ pc (cvB A B Z) = (bif B then 3 else 2) ∧ pc (cvA A B Z ||| cvB A B Z) = (bif Z then 4 else 3) := by
  have h := cvT1_all
  simp only [Bool.and_eq_true] at h
  obtain ⟨⟨⟨⟨⟨⟨⟨h0, h1⟩, h2⟩, h3⟩, h4⟩, h5⟩, h6⟩, h7⟩ := h
  have h : cvT1 A B Z = true := by cases A <;> cases B <;> cases Z <;> assumption
  unfold cvT1 at h
  simp only [Bool.and_eq_true, decide_eq_true_eq] at h
  exact h
section
variable {a b z x : Nat}
theorem cov0 (k : Nat) : covF a b z k 0 = cvA (bitB a k) (bitB b k) (bitB z k) := rfl
theorem cov1 (k : Nat) : covF a b z k 1 = cvB (bitB a k) (bitB b k) (bitB z k) := rfl
theorem cov_a (k : Nat) : covF a b z k 0 < 2 ^ 4 ∧ pc (covF a b z k 0) = cvN a k := ⟨by rw [cov0]; exact (cvT1_ok _ _ _).1, by rw [cov0]; exact (cvT1_ok _ _ _).2.2.1⟩
theorem cov_b (k : Nat) : covF a b z k 1 < 2 ^ 4 ∧ pc (covF a b z k 1) = cvN b k := ⟨by rw [cov1]; exact (cvT1_ok _ _ _).2.1, by rw [cov1]; exact (cvT1_ok _ _ _).2.2.2.1⟩
theorem cov_s (k : Nat) : pc (covF a b z k 0 ||| covF a b z k 1) = (bif bitB z k then 4 else 3) := by rw [cov0, cov1]; exact (cvT1_ok _ _ _).2.2.2.2
theorem cvN_3 (k : Nat) : decide ((3 : Int) ≤ ((cvN a k : Nat) : Int)) = bitB a k := by unfold cvN; cases bitB a k <;> rfl
theorem dcv_a (k : Nat) : pc (dwC (covF a b z) 4 x 0 k) = cvN a k := (dw_pc (by decide) (cov_a k).1).trans (cov_a k).2
theorem dcv_b (k : Nat) : pc (dwC (covF a b z) 4 x 1 k) = cvN b k := (dw_pc (by decide) (cov_b k).1).trans (cov_b k).2
theorem dcv_s (k : Nat) : pc (dwC (covF a b z) 4 x 0 k ||| dwC (covF a b z) 4 x 1 k) = (bif bitB z k then 4 else 3) := (dw_pc2 (by decide) (cov_a k).1 (cov_b k).1).trans (cov_s k)
theorem dcv_l {r : Nat} : layOk 4 (dwC (covF a b z) 4 x r) = true := layOk_iffN.2 ⟨by decide, fun k _ => dw_pow (by decide)⟩
theorem cov_k1 {r : Nat} : codeP 1 (fun z_ => [(4 : Int)].getD z_ 0) (fun z_ => [dwC (covF a b z) 4 x r].getD z_ (fun _ => 0)) 4 = 0 := by
  refine lays_ok (q := 4) rfl (by decide) (fun i hi k _ => ?_) (fun i hi => ?_)
  · obtain rfl : i = 0 := by omega
    rw [List.getD_cons_zero]; exact dw_pow (by decide)
  · obtain rfl : i = 0 := by omega
    rfl
theorem cov_v1a (ha : a < 18446744073709551616) : selN (codeP 1 (fun z_ => [(4 : Int)].getD z_ 0) (fun z_ => [dwC (covF a b z) 4 x 0].getD z_ (fun _ => 0)) 4) (pic (fun r => decide ((3 : Int) ≤ ((pc (dwC (covF a b z) 4 x 0 r) : Nat) : Int)))) = a := by
  rw [selN_0' cov_k1]; exact pic_is ha fun k _ => by rw [dcv_a, cvN_3]
theorem cov_v1b (hb : b < 18446744073709551616) : selN (codeP 1 (fun z_ => [(4 : Int)].getD z_ 0) (fun z_ => [dwC (covF a b z) 4 x 1].getD z_ (fun _ => 0)) 4) (pic (fun r => decide ((3 : Int) ≤ ((pc (dwC (covF a b z) 4 x 1 r) : Nat) : Int)))) = b := by
  rw [selN_0' cov_k1]; exact pic_is hb fun k _ => by rw [dcv_b, cvN_3]
theorem cov_k2 {c : Nat → Nat} (hc : ∀ k, k < 64 → c k < 2 ^ 4) {r : Nat} : codeP 2 (fun i => [(4 : Int), 4].getD i 0) (fun i => [c, dwC (covF a b z) 4 x r].getD i (fun _ => 0)) 4 = 0 := by
  refine lays_ok (q := 4) rfl (by decide) (fun i hi k hk => ?_) (fun i hi => ?_)
  · rcases (show i = 0 ∨ i = 1 by omega) with rfl | rfl
    · rw [List.getD_cons_zero]; exact hc k hk
    · rw [List.getD_cons_succ, List.getD_cons_zero]; exact dw_pow (by decide)
  · rcases (show i = 0 ∨ i = 1 by omega) with rfl | rfl <;> rfl
theorem cov_k2' {r s : Nat} : codeP 2 (fun i => [(4 : Int), 4].getD i 0) (fun i => [dwC (covF a b z) 4 x r, dwC (covF a b z) 4 x s].getD i (fun _ => 0)) 4 = 0 := cov_k2 fun k _ => dw_pow (by decide)
theorem cov_p2 (hz : z < 18446744073709551616) : pic (fun r => decide ((4 : Int) ≤ ((pc (orC (fun i => [dwC (covF a b z) 4 x 0, dwC (covF a b z) 4 x 1].getD i (fun _ => 0)) 2 r) : Nat) : Int))) = z := pic_is hz fun k _ => by
  rw [orC_2, dcv_s]; cases bitB z k <;> rfl
theorem cov_v2 (hz : z < 18446744073709551616) : selN (codeP 2 (fun i => [(4 : Int), 4].getD i 0) (fun i => [dwC (covF a b z) 4 x 0, dwC (covF a b z) 4 x 1].getD i (fun _ => 0)) 4) (pic (fun r => decide ((4 : Int) ≤ ((pc (orC (fun i => [dwC (covF a b z) 4 x 0, dwC (covF a b z) 4 x 1].getD i (fun _ => 0)) 2 r) : Nat) : Int)))) = z := by
  rw [selN_0' cov_k2']; exact cov_p2 hz
theorem cov_ch : chC (codeP 2 (fun i => [(4 : Int), 4].getD i 0) (fun i => [dwC (covF a b z) 4 x 0, dwC (covF a b z) 4 x 1].getD i (fun _ => 0)) 4) (dwC (covF a b z) 4 x 0) (dwC (covF a b z) 4 x 1) = 0 := by
  refine chC_0 cov_k2' fun k hk => okC_t ?_ ?_ ?_
  · rw [dcv_a]; unfold cvN; cases bitB a k <;> decide
  · rw [dcv_b]; unfold cvN; cases bitB b k <;> decide
  · rw [dcv_s]; cases bitB z k <;> decide
theorem cov_c1 (ha : a < 18446744073709551616) : selN (chC (codeP 2 (fun i => [(4 : Int), 4].getD i 0) (fun i => [dwC (covF a b z) 4 x 0, dwC (covF a b z) 4 x 1].getD i (fun _ => 0)) 4) (dwC (covF a b z) 4 x 0) (dwC (covF a b z) 4 x 1)) (pic (fun r => decide ((3 : Int) ≤ ((pc (dwC (covF a b z) 4 x 0 r) : Nat) : Int)))) = a := by
  rw [selN_0' cov_ch]; exact pic_is ha fun k _ => by rw [dcv_a, cvN_3]
theorem cov_c2 (hb : b < 18446744073709551616) : selN (chC (codeP 2 (fun i => [(4 : Int), 4].getD i 0) (fun i => [dwC (covF a b z) 4 x 0, dwC (covF a b z) 4 x 1].getD i (fun _ => 0)) 4) (dwC (covF a b z) 4 x 0) (dwC (covF a b z) 4 x 1)) (pic (fun r => decide ((3 : Int) ≤ ((pc (dwC (covF a b z) 4 x 1 r) : Nat) : Int)))) = b := by
  rw [selN_0' cov_ch]; exact pic_is hb fun k _ => by rw [dcv_b, cvN_3]
theorem cov_c3 (hz : z < 18446744073709551616) : selN (chC (codeP 2 (fun i => [(4 : Int), 4].getD i 0) (fun i => [dwC (covF a b z) 4 x 0, dwC (covF a b z) 4 x 1].getD i (fun _ => 0)) 4) (dwC (covF a b z) 4 x 0) (dwC (covF a b z) 4 x 1)) (pic (fun r => decide ((4 : Int) ≤ ((pc (orC (fun i => [dwC (covF a b z) 4 x 0, dwC (covF a b z) 4 x 1].getD i (fun _ => 0)) 2 r) : Nat) : Int)))) = z := by
  rw [selN_0' cov_ch]; exact cov_p2 hz
theorem cov_ct : arrU .i8 64 (ctF 4 (dwC (covF a b z) 4 x 0)) = arrU .i8 64 (cvN a) := arrU_congr fun j _ => by unfold ctF; rw [dcv_l, cond_true]; exact dcv_a j
theorem cov_hs : hsC 4 (dwC (covF a b z) 4 x 0) = 0 := by unfold hsC; rw [dcv_l]; rfl
theorem cov_cell (k : Nat) : pc (cvA (bitB a k) (bitB b k) (bitB z k)) = cvN a k := (cov_a (b := b) (z := z) k).2
theorem cov_both (k : Nat) : pc (cvA (bitB a k) (bitB b k) (bitB z k) ||| cvB (bitB a k) (bitB b k) (bitB z k)) = pc (dwC (covF a b z) 4 x 0 k ||| dwC (covF a b z) 4 x 1 k) := ((dw_pc2 (by decide) (cov_a k).1 (cov_b k).1)).symm
theorem cov_bad {v : Nat} (hv : v < 64) : chC (codeP 2 (fun i => [(4 : Int), 4].getD i 0) (fun i => [upd (dwC (covF a b z) 4 x 0) v 0, dwC (covF a b z) 4 x 1].getD i (fun _ => 0)) 4) (upd (dwC (covF a b z) 4 x 0) v 0) (dwC (covF a b z) 4 x 1) = 8 := by
  refine chC_8 (k := v) (cov_k2 fun k hk => ?_) hv (okC_f (.inl ?_))
  · exact upd_lt (fun k => dw_pow (by decide)) (by decide) k
  · rw [upd_same]
    intro h
    have : pc 0 = 0 := by kernel_rfl
    omega
end
attribute [irreducible] ctF
end Go.Proofs.Ytajkjhjnbfcpfaa
