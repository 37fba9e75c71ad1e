/-
  Plain laws: layers of covers that are looked at again.
-/
import Derived.Test.YtajkjhjnbfcpfaaSort
import Derived.Test.YtajkjhjnbfcpfaaDraw
import Derived.Test.YtajkjhjnbfcpfaaCov
import Derived.KernelRfl
namespace Go.Proofs.Ytajkjhjnbfcpfaa
set_option linter.unusedVariables false
set_option linter.unusedSimpArgs false
open Go.RowKit
theorem picF_bit (q : Nat → Bool) (i : Nat) : ∀ n, n ≤ 64 → (picF q n).testBit i = (decide (i < n) && q i)
  | 0, _ => by show (0 : Nat).testBit i = _; simp
  | n + 1, h => by
    have ih := picF_bit q i n (by omega)
    have h2 : (1 <<< n) % 18446744073709551616 = 2 ^ n := by
      rw [Nat.one_shiftLeft, Nat.mod_eq_of_lt (show 2 ^ n < 2 ^ 64 from Nat.pow_lt_pow_right (by decide) (by omega))]
    cases hq : q n with
    | true =>
      rw [← picF_t rfl hq, Nat.testBit_or, ih, h2, Nat.testBit_two_pow]
      rcases Nat.lt_trichotomy i n with hi | rfl | hi
      · rw [decide_eq_true hi, decide_eq_true (show i < n + 1 by omega), decide_eq_false (by omega)]; simp
      · rw [hq]; simp
      · rw [decide_eq_false (by omega), decide_eq_false (show ¬ i < n + 1 by omega), decide_eq_false (by omega)]; rfl
    | false =>
      rw [← picF_f rfl hq, ih]
      rcases Nat.lt_trichotomy i n with hi | rfl | hi
      · rw [decide_eq_true hi, decide_eq_true (show i < n + 1 by omega)]
      · rw [hq]; simp
      · rw [decide_eq_false (by omega), decide_eq_false (show ¬ i < n + 1 by omega)]
theorem bitB_test (y i : Nat) : bitB y i = y.testBit i := by
  unfold bitB
  rw [Nat.testBit, Nat.and_comm 1]
  have : (y >>> i) &&& 1 ≤ 1 := Nat.and_le_right
  rcases (show (y >>> i) &&& 1 = 0 ∨ (y >>> i) &&& 1 = 1 by omega) with h | h <;> rw [h] <;> rfl
theorem bit_pic {q : Nat → Bool} {k : Nat} (h : k < 64) : bitB (pic q) k = q k := by
  unfold pic
  rw [bitB_test, picF_bit q k 64 (Nat.le_refl _), decide_eq_true h]; rfl
/-- two parts of two rows each, in some order of the columns -/
def alk (x y v w : Nat) : Bool := eqR 8 (srtF 8 (colR (fun z_ => [x, y].getD z_ 0) 3 2)) (srtF 8 (colR (fun z_ => [v, w].getD z_ 0) 3 2))
def alC (x y v w : Nat) : Bool := (List.range 4).all fun z => decide (cnt (colR (fun z_ => [x, y].getD z_ 0) 3 2) z 8 = cnt (colR (fun z_ => [v, w].getD z_ 0) 3 2) z 8)
theorem col2_lt (t : Nat → Nat) (j : Nat) : colR t 3 2 j < 4 := by
  have h : ∀ u, (u >>> j) &&& 1 ≤ 1 := fun u => Nat.and_le_right
  have h0 := h (t 0); have h1 := h (t 1)
  show (0 ||| ((((t 0 >>> j) &&& 1) <<< 0) % 256)) ||| ((((t 1 >>> j) &&& 1) <<< 1) % 256) < 4
  rcases (show (t 0 >>> j) &&& 1 = 0 ∨ (t 0 >>> j) &&& 1 = 1 by omega) with e | e <;> rcases (show (t 1 >>> j) &&& 1 = 0 ∨ (t 1 >>> j) &&& 1 = 1 by omega) with e' | e' <;> rw [e, e'] <;> decide
theorem alk_eq (x y v w : Nat) : alk x y v w = alC x y v w := by
  unfold alk alC eqR
  rw [Bool.eq_iff_iff, decide_eq_true_iff, List.all_eq_true]
  refine Iff.trans srt_eq ⟨fun h z _ => decide_eq_true (h z), fun h z => ?_⟩
  rcases Nat.lt_or_ge z 4 with hz | hz
  · exact of_decide_eq_true (h z (by simpa using hz))
  · rw [cnt_big (fun j => Nat.lt_of_lt_of_le (col2_lt _ j) hz), cnt_big (fun j => Nat.lt_of_lt_of_le (col2_lt _ j) hz)]
def okC (v w : Nat) : Bool := decide (2 ≤ pc v ∧ pc v ≤ 3) && (decide (2 ≤ pc w ∧ pc w ≤ 3) && decide (3 ≤ pc (v ||| w)))
def okT (v w : Nat) : Bool := alC (cvA (decide (3 ≤ pc v)) (decide (3 ≤ pc w)) (decide (4 ≤ pc (v ||| w)))) (cvB (decide (3 ≤ pc v)) (decide (3 ≤ pc w)) (decide (4 ≤ pc (v ||| w)))) v w == okC v w
theorem okT_all : ((List.range 16).all fun v => (List.range 16).all fun w => okT v w) = true := by kernel_rfl
theorem okT_ok {v w : Nat} (hv : v < 16) (hw : w < 16) : okT v w = true := by
  have h := okT_all
  rw [List.all_eq_true] at h
  have h2 := h v (by simpa using hv)
  rw [List.all_eq_true] at h2
  exact h2 w (by simpa using hw)
section
variable {p r : Int} {c d : Nat → Nat} {k : Nat}
def CP2 (p : Int) (c : Nat → Nat) (r : Int) (d : Nat → Nat) (q : Int) : Nat := codeP 2 (fun i => [p, r].getD i 0) (fun i => [c, d].getD i (fun _ => 0)) q
theorem cp4_spec (h : codeP 2 (fun i => [p, r].getD i 0) (fun i => [c, d].getD i (fun _ => 0)) 4 = 0) (hk : k < 64) : c k < 16 ∧ d k < 16 := by
  obtain ⟨h1, h2⟩ := codeP_spec h
  unfold layAll at h1
  rw [List.all_eq_true] at h1
  have a0 := h1 0 (by simp); have a1 := h1 1 (by simp)
  have b0 := h2 0 (by decide); have b1 := h2 1 (by decide)
  simp only [List.getD_cons_zero, List.getD_cons_succ] at a0 a1 b0 b1
  subst b0 b1
  exact ⟨(layOk_iff.1 a0).2 k hk, (layOk_iff.1 a1).2 k hk⟩
theorem orC_2 : orC (fun i => [c, d].getD i (fun _ => 0)) 2 k = c k ||| d k := by
  show (0 ||| c k) ||| d k = c k ||| d k
  rw [Nat.zero_or]
/-- what the program looks at in a cell -/
def ckQ (c d : Nat → Nat) (k : Nat) : Bool := alk (cvA (bitB (pic fun r => decide ((3 : Int) ≤ ((pc (c r) : Nat) : Int))) k) (bitB (pic fun r => decide ((3 : Int) ≤ ((pc (d r) : Nat) : Int))) k) (bitB (pic fun r => decide ((4 : Int) ≤ ((pc (orC (fun i => [c, d].getD i (fun _ => 0)) 2 r) : Nat) : Int))) k))
  (cvB (bitB (pic fun r => decide ((3 : Int) ≤ ((pc (c r) : Nat) : Int))) k) (bitB (pic fun r => decide ((3 : Int) ≤ ((pc (d r) : Nat) : Int))) k) (bitB (pic fun r => decide ((4 : Int) ≤ ((pc (orC (fun i => [c, d].getD i (fun _ => 0)) 2 r) : Nat) : Int))) k)) (c k) (d k)
theorem ck_eq (hk : k < 64) (hc : c k < 16) (hd : d k < 16) : ckQ c d k = okC (c k) (d k) := by
  have h := okT_ok hc hd
  unfold okT at h
  have h2 := eq_of_beq h
  unfold ckQ
  rw [bit_pic hk, bit_pic hk, bit_pic hk, orC_2, alk_eq, ← h2, decide_eq_decide.2 (show (3 : Int) ≤ ((pc (c k) : Nat) : Int) ↔ 3 ≤ pc (c k) by omega), decide_eq_decide.2 (show (3 : Int) ≤ ((pc (d k) : Nat) : Int) ↔ 3 ≤ pc (d k) by omega), decide_eq_decide.2 (show (4 : Int) ≤ ((pc (c k ||| d k) : Nat) : Int) ↔ 4 ≤ pc (c k ||| d k) by omega)]
theorem ck_t (hk : k < 64) (hcd : c k < 16 ∧ d k < 16) (h : ckQ c d k = true) : okC (c k) (d k) = true := (ck_eq hk hcd.1 hcd.2).symm.trans h
theorem ck_f (hk : k < 64) (hcd : c k < 16 ∧ d k < 16) (h : ckQ c d k = false) : okC (c k) (d k) = false := (ck_eq hk hcd.1 hcd.2).symm.trans h
theorem okC_t {v w : Nat} (h1 : 2 ≤ pc v ∧ pc v ≤ 3) (h2 : 2 ≤ pc w ∧ pc w ≤ 3) (h3 : 3 ≤ pc (v ||| w)) : okC v w = true := by unfold okC; rw [decide_eq_true h1, decide_eq_true h2, decide_eq_true h3]; rfl
theorem okC_f {v w : Nat} (h : ¬ (2 ≤ pc v ∧ pc v ≤ 3) ∨ ¬ (2 ≤ pc w ∧ pc w ≤ 3) ∨ ¬ 3 ≤ pc (v ||| w)) : okC v w = false := by
  unfold okC
  rcases h with h | h | h <;> rw [decide_eq_false h] <;> simp
def chC (C : Nat) (c d : Nat → Nat) : Nat := if C = 0 then (if (List.range 64).all (fun k => okC (c k) (d k)) = true then 0 else 8) else C
variable {C : Nat}
theorem chC_b (h : ¬ C = 0) : chC C c d = C := if_neg h
theorem chC_8 (h : C = 0) (hk : k < 64) (h2 : okC (c k) (d k) = false) : chC C c d = 8 := by
  unfold chC; rw [if_pos h, if_neg]
  intro q; rw [List.all_eq_true] at q
  rw [q k (by simpa using hk)] at h2; cases h2
theorem chC_0 (h : C = 0) (h2 : ∀ k, k < 64 → okC (c k) (d k) = true) : chC C c d = 0 := by
  unfold chC; rw [if_pos h, if_pos]
  rw [List.all_eq_true]; exact fun k hk => h2 k (by simpa using hk)
theorem ch_t {D x y z : Nat} (h : D = 0) : Value.tuple #[.int .u64 (x : Int), .int .u64 (y : Int), .int .u64 (z : Int), .int .i64 0] = .tuple #[.int .u64 ((selN D x : Nat) : Int), .int .u64 ((selN D y : Nat) : Int), .int .u64 ((selN D z : Nat) : Int), .int .i64 (D : Int)] := by unfold selN; rw [if_pos h, if_pos h, if_pos h, h]; rfl
theorem ch_f {D K x y z : Nat} {u : Int} (h : D = K) (hK : ¬ K = 0) (hu : u = (K : Int)) : Value.tuple #[.int .u64 0, .int .u64 0, .int .u64 0, .int .i64 u] = .tuple #[.int .u64 ((selN D x : Nat) : Int), .int .u64 ((selN D y : Nat) : Int), .int .u64 ((selN D z : Nat) : Int), .int .i64 (D : Int)] := by subst h; unfold selN; rw [if_neg hK, if_neg hK, if_neg hK, hu]; rfl
end
attribute [irreducible] alk ckQ okC chC
end Go.Proofs.Ytajkjhjnbfcpfaa
