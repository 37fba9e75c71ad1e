/-
  Plain laws: layers of one number of parts; pictures shown.
-/
import Derived.Test.YtagghfllgafmgaaLays
import Derived.Test.YtagghfllgafmgaaSch
import Derived.Test.YtagghfllgafmgaaSel
namespace Go.Proofs.Ytagghfllgafmgaa
set_option linter.unusedVariables false
set_option linter.unusedSimpArgs false
open Go.RowKit
def allP (n : Nat) (p : Nat → Int) (q : Int) : Bool := (List.range n).all fun k => decide (p k = q)
theorem allP_f {n k : Nat} {p : Nat → Int} {q : Int} (hk : k < n) (h : ¬ p k = q) : false = allP n p q := by
  symm; unfold allP; rw [List.all_eq_false]; exact ⟨k, by simpa using hk, by simpa using h⟩
theorem allP_t {n : Nat} {p : Nat → Int} {q : Int} (h : ∀ k, k < n → p k = q) : true = allP n p q := by
  symm; unfold allP; rw [List.all_eq_true]; intro k hk; exact decide_eq_true (h k (by simpa using hk))
def codeP (n : Nat) (p : Nat → Int) (c : Nat → Nat → Nat) (q : Int) : Nat := bif layAll n p c then (bif allP n p q then 0 else 4) else 1
section
variable {n : Nat} {p : Nat → Int} {c : Nat → Nat → Nat} {q : Int}
theorem codeP_1 (h : layAll n p c = false) : 1 = codeP n p c q := by unfold codeP; rw [h]; rfl
theorem codeP_4 {k : Nat} (h : layAll n p c = true) (hk : k < n) (h2 : ¬ p k = q) : 4 = codeP n p c q := by unfold codeP; rw [h, ← allP_f hk h2]; rfl
theorem codeP_0 (h : layAll n p c = true) (h2 : ∀ k, k < n → p k = q) : 0 = codeP n p c q := by unfold codeP; rw [h, ← allP_t h2]; rfl
theorem codeP_spec (h : codeP n p c q = 0) : layAll n p c = true ∧ ∀ k, k < n → p k = q := by
  unfold codeP at h
  cases h1 : layAll n p c with
  | false => rw [h1] at h; cases h
  | true =>
    cases h2 : allP n p q with
    | false => rw [h1, h2] at h; cases h
    | true =>
      refine ⟨rfl, fun k hk => ?_⟩
      unfold allP at h2
      rw [List.all_eq_true] at h2
      simpa using h2 k (by simpa using hk)
theorem first_codeP : firstZ 2 (fun i => [!layAll n p c, !allP n p q].getD i false) (fun i => [1, 4].getD i 0) = ((codeP n p c q : Nat) : Int) := by
  rw [firstZ2]; unfold codeP
  cases layAll n p c <;> cases allP n p q <;> rfl
end
/-! ### pictures: one bit a cell -/
def picF (q : Nat → Bool) : Nat → Nat
  | 0 => 0
  | k + 1 => bif q k then picF q k ||| ((1 <<< k) % 18446744073709551616) else picF q k
theorem picF_lt (q : Nat → Bool) : ∀ k, picF q k < 18446744073709551616
  | 0 => by show 0 < 18446744073709551616; decide
  | k + 1 => by
    rw [picF]
    cases q k with
    | true => exact or_lt_u64 (picF_lt q k) (Nat.mod_lt _ (by decide))
    | false => exact picF_lt q k
theorem picF_t {q : Nat → Bool} {k v : Nat} (hv : v = picF q k) (h : q k = true) : v ||| ((1 <<< k) % 18446744073709551616) = picF q (k + 1) := by rw [picF, h, hv]; rfl
theorem picF_f {q : Nat → Bool} {k v : Nat} (hv : v = picF q k) (h : q k = false) : v = picF q (k + 1) := by rw [picF, h, hv]; rfl
def pic (q : Nat → Bool) : Nat := picF q 64
theorem lit_p1 {p : Int} (h : -128 ≤ p ∧ p ≤ 127) : ∀ i, i < 1 → -128 ≤ [p].getD i 0 ∧ [p].getD i 0 ≤ 127 := by
  intro i hi
  obtain rfl : i = 0 := by omega
  exact h
theorem sh_f {c : Nat} {u : Nat} (h : ¬ c = 0) : Value.tuple #[.int .u64 0, .int .i64 (c : Int)] = .tuple #[.int .u64 ((selN c u : Nat) : Int), .int .i64 (c : Int)] := by unfold selN; rw [if_neg h]; rfl
theorem sh_t {c : Nat} {u : Nat} (h : c = 0) : Value.tuple #[.int .u64 (u : Int), .int .i64 0] = .tuple #[.int .u64 ((selN c u : Nat) : Int), .int .i64 (c : Int)] := by unfold selN; rw [if_pos h, h]; rfl
theorem lit_p2 {p q : Int} (h : -128 ≤ p ∧ p ≤ 127) (h2 : -128 ≤ q ∧ q ≤ 127) : ∀ i, i < 2 → -128 ≤ [p, q].getD i 0 ∧ [p, q].getD i 0 ≤ 127 := by
  intro i hi
  rcases (show i = 0 ∨ i = 1 by omega) with rfl | rfl
  · exact h
  · exact h2
/-! ### stacks -/
theorem layV_mix {p : Int} {f g : Nat → Nat} : layV p (mixF f g 64) = layV p f := layV_congr rfl fun j hj => mix_lo hj
def orC (c : Nat → Nat → Nat) : Nat → Nat → Nat
  | 0, _ => 0
  | n + 1, k => orC c n k ||| c n k
theorem orC_lt {c : Nat → Nat → Nat} (h : ∀ i k, c i k < 256) : ∀ n k, orC c n k < 256
  | 0, _ => by show 0 < 256; decide
  | n + 1, k => or_lt_u8 (orC_lt h n k) (h n k)
theorem st_or (c : Nat → Nat → Nat) (i k : Nat) : (mixF (orC c (i + 1)) (orC c i) k k ||| c i k) = orC c (i + 1) k := by rw [mix_at]; rfl
theorem orC_1 (c : Nat → Nat → Nat) : orC c 1 = c 0 := by funext k; simp [orC]
theorem orC_next {c : Nat → Nat → Nat} {i k v : Nat} (h : v = orC c i k) : v ||| c i k = orC c (i + 1) k := by rw [h]; rfl
/-! ### marks of several layers -/
def mksC (n : Nat) (p : Nat → Int) (c : Nat → Nat → Nat) : Nat := bif layAll n p c then (if n ≤ 8 then 0 else 2) else 1
section
variable {n : Nat} {p : Nat → Int} {c : Nat → Nat → Nat}
theorem mksC_1 (h : layAll n p c = false) : mksC n p c = 1 := by unfold mksC; rw [h]; rfl
theorem mksC_2e (h : layAll n p c = true) (h2 : ¬ n ≤ 8) : mksC n p c = 2 := by unfold mksC; rw [h, cond_true, if_neg h2]
theorem mksC_2 (h2 : ¬ n ≤ 8) : ¬ mksC n p c = 0 := by unfold mksC; cases layAll n p c <;> simp [h2]
theorem mksC_0 (h : layAll n p c = true) (h2 : n ≤ 8) : mksC n p c = 0 := by unfold mksC; rw [h, cond_true, if_pos h2]
theorem mksC_spec (h : mksC n p c = 0) : layAll n p c = true ∧ n ≤ 8 := by
  unfold mksC at h
  cases hl : layAll n p c with
  | false => rw [hl] at h; cases h
  | true =>
    rw [hl, cond_true] at h
    by_cases h8 : n ≤ 8
    · exact ⟨rfl, h8⟩
    · rw [if_neg h8] at h; cases h
theorem first_mks : firstZ 2 (fun i => [(!layAll n p c), (decide (8 < ((n : Nat) : Int)))].getD i false) (fun i => [1, 2].getD i 0) = ((mksC n p c : Nat) : Int) := by
  rw [firstZ2]; unfold mksC
  by_cases h8 : n ≤ 8
  · rw [if_pos h8]
    have : ¬ (8 < ((n : Nat) : Int)) := by omega
    cases layAll n p c <;> simp [this]
  · rw [if_neg h8]
    have : (8 < ((n : Nat) : Int)) := by omega
    cases layAll n p c <;> simp [this]
end
attribute [irreducible] mksC
def fgQ (seed : Nat) (p : Nat → Int) (c : Nat → Nat → Nat) (d : Nat → Nat) : Nat → Bool := fun j => !decide (markK seed (p j) (c j) 64 = d j)
theorem fg_t {seed k : Nat} {p : Nat → Int} {c : Nat → Nat → Nat} {d : Nat → Nat} (h : ¬ markK seed (p k) (c k) 64 = d k) : fgQ seed p c d k = true := by unfold fgQ; rw [decide_eq_false h]; rfl
theorem fg_f {seed k : Nat} {p : Nat → Int} {c : Nat → Nat → Nat} {d : Nat → Nat} (h : markK seed (p k) (c k) 64 = d k) : fgQ seed p c d k = false := by unfold fgQ; rw [decide_eq_true h]; rfl
/-! ### shades -/
def shdC (e : Nat) (c d : Nat → Nat) : Nat := if e = 0 then (bif (List.range 64).all fun k => decide (4 ≤ pc (c k ||| d k)) then 0 else 8) else e
section
variable {e k : Nat} {c d u : Nat → Nat}
theorem shdC_f (h : ¬ e = 0) : shdC e c d = e := by unfold shdC; rw [if_neg h]
theorem shdC_8 (h : e = 0) (hk : k < 64) (h2 : ¬ 4 ≤ pc (c k ||| d k)) : shdC e c d = 8 := by
  have : ((List.range 64).all fun k => decide (4 ≤ pc (c k ||| d k))) = false := by
    rw [List.all_eq_false]; exact ⟨k, by simpa using hk, by simpa using h2⟩
  unfold shdC; rw [if_pos h, this]; rfl
theorem shdC_0 (h : e = 0) (h2 : ∀ k, k < 64 → 4 ≤ pc (c k ||| d k)) : shdC e c d = 0 := by
  have : ((List.range 64).all fun k => decide (4 ≤ pc (c k ||| d k))) = true := by
    rw [List.all_eq_true]; intro k hk; exact decide_eq_true (h2 k (by simpa using hk))
  unfold shdC; rw [if_pos h, this]; rfl
theorem shd_f (h : ¬ e = 0) : Value.tuple #[.agg (arrU .u8 64 fun _ => 0).toArray, .int .i64 (e : Int)] = .tuple #[.agg (arrU .u8 64 (selF (shdC e c d) fun k => pc (c k ||| d k) - 4)).toArray, .int .i64 ((shdC e c d : Nat) : Int)] := by
  rw [shdC_f h]; unfold selF; rw [if_neg h]
theorem shd_8 (h : e = 0) (hk : k < 64) (h2 : ¬ 4 ≤ pc (c k ||| d k)) : Value.tuple #[.agg (arrU .u8 64 fun _ => 0).toArray, .int .i64 8] = .tuple #[.agg (arrU .u8 64 (selF (shdC e c d) fun k => pc (c k ||| d k) - 4)).toArray, .int .i64 ((shdC e c d : Nat) : Int)] := by
  rw [shdC_8 h hk h2]; unfold selF; rw [if_neg (by decide)]; rfl
theorem shd_0 (h : e = 0) (h2 : ∀ k, k < 64 → 4 ≤ pc (c k ||| d k)) (h3 : ∀ k, k < 64 → u k = pc (c k ||| d k) - 4) : Value.tuple #[.agg (arrU .u8 64 u).toArray, .int .i64 0] = .tuple #[.agg (arrU .u8 64 (selF (shdC e c d) fun k => pc (c k ||| d k) - 4)).toArray, .int .i64 ((shdC e c d : Nat) : Int)] := by
  rw [shdC_0 h h2]; unfold selF; rw [if_pos rfl, arrU_congr h3]; rfl
end
/-! ### colours -/
def jcF (P : Nat → Nat) (k : Nat) : Nat → Nat
  | 0 => 0
  | i + 1 => jcF P k i ||| ((((P i >>> k) &&& 1) <<< i) % 256)
theorem jcF_lt (P : Nat → Nat) (k : Nat) : ∀ i, jcF P k i < 256
  | 0 => by show 0 < 256; decide
  | i + 1 => or_lt_u8 (jcF_lt P k i) (Nat.mod_lt _ (by decide))
theorem upd_upd {α : Type} (c : Nat → α) (k : Nat) (u v : α) : upd (upd c k u) k v = upd c k v := by
  funext r; unfold upd; split <;> rfl
theorem jc_t {P : Nat → Nat} {k i : Nat} (h : (P i >>> k) &&& 1 = 1) : (jcF P k i ||| ((1 <<< i) % 256)) = jcF P k (i + 1) := by rw [jcF, h]
theorem jc_f {P : Nat → Nat} {k i : Nat} (h : ¬ (P i >>> k) &&& 1 = 1) : jcF P k i = jcF P k (i + 1) := by
  have : (P i >>> k) &&& 1 = 0 := by have q : (P i >>> k) &&& 1 ≤ 1 := Nat.and_le_right; omega
  rw [jcF, this]; simp
theorem jc_start (P : Nat → Nat) (k : Nat) : mixF (fun j => jcF P j 3) (fun _ => 0) k = upd (mixF (fun j => jcF P j 3) (fun _ => 0) k) k (jcF P k 0) := by
  funext r
  by_cases h : r = k
  · subst h; rw [upd_same, mix_at]; rfl
  · rw [upd_ne h]
def clP (c : Nat → Nat → Nat) (i : Nat) : Nat := pic (fun r => decide ((2 : Int) ≤ ((pc (orC (fun j => c (2 * i + j)) 2 r) : Nat) : Int)))
theorem jcF_congr {P R : Nat → Nat} (k : Nat) : ∀ i, (∀ j, j < i → P j = R j) → jcF P k i = jcF R k i
  | 0, _ => rfl
  | i + 1, h => by rw [jcF, jcF, jcF_congr k i (fun j hj => h j (by omega)), h i (by omega)]
theorem col_f {e : Nat} {f : Nat → Nat} (h : ¬ e = 0) : Value.tuple #[.agg (arrU .u8 64 fun _ => 0).toArray, .int .i64 (e : Int)] = .tuple #[.agg (arrU .u8 64 (selF e f)).toArray, .int .i64 (e : Int)] := by unfold selF; rw [if_neg h]
theorem col_t {e : Nat} {P : Nat → Nat} {c : Nat → Nat → Nat} (h : e = 0) (hg : ∀ j, j < 3 → P j = clP c j) : Value.tuple #[.agg (arrU .u8 64 fun j => jcF P j 3).toArray, .int .i64 0] = .tuple #[.agg (arrU .u8 64 (selF e fun j => jcF (clP c) j 3)).toArray, .int .i64 (e : Int)] := by
  unfold selF; rw [if_pos h, h, show (fun j => jcF P j 3) = fun j => jcF (clP c) j 3 from funext fun j => jcF_congr j 3 hg]; rfl
attribute [irreducible] codeP
end Go.Proofs.Ytagghfllgafmgaa
