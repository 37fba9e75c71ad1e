/-
  Plain laws: what is told of schemes that serve a family.
-/
import Derived.Test.YtdlmbdclbnlmlaaFam
namespace Go.Proofs.Ytdlmbdclbnlmlaa
set_option linter.unusedVariables false
set_option linter.unusedSimpArgs false
open Go.RowKit
theorem tdiv2_fit {z : Int} (h : -9 ≤ z ∧ z ≤ 9) : fitI .i64 (z.tdiv 2) := by
  have h1 : z = -9 ∨ z = -8 ∨ z = -7 ∨ z = -6 ∨ z = -5 ∨ z = -4 ∨ z = -3 ∨ z = -2 ∨ z = -1 ∨ z = 0 ∨ z = 1 ∨ z = 2 ∨ z = 3 ∨ z = 4 ∨ z = 5 ∨ z = 6 ∨ z = 7 ∨ z = 8 ∨ z = 9 := by omega
  rcases h1 with rfl | rfl | rfl | rfl | rfl | rfl | rfl | rfl | rfl | rfl | rfl | rfl | rfl | rfl | rfl | rfl | rfl | rfl | rfl <;> (simp only [fitI]; decide)
/-! ### the sum of the gaps -/
def smF (a b : Nat → Nat) (f : Nat) : Nat → Int
  | 0 => 0
  | x + 1 => if bitB f x = true then smF a b f x + gapZ a b x else smF a b f x
def smZ (c : Nat → Int) : Nat → Int
  | 0 => 0
  | k + 1 => smZ c k + c k
theorem smZ_congr {c d : Nat → Int} : ∀ {n : Nat}, (∀ j, j < n → c j = d j) → smZ c n = smZ d n
  | 0, h => rfl
  | n + 1, h => by rw [smZ, smZ, smZ_congr (fun j hj => h j (by omega)), h n (Nat.lt_succ_self _)]
section
variable {a b : Nat → Nat} {f x : Nat} {v : Int}
theorem sm_t (h : v = smF a b f x) (hb : bitB f x = true) : v + gapZ a b x = smF a b f (x + 1) := by rw [smF, if_pos hb, h]
theorem sm_f (h : v = smF a b f x) (hb : bitB f x = false) : v = smF a b f (x + 1) := by rw [smF, if_neg (by rw [hb]; decide), h]
theorem sm_bd (ha : ∀ k, a k < 256) (hb : ∀ k, b k < 256) : ∀ n : Nat, -8 * (n : Int) ≤ smF a b f n ∧ smF a b f n ≤ 8 * (n : Int)
  | 0 => by unfold smF; omega
  | n + 1 => by
    have h1 := sm_bd ha hb n
    have h2 := gapZ_bd ha hb n
    rw [smF]; split <;> omega
theorem smZ_bd {c : Nat → Int} (h : ∀ j, -8 ≤ c j ∧ c j ≤ 8) : ∀ n : Nat, -8 * (n : Int) ≤ smZ c n ∧ smZ c n ≤ 8 * (n : Int)
  | 0 => by unfold smZ; omega
  | n + 1 => by
    have h1 := smZ_bd h n
    have h2 := h n
    rw [smZ]; omega
theorem sm_eq : ∀ k, smZ (fun j => gapZ a b (flA (bitB f) k j)) (flN (bitB f) k) = smF a b f k
  | 0 => rfl
  | k + 1 => by
    have ih := sm_eq k
    cases hq : bitB f k with
    | true =>
      have hn := flN_t (q := bitB f) rfl hq
      have hA := flA_t (q := bitB f) (g := gapZ a b) (u := fun j => gapZ a b (flA (bitB f) k j)) rfl (fun j hj => rfl) hq
      rw [← hn, smZ_congr (fun j hj => (hA j hj).symm), smZ, upd_same, smZ_congr (fun j hj => upd_ne (by omega)), ih, smF, if_pos hq]
    | false =>
      have hn := flN_f (q := bitB f) rfl hq
      have hA := flA_f (q := bitB f) (m := flN (bitB f) k) (g := gapZ a b) (u := fun j => gapZ a b (flA (bitB f) k j)) (fun j hj => rfl) hq
      rw [← hn, smF, if_neg (by rw [hq]; decide), ← ih]
      exact smZ_congr (fun j hj => (hA j hj).symm)
end
/-! ### how many bits -/
def pcS (f : Nat) : Nat → Nat
  | 0 => 0
  | k + 1 => pcS f k + ((f >>> k) &&& 1)
theorem pcS_low (f : Nat) : ∀ k, pcS f (k + 1) = (f &&& 1) + pcS (f >>> 1) k
  | 0 => by simp [pcS]
  | k + 1 => by rw [pcS, pcS_low f k, pcS, ← Nat.shiftRight_add, Nat.add_comm 1 k]; omega
theorem pc_pcS : ∀ (k f : Nat), f < 2 ^ k → f < 18446744073709551616 → pc f = pcS f k
  | 0, f, h, _ => by
    obtain rfl : f = 0 := by simpa using h
    unfold pc; rfl
  | k + 1, f, h, h2 => by
    have h3 : f >>> 1 < 2 ^ k := by rw [Nat.shiftRight_eq_div_pow]; exact Nat.div_lt_of_lt_mul (by rw [Nat.pow_succ] at h; omega)
    have h4 : f >>> 1 ≤ f := by rw [Nat.shiftRight_eq_div_pow]; exact Nat.div_le_self _ _
    rw [pc_step h2, pcS_low, pc_pcS k (f >>> 1) h3 (by omega)]
theorem fl_pcS (f : Nat) : ∀ k, flN (bitB f) k = pcS f k
  | 0 => rfl
  | k + 1 => by
    have hb : (f >>> k) &&& 1 ≤ 1 := Nat.and_le_right
    cases hq : bitB f k with
    | true =>
      have h1 : (f >>> k) &&& 1 = 1 := by unfold bitB at hq; exact of_decide_eq_true hq
      rw [← flN_t rfl hq, fl_pcS f k, pcS, h1]
    | false =>
      have h1 : ¬ (f >>> k) &&& 1 = 1 := by unfold bitB at hq; exact of_decide_eq_false hq
      rw [← flN_f rfl hq, fl_pcS f k, pcS, show (f >>> k) &&& 1 = 0 by omega]; rfl
theorem fam_pc {m : Int} {f : Nat} (h : famOk m f = true) (hf : f < 18446744073709551616) : pc f = flN (bitB f) (1 <<< m.toNat) := by
  have h1 : f < 2 ^ (1 <<< m.toNat) := by
    unfold famOk at h
    simp only [Bool.and_eq_true, decide_eq_true_eq] at h
    exact h.2.1
  rw [fl_pcS]; exact pc_pcS _ _ h1 hf
/-! ### ratios -/
theorem rat_f {C D : Nat} {N u : Int} (h : ¬ C = 0) (hu : u = (C : Int)) : Value.tuple #[.agg [.int .i16 0, .int .i16 0].toArray, .int .i64 u] = .tuple #[.agg [.int .i16 (selZ C N), .int .i16 ((selN C D : Nat) : Int)].toArray, .int .i64 (C : Int)] := by unfold selZ selN; rw [if_neg h, if_neg h, hu]; rfl
theorem rat_t {C D : Nat} {N : Int} (h : C = 0) : Value.tuple #[.agg [.int .i16 N, .int .i16 (D : Int)].toArray, .int .i64 0] = .tuple #[.agg [.int .i16 (selZ C N), .int .i16 ((selN C D : Nat) : Int)].toArray, .int .i64 (C : Int)] := by unfold selZ selN; rw [if_pos h, if_pos h, h]; rfl
end Go.Proofs.Ytdlmbdclbnlmlaa
