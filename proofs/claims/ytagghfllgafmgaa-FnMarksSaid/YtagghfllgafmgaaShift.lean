/-
  Plain laws: layers moved to a side, contrasts, the best move.
-/
import Derived.Test.YtagghfllgafmgaaCov
import Derived.Test.YtagghfllgafmgaaDraw
import Derived.Test.YtagghfllgafmgaaKeep
namespace Go.Proofs.Ytagghfllgafmgaa
set_option linter.unusedVariables false
set_option linter.unusedSimpArgs false
open Go.RowKit
def shI (k : Nat) (u v : Int) : Int := if (0 ≤ ((k % 8 : Nat) : Int) - u ∧ ((k % 8 : Nat) : Int) - u ≤ 7) ∧ (0 ≤ ((k / 8 : Nat) : Int) - v ∧ ((k / 8 : Nat) : Int) - v ≤ 7) then ((k % 8 : Nat) : Int) - u + 8 * (((k / 8 : Nat) : Int) - v) else -1
def shC (d : Nat → Nat) (u v : Int) : Nat → Nat := fun k => if 0 ≤ shI k u v then d (shI k u v).toNat else 0
theorem shI_lt (k : Nat) (u v : Int) : shI k u v < 64 ∧ -1 ≤ shI k u v := by unfold shI; split <;> omega
theorem shC_t {d : Nat → Nat} {k m : Nat} {u v : Int} (h : shI k u v = (m : Int)) : d m = shC d u v k := by unfold shC; rw [h, if_pos (by omega)]; rfl
theorem shC_f {d : Nat → Nat} {k : Nat} {u v : Int} (h : ¬ 0 ≤ shI k u v) : shC d u v k = 0 := by unfold shC; rw [if_neg h]
theorem shC_lt {d : Nat → Nat} (hd : ∀ k, d k < 256) (u v : Int) : ∀ k, shC d u v k < 256 := fun k => by
  unfold shC; split
  · exact hd _
  · decide
theorem shC_pow {d : Nat → Nat} {p : Nat} (hd : ∀ k, k < 64 → d k < 2 ^ p) (u v : Int) : ∀ k, k < 64 → shC d u v k < 2 ^ p := fun k _ => by
  unfold shC; split
  · have := shI_lt k u v; exact hd _ (by omega)
  · exact Nat.two_pow_pos p
theorem sh_s {d e : Nat → Nat} {k : Nat} (hg : ∀ j, j < k → e j = d j) (hz : ∀ j, k ≤ j → e j = 0) (h : d k = 0) : ∀ j, j < k + 1 → e j = d j := fun j hj => by
  rcases Nat.lt_or_ge j k with h1 | h1
  · exact hg j h1
  · obtain rfl : j = k := by omega
    rw [h]; exact hz j h1
theorem sh_z {e : Nat → Nat} {k v : Nat} (hz : ∀ j, k ≤ j → e j = 0) : ∀ j, k + 1 ≤ j → upd e k v j = 0 := fun j hj => by rw [upd_ne (by omega)]; exact hz j (by omega)
/-! ### contrasts -/
def mnF (q : Nat) (d : Nat → Nat) : Nat → Nat
  | 0 => 8
  | k + 1 => bif bitB q k then min (mnF q d k) (pc (d k)) else mnF q d k
def mxF' (q : Nat) (d : Nat → Nat) : Nat → Nat
  | 0 => 0
  | k + 1 => bif bitB q k then mxF' q d k else max (mxF' q d k) (pc (d k))
def conZ (q : Nat) (d : Nat → Nat) : Int := ((mnF q d 64 : Nat) : Int) - ((mxF' q d 64 : Nat) : Int)
section
variable {q k x y : Nat} {d : Nat → Nat}
theorem mn_t (h : x = mnF q d k) (hb : bitB q k = true) : min x (pc (d k)) = mnF q d (k + 1) := by rw [mnF, hb, h]; rfl
theorem mn_f (h : x = mnF q d k) (hb : bitB q k = false) : x = mnF q d (k + 1) := by rw [mnF, hb, h]; rfl
theorem mx_t (h : y = mxF' q d k) (hb : bitB q k = true) : y = mxF' q d (k + 1) := by rw [mxF', hb, h]; rfl
theorem mx_f (h : y = mxF' q d k) (hb : bitB q k = false) : max y (pc (d k)) = mxF' q d (k + 1) := by rw [mxF', hb, h]; rfl
theorem con_e (hx : x = mnF q d 64) (hy : y = mxF' q d 64) : ((x : Nat) : Int) - ((y : Nat) : Int) = conZ q d := by rw [conZ, hx, hy]
theorem mnF_le (q : Nat) (d : Nat → Nat) : ∀ k, mnF q d k ≤ 8
  | 0 => Nat.le_refl _
  | k + 1 => by
    have := mnF_le q d k
    rw [mnF]; cases bitB q k <;> simp only [cond_true, cond_false] <;> omega
theorem mxF'_le {d : Nat → Nat} (hd : ∀ k, d k < 256) (q : Nat) : ∀ k, mxF' q d k ≤ 8
  | 0 => Nat.zero_le _
  | k + 1 => by
    have := mxF'_le hd q k
    have := pc_le8 (hd k)
    rw [mxF']; cases bitB q k <;> simp only [cond_true, cond_false] <;> omega
theorem con_bd {d : Nat → Nat} (hd : ∀ k, d k < 256) (q : Nat) : -8 ≤ conZ q d ∧ conZ q d ≤ 8 := by
  have := mnF_le q d 64
  have := mxF'_le hd q 64
  unfold conZ; omega
end
/-! ### the best move -/
def stk2 (c d : Nat → Nat) : Nat → Nat := orC (fun i => [c, d].getD i (fun _ => 0)) 2
def bsF (q : Nat) (c d : Nat → Nat) : Nat → Int × Int × Int
  | 0 => (0, 0, -9)
  | m + 1 => if (bsF q c d m).2.2 < conZ q (stk2 c (shC d (((m / 5 : Nat) : Int) - 2) (((m % 5 : Nat) : Int) - 2))) then (((m / 5 : Nat) : Int) - 2, ((m % 5 : Nat) : Int) - 2, conZ q (stk2 c (shC d (((m / 5 : Nat) : Int) - 2) (((m % 5 : Nat) : Int) - 2)))) else bsF q c d m
section
variable {q i j : Nat} {c d : Nat → Nat} {x y z u v : Int}
theorem bs_t (h : bsF q c d (5 * i + j) = (x, y, z)) (hj : j < 5) (hu : u = (i : Int) - 2) (hv : v = (j : Int) - 2) (hz : z < conZ q (stk2 c (shC d u v))) : bsF q c d (5 * i + (j + 1)) = (u, v, conZ q (stk2 c (shC d u v))) := by
  subst hu hv
  rw [← Nat.add_assoc, bsF, h, show (5 * i + j) / 5 = i by omega, show (5 * i + j) % 5 = j by omega, if_pos hz]
theorem bs_f (h : bsF q c d (5 * i + j) = (x, y, z)) (hj : j < 5) (hu : u = (i : Int) - 2) (hv : v = (j : Int) - 2) (hz : ¬ z < conZ q (stk2 c (shC d u v))) : bsF q c d (5 * i + (j + 1)) = (x, y, z) := by
  subst hu hv
  rw [← Nat.add_assoc, bsF, h, show (5 * i + j) / 5 = i by omega, show (5 * i + j) % 5 = j by omega, if_neg hz]
end
def bsC (p : Int) (c : Nat → Nat) (r : Int) (d : Nat → Nat) (q : Nat) : Nat := bif layOk p c && layOk r d then (if p = r then (if q = 0 ∨ q = 18446744073709551615 then 6 else 0) else 4) else 1
section
variable {p r : Int} {c d : Nat → Nat} {q : Nat}
theorem bsC_1 (h : layOk p c = false ∨ layOk r d = false) : bsC p c r d q = 1 := by
  unfold bsC; rcases h with h | h <;> rw [h] <;> simp
theorem bsC_4 (h1 : layOk p c = true) (h2 : layOk r d = true) (h : ¬ p = r) : bsC p c r d q = 4 := by unfold bsC; rw [h1, h2, if_neg h]; rfl
theorem bsC_6 (h1 : layOk p c = true) (h2 : layOk r d = true) (h : p = r) (hq : ¬ (q ≠ 0 ∧ q ≠ 18446744073709551615)) : bsC p c r d q = 6 := by unfold bsC; rw [h1, h2, if_pos h, if_pos (by omega)]; rfl
theorem bsC_0 (h1 : layOk p c = true) (h2 : layOk r d = true) (h : p = r) (hq : q ≠ 0 ∧ q ≠ 18446744073709551615) : bsC p c r d q = 0 := by unfold bsC; rw [h1, h2, if_pos h, if_neg (by omega)]; rfl
theorem bsC_spec (h : bsC p c r d q = 0) : layOk p c = true ∧ layOk r d = true ∧ p = r ∧ (q ≠ 0 ∧ q ≠ 18446744073709551615) := by
  unfold bsC at h
  cases h1 : layOk p c <;> cases h2 : layOk r d <;> rw [h1, h2] at h <;> simp at h
  refine ⟨rfl, rfl, ?_⟩
  by_cases hpr : p = r
  · rw [if_pos hpr] at h; refine ⟨hpr, ?_⟩
    split at h
    · exact absurd h (by omega)
    · omega
  · rw [if_neg hpr] at h; exact absurd h (by omega)
theorem first_bsC (hq : q < 18446744073709551616) (b : Bool) (hb : b = (layOk p c && layOk r d)) (e : Bool) (he : e = decide (q = 0 ∨ q = 18446744073709551615)) : firstZ 3 (fun i => [!b, !decide (p = r), e].getD i false) (fun i => [1, 4, 6].getD i 0) = ((bsC p c r d q : Nat) : Int) := by
  rw [firstZ3, hb, he]; unfold bsC
  cases layOk p c && layOk r d
  · rfl
  · by_cases hpr : p = r
    · rw [decide_eq_true hpr, if_pos hpr]
      by_cases hq : q = 0 ∨ q = 18446744073709551615
      · rw [decide_eq_true hq, if_pos hq]; rfl
      · rw [decide_eq_false hq, if_neg hq]; rfl
    · rw [decide_eq_false hpr, if_neg hpr]; rfl
end
theorem bs_er {C : Nat} {a b e u : Int} (h : ¬ C = 0) (hu : u = (C : Int)) : Value.tuple #[.int .i64 0, .int .i64 0, .int .i64 0, .int .i64 u] = .tuple #[.int .i64 (selZ C a), .int .i64 (selZ C b), .int .i64 (selZ C e), .int .i64 (C : Int)] := by unfold selZ; rw [if_neg h, if_neg h, if_neg h, hu]
theorem bs_ok {C : Nat} {P : Int × Int × Int} {x y z : Int} (h : C = 0) (hP : P = (x, y, z)) : Value.tuple #[.int .i64 x, .int .i64 y, .int .i64 z, .int .i64 0] = .tuple #[.int .i64 (selZ C P.1), .int .i64 (selZ C P.2.1), .int .i64 (selZ C P.2.2), .int .i64 (C : Int)] := by unfold selZ; subst hP; rw [if_pos h, if_pos h, if_pos h, h]; rfl
theorem layOk_stk {p r : Int} {c d : Nat → Nat} (h1 : layOk p c = true) (h2 : layOk r d = true) (hpr : p = r) (u v : Int) : layOk p (stk2 c (shC d u v)) = true := by
  subst hpr
  rw [layOk_iff] at *
  refine ⟨h1.1, fun k hk => ?_⟩
  have e1 := h1.2 k hk
  have e2 := shC_pow h2.2 u v k hk
  show (0 ||| c k) ||| shC d u v k < _
  rw [Nat.zero_or]
  exact Nat.or_lt_two_pow e1 e2
theorem bs_t2 {q i j : Nat} {c d : Nat → Nat} {x y z u v : Int} (h : ∃ z1, bsF q c d (5 * i + j) = (x, y, z1) ∧ (z = z1 ∨ (z = -100 ∧ z1 = -9))) (hj : j < 5) (hu : u = (i : Int) - 2) (hv : v = (j : Int) - 2) (hz : z < conZ q (stk2 c (shC d u v))) (hb : -8 ≤ conZ q (stk2 c (shC d u v)) ∧ conZ q (stk2 c (shC d u v)) ≤ 8) :
    ∃ z1, bsF q c d (5 * i + (j + 1)) = (u, v, z1) ∧ (conZ q (stk2 c (shC d u v)) = z1 ∨ (conZ q (stk2 c (shC d u v)) = -100 ∧ z1 = -9)) := by
  obtain ⟨z1, h1, h2⟩ := h
  exact ⟨_, bs_t h1 hj hu hv (by omega), .inl rfl⟩
theorem bs_f2 {q i j : Nat} {c d : Nat → Nat} {x y z u v : Int} (h : ∃ z1, bsF q c d (5 * i + j) = (x, y, z1) ∧ (z = z1 ∨ (z = -100 ∧ z1 = -9))) (hj : j < 5) (hu : u = (i : Int) - 2) (hv : v = (j : Int) - 2) (hz : ¬ z < conZ q (stk2 c (shC d u v))) (hb : -8 ≤ conZ q (stk2 c (shC d u v)) ∧ conZ q (stk2 c (shC d u v)) ≤ 8) :
    ∃ z1, bsF q c d (5 * i + (j + 1)) = (x, y, z1) ∧ (z = z1 ∨ (z = -100 ∧ z1 = -9)) := by
  obtain ⟨z1, h1, h2⟩ := h
  exact ⟨_, bs_f h1 hj hu hv (by omega), h2⟩
theorem bsF_bd {q : Nat} {c d : Nat → Nat} (hc : ∀ k, c k < 256) (hd : ∀ k, d k < 256) : ∀ m, 0 < m → -8 ≤ (bsF q c d m).2.2
  | 0, h => absurd h (Nat.lt_irrefl _)
  | m + 1, _ => by
    have hb := con_bd (d := stk2 c (shC d (((m / 5 : Nat) : Int) - 2) (((m % 5 : Nat) : Int) - 2))) (orC_lt (lit_lt2 hc (shC_lt hd _ _)) 2) q
    rw [bsF]
    split
    · exact hb.1
    · rename_i h; omega
theorem bs_fin {q : Nat} {c d : Nat → Nat} {x y z : Int} (hc : ∀ k, c k < 256) (hd : ∀ k, d k < 256) (h : ∃ z1, bsF q c d 25 = (x, y, z1) ∧ (z = z1 ∨ (z = -100 ∧ z1 = -9))) : bsF q c d 25 = (x, y, z) := by
  obtain ⟨z1, h1, h2⟩ := h
  have := bsF_bd (q := q) hc hd 25 (by decide)
  rw [h1] at this
  rcases h2 with rfl | ⟨_, rfl⟩
  · exact h1
  · exact absurd this (show ¬ ((-8 : Int) ≤ -9) by decide)
attribute [irreducible] shI bsC conZ
end Go.Proofs.Ytagghfllgafmgaa
