/-
  Plain laws: marks that differ, torn layers, the best move of layers that share a picture.
-/
import Derived.Test.YtagghfllgafmgaaShare
import Derived.Test.YtagghfllgafmgaaShift
import Derived.Test.YtagghfllgafmgaaSrc
namespace Go.Proofs.Ytagghfllgafmgaa
set_option linter.unusedVariables false
set_option linter.unusedSimpArgs false
open Go.RowKit
/-! ### marks -/
theorem mul_inv {a : Nat} (h : a < 4294967296) : (a * 16777619 % 4294967296 * 899433627) % 4294967296 = a := by
  rw [Nat.mod_mul_mod, Nat.mul_assoc, show 16777619 * 899433627 = 1 + 4294967296 * 3513497 from rfl, Nat.mul_add, Nat.mul_one, Nat.mul_left_comm, Nat.add_mul_mod_self_left]
  exact Nat.mod_eq_of_lt h
theorem mul_ne {a b : Nat} (ha : a < 4294967296) (hb : b < 4294967296) (h : a ≠ b) : a * 16777619 % 4294967296 ≠ b * 16777619 % 4294967296 := fun e => h (by
  have h1 := mul_inv ha
  rw [e, mul_inv hb] at h1
  exact h1.symm)
theorem xor_ne {a b c : Nat} (h : a ≠ b) : a ^^^ c ≠ b ^^^ c := fun e => h (by
  have := congrArg (· ^^^ c) e
  simpa [Nat.xor_assoc] using this)
section
variable {seed cell v : Nat} {p : Int} {c : Nat → Nat}
theorem mark_same : ∀ k, k ≤ cell → markK seed p (upd c cell v) k = markK seed p c k
  | 0, _ => rfl
  | k + 1, h => by rw [markK, markK, mark_same k (by omega), upd_ne (show k ≠ cell by omega)]
theorem mark_ne (hc : ∀ j, c j < 256) (hv : v < 256) (hne : v ≠ c cell) : ∀ d, markK seed p (upd c cell v) (cell + 1 + d) ≠ markK seed p c (cell + 1 + d)
  | 0 => by
    rw [Nat.add_zero, markK, markK, mark_same cell (Nat.le_refl _), upd_same]
    intro e
    rw [Nat.xor_comm _ v, Nat.xor_comm _ (c cell)] at e
    exact xor_ne hne e
  | d + 1 => by
    have hu := upd_lt (i := cell) hc hv
    rw [show cell + 1 + (d + 1) = (cell + 1 + d) + 1 by omega, markK, markK, upd_ne (show cell + 1 + d ≠ cell by omega)]
    exact xor_ne (mul_ne (markK_lt _ hu) (markK_lt _ hc) (mark_ne hc hv hne d))
theorem mark_64 (hc : ∀ j, c j < 256) (hcell : cell < 64) : markK seed p (upd c cell (c cell ^^^ 1)) 64 ≠ markK seed p c 64 := by
  have h1 : c cell ^^^ 1 ≠ c cell := fun e => by
    have := congrArg (c cell ^^^ ·) e
    simp [← Nat.xor_assoc] at this
  have := mark_ne (seed := seed) (p := p) hc (Nat.xor_lt_two_pow (n := 8) (hc cell) (by decide)) h1 (63 - cell)
  rwa [show cell + 1 + (63 - cell) = 64 by omega] at this
end
/-! ### what is picked out -/
theorem fl_all0 {q : Nat → Bool} : ∀ n, (∀ j, j < n → q j = false) → flN q n = 0
  | 0, _ => rfl
  | n + 1, h => by rw [← flN_f rfl (h n (by omega))]; exact fl_all0 n fun j hj => h j (by omega)
theorem fl_one' {q : Nat → Bool} {i : Nat} : ∀ n, i < n → (∀ j, j < n → q j = decide (j = i)) → flN q n = 1
  | 0, h, _ => absurd h (Nat.not_lt_zero _)
  | n + 1, h, hq => by
    by_cases e : n = i
    · subst e
      rw [← flN_t rfl (by rw [hq n (by omega)]; exact decide_eq_true rfl), fl_all0 n fun j hj => by rw [hq j (by omega)]; exact decide_eq_false (by omega)]
    · rw [← flN_f rfl (by rw [hq n (by omega)]; exact decide_eq_false e)]
      exact fl_one' n (by omega) fun j hj => hq j (by omega)
theorem fl_at {q : Nat → Bool} {i n : Nat} (h : i < n) (hq : ∀ j, j < n → q j = decide (j = i)) : flA q n 0 = i := by
  have h1 := fl_one' n h hq
  have hl := flA_lt q n 0 (by omega)
  have hm : flA q n 0 ∈ flL q n := by
    unfold flN at h1
    unfold flA; rw [List.getD_eq_getElem?_getD, List.getElem?_eq_getElem (by omega)]; exact List.getElem_mem _
  unfold flL at hm
  have := (List.mem_filter.1 hm).2
  rw [hq _ hl] at this
  exact of_decide_eq_true this
section
variable {s m x sd i seed cell : Nat} {a b : Nat → Nat} {P : Nat → Int} {C : Nat → Nat → Nat}
theorem forge_q (hC : ∀ u v, C u v < 256) (hcell : cell < 64) (j : Nat) : fgQ seed P (upd C i (upd (C i) cell (C i cell ^^^ 1))) (fun j => markK seed (P j) (C j) 64) j = decide (j = i) := by
  unfold fgQ
  by_cases h : j = i
  · subst h; rw [upd_same, decide_eq_false (mark_64 (hC j) hcell), decide_eq_true rfl]; rfl
  · rw [upd_ne h, decide_eq_true rfl, decide_eq_false h]; rfl
theorem none_q (j : Nat) : fgQ seed P C (fun j => markK seed (P j) (C j) 64) j = false := by unfold fgQ; rw [decide_eq_true rfl]; rfl
end
/-! ### all shares -/
theorem all_mask {s : Nat} (h : 1 ≤ s ∧ s ≤ 6) : (((1 <<< s) % 256) + 255) % 256 = 2 ^ s - 1 := by
  rcases (show s = 1 ∨ s = 2 ∨ s = 3 ∨ s = 4 ∨ s = 5 ∨ s = 6 by omega) with rfl | rfl | rfl | rfl | rfl | rfl <;> decide
theorem mask_bit {s k : Nat} : ((2 ^ s - 1) >>> k) &&& 1 = if k < s then 1 else 0 := by
  rw [bit1, Nat.testBit_two_pow_sub_one]
  by_cases h : k < s
  · rw [if_pos h, decide_eq_true h]; rfl
  · rw [if_neg h, decide_eq_false h]; rfl
theorem mask_B {s k : Nat} : bitB (2 ^ s - 1) k = decide (k < s) := by
  unfold bitB; rw [mask_bit]
  by_cases h : k < s
  · rw [if_pos h, decide_eq_true h]; rfl
  · rw [if_neg h, decide_eq_false h]; rfl
theorem mask_ok {s : Nat} (h : 1 ≤ s ∧ s ≤ 6) : setOk (s : Int) (2 ^ s - 1) := by
  have := Nat.two_pow_pos s
  have h2 : 2 ^ 1 ≤ 2 ^ s := Nat.pow_le_pow_right (by decide) h.1
  exact set_2 (by omega) (by omega)
/-- all rows of the first ones -/
def orA (t : Nat → Nat) : Nat → Nat
  | 0 => 0
  | k + 1 => orA t k ||| t k
theorem orA_congr {t u : Nat → Nat} : ∀ n, (∀ j, j < n → t j = u j) → orA t n = orA u n
  | 0, _ => rfl
  | n + 1, h => by rw [orA, orA, orA_congr n (fun j hj => h j (by omega)), h n (by omega)]
theorem orA_snoc {t : Nat → Nat} {k q v : Nat} (h : v = orA t k) : v ||| q = orA (upd t k q) (k + 1) := by
  rw [orA, upd_same, orA_congr (u := t) k fun j hj => upd_ne (by omega), h]
theorem orS_all {t : Nat → Nat} {s : Nat} : ∀ k, k ≤ s → orS t (2 ^ s - 1) k = orA t k
  | 0, _ => rfl
  | k + 1, h => by rw [orS, orA, mask_bit, if_pos (show k < s by omega), if_pos rfl, orS_all k (by omega)]
theorem orS_6 {t : Nat → Nat} {s : Nat} : ∀ d, orS t (2 ^ s - 1) (s + d) = orA t s
  | 0 => orS_all s (Nat.le_refl _)
  | d + 1 => by rw [← Nat.add_assoc, orS, mask_bit, if_neg (show ¬ s + d < s by omega), if_neg (by decide), orS_6 d]
theorem wt_all {t : Nat → Nat} {s : Nat} (h : s ≤ 6) : wt t (2 ^ s - 1) = pc (orA t s) := by
  have := orS_6 (t := t) (s := s) (6 - s)
  rw [show s + (6 - s) = 6 by omega] at this
  unfold wt; rw [this]
theorem flL_all {q : Nat → Bool} : ∀ n, (∀ j, j < n → q j = true) → flL q n = List.range n
  | 0, _ => rfl
  | n + 1, h => by rw [flL_t (h n (by omega)), flL_all n fun j hj => h j (by omega), List.range_succ]
theorem orC_orA {C : Nat → Nat → Nat} {r : Nat} : ∀ n, orC C n r = orA (fun i => C i r) n
  | 0 => rfl
  | n + 1 => by rw [orC, orA, orC_orA n]
theorem orA_rd {t o : Nat → Nat} {m : Nat} (hm : m ≤ 8) : ∀ n, orA (fun i => rdF (t i) o m) n = rdF (orA t n) o m
  | 0 => by
    show 0 = rdF 0 o m
    apply Nat.eq_of_testBit_eq; intro i
    rw [rdF_test _ _ _ m hm]; simp
  | n + 1 => by rw [orA, orA, orA_rd hm n, rdF_or _ _ _ hm]
theorem orA_pow {t : Nat → Nat} {m : Nat} : ∀ n, (∀ j, j < n → t j < 2 ^ m) → orA t n < 2 ^ m
  | 0, _ => Nat.two_pow_pos m
  | n + 1, h => Nat.or_lt_two_pow (orA_pow n fun j hj => h j (by omega)) (h n (by omega))
section
variable {s m x sd : Nat} {a b : Nat → Nat}
theorem torn_pic (hs : 1 ≤ s ∧ s ≤ 6) (hok : schOk (s : Int) (m : Int) a b = true) (hx : x < 18446744073709551616) (hg : 0 < gapZ a b (2 ^ s - 1)) : picT b s (dwC (shF a b x) m sd) (2 ^ s - 1) = x := by
  have hp := (schOk_spec hok).2.1
  have hm : m ≤ 8 := by omega
  have hpw := sch_pow hok
  unfold picT
  refine pic_is hx fun k hk => ?_
  have hall : flL (bitB (2 ^ s - 1)) s = List.range s := flL_all s fun j hj => by rw [mask_B]; exact decide_eq_true hj
  have hN : flN (bitB (2 ^ s - 1)) s = s := by unfold flN; rw [hall]; simp
  have hA : ∀ j, j < s → flA (bitB (2 ^ s - 1)) s j = j := fun j hj => by
    unfold flA; rw [hall, List.getD_eq_getElem?_getD, List.getElem?_range hj]; rfl
  have e : orC (pkC (2 ^ s - 1) s (dwC (shF a b x) m sd)) (flN (bitB (2 ^ s - 1)) s) k = rdF (orA (shF a b x k) s) (oOf m (sdK m sd k)) m := by
    rw [hN, orC_orA, ← orA_rd hm s]
    refine orA_congr s fun j hj => ?_
    unfold pkC; rw [hA j hj]; rfl
  have hlt : orA (shF a b x k) s < 2 ^ m := orA_pow s fun j hj => by
    unfold shF
    cases bitB x k
    · exact (hpw j (by omega)).1
    · exact (hpw j (by omega)).2
  rw [e, rdF_pc hm hlt]
  unfold gapZ at hg
  rw [wt_all hs.2, wt_all hs.2] at hg
  rw [wt_all hs.2]
  unfold shF
  cases bitB x k with
  | true => exact decide_eq_true (by show ((pc (orA b s) : Nat) : Int) ≤ ((pc (orA b s) : Nat) : Int); omega)
  | false => exact decide_eq_false (by show ¬ ((pc (orA b s) : Nat) : Int) ≤ ((pc (orA a s) : Nat) : Int); omega)
theorem rs_or {p : Int} (h : setOk p x) : rsC p a b x = 0 ∨ rsC p a b x = 8 := by
  by_cases hg : 0 < gapZ a b x
  · exact .inl (rsC_0 h hg)
  · exact .inr (rsC_8 h hg)
end
/-! ### the best move -/
theorem shC_00 {d : Nat → Nat} {k : Nat} (hk : k < 64) : shC d 0 0 k = d k := by
  have h : shI k 0 0 = ((k : Nat) : Int) := by unfold shI; rw [if_pos (by omega)]; omega
  exact (shC_t h).symm
theorem conZ_congr {q : Nat} {c d : Nat → Nat} (h : ∀ k, k < 64 → c k = d k) : conZ q c = conZ q d := by
  have h1 : ∀ n, n ≤ 64 → mnF q c n = mnF q d n ∧ mxF' q c n = mxF' q d n := by
    intro n
    induction n with
    | zero => intro _; exact ⟨rfl, rfl⟩
    | succ n ih =>
      intro hn
      obtain ⟨i1, i2⟩ := ih (by omega)
      rw [mnF, mnF, mxF', mxF', i1, i2, h n (by omega)]
      exact ⟨rfl, rfl⟩
  unfold conZ
  rw [(h1 64 (Nat.le_refl _)).1, (h1 64 (Nat.le_refl _)).2]
section
variable {q : Nat} {c d : Nat → Nat}
theorem bsF_own : ∀ m, m ≤ 25 → 0 < m → (∀ z, (∀ n, -8 ≤ conZ q (stk2 c (shC d z n))) → True) → (-9 < (bsF q c d m).2.2 → (bsF q c d m).2.2 = conZ q (stk2 c (shC d (bsF q c d m).1 (bsF q c d m).2.1)) ∧ -2 ≤ (bsF q c d m).1 ∧ (bsF q c d m).1 ≤ 2 ∧ -2 ≤ (bsF q c d m).2.1 ∧ (bsF q c d m).2.1 ≤ 2)
  | 0, _, h, _ => absurd h (Nat.lt_irrefl _)
  | m + 1, hm, _, _ => by
    rw [bsF]
    split
    · intro _; exact ⟨rfl, by dsimp only; omega, by dsimp only; omega, by dsimp only; omega, by dsimp only; omega⟩
    · rename_i hn
      intro h9
      cases m with
      | zero => exact absurd h9 (by show ¬ (-9 : Int) < -9; decide)
      | succ m => exact bsF_own (m + 1) (by omega) (by omega) (fun _ _ => trivial) h9
theorem bsF_ge : ∀ m n, n < m → conZ q (stk2 c (shC d (((n / 5 : Nat) : Int) - 2) (((n % 5 : Nat) : Int) - 2))) ≤ (bsF q c d m).2.2
  | 0, _, h => absurd h (Nat.not_lt_zero _)
  | m + 1, n, h => by
    rw [bsF]
    by_cases e : n = m
    · subst e
      split
      · exact Int.le_refl _
      · rename_i hn; omega
    · have ih := bsF_ge m n (by omega)
      split
      · rename_i hn; dsimp only; omega
      · exact ih
theorem best_all (hc : ∀ k, c k < 256) (hd : ∀ k, d k < 256) : (bsF q c d 25).2.2 = conZ q (stk2 c (shC d (bsF q c d 25).1 (bsF q c d 25).2.1)) ∧ (-2 ≤ (bsF q c d 25).1 ∧ (bsF q c d 25).1 ≤ 2) ∧ (-2 ≤ (bsF q c d 25).2.1 ∧ (bsF q c d 25).2.1 ≤ 2) ∧ conZ q (stk2 c d) ≤ (bsF q c d 25).2.2 := by
  have hb := bsF_bd (q := q) hc hd 25 (by decide)
  obtain ⟨h1, h2, h3, h4, h5⟩ := bsF_own (q := q) (c := c) (d := d) 25 (by decide) (by decide) (fun _ _ => trivial) (by omega)
  have h0 := bsF_ge (q := q) (c := c) (d := d) 25 12 (by decide)
  have e : conZ q (stk2 c (shC d (((12 / 5 : Nat) : Int) - 2) (((12 % 5 : Nat) : Int) - 2))) = conZ q (stk2 c d) := conZ_congr fun k hk => by
    show (0 ||| c k) ||| shC d 0 0 k = (0 ||| c k) ||| d k
    rw [shC_00 hk]
  rw [e] at h0
  exact ⟨h1, ⟨h2, h3⟩, ⟨h4, h5⟩, h0⟩
end
/-! ### codes of layers -/
def lcC (n : Nat) (p : Nat → Int) (c : Nat → Nat → Nat) : Nat := bif layAll n p c then (if 1 ≤ n ∧ n ≤ 8 then (bif allP n p (p 0) then 0 else 4) else 2) else 1
theorem rt_all {s p : Int} {a b : Nat → Nat} {n x m : Nat} {g : Nat → Int} {c : Nat → Nat → Nat} (h : bothC s p a b n g c = 0) (hm : m = n) : rtC s p a b n g c x m = rsC s a b x := (rtC_r h hm).trans (rwC_r h)
section
variable {s m : Nat} {a b : Nat → Nat} {C : Nat → Nat → Nat}
theorem rows_lay (hok : schOk (s : Int) (m : Int) a b = true) (hC : ∀ r, r < s → ∀ j, j < 64 → C r j < 2 ^ m) : layAll s (fun _ => ((m : Nat) : Int)) C = true := by
  obtain ⟨_, hp, _⟩ := schOk_spec hok
  exact (layAll_t fun r hr => layOk_iffN.2 ⟨by omega, hC r hr⟩).symm
theorem rows_both (hok : schOk (s : Int) (m : Int) a b = true) (hC : ∀ r, r < s → ∀ j, j < 64 → C r j < 2 ^ m) : bothC (s : Int) (m : Int) a b s (fun _ => ((m : Nat) : Int)) C = 0 := (bothC_0 hok (rows_lay hok hC) rfl fun _ _ => rfl).symm
theorem rows_lay2 {P : Nat → Int} (h : layAll s P C = true) (h2 : 2 ≤ s) : layAll 2 (fun i => P (0 + i)) (fun i => C (0 + i)) = true := by
  unfold layAll at *
  rw [List.all_eq_true] at *
  intro k hk
  have := h k (by simp at hk ⊢; omega)
  show layOk (P (0 + k)) (C (0 + k)) = true
  rw [Nat.zero_add]; exact this
theorem forge_pow {i cell : Nat} (h : ∀ r, r < s → ∀ j, j < 64 → C r j < 2 ^ m) (hi : i < s) (hcell : cell < 64) (hm : 1 ≤ m) : ∀ r, r < s → ∀ j, j < 64 → upd C i (upd (C i) cell (C i cell ^^^ 1)) r j < 2 ^ m := fun r hr j hj => by
  have h1 : 1 < 2 ^ m := Nat.one_lt_two_pow (by omega)
  by_cases e : r = i
  · subst e; rw [upd_same]
    by_cases e2 : j = cell
    · subst e2; rw [upd_same]; exact Nat.xor_lt_two_pow (h r hr j hj) h1
    · rw [upd_ne e2]; exact h r hr j hj
  · rw [upd_ne e]; exact h r hr j hj
end
theorem lay2 {p r : Int} {c d : Nat → Nat} (h1 : layOk p c = true) (h2 : layOk r d = true) : layAll 2 (fun z_ => [p, r].getD z_ 0) (fun z_ => [c, d].getD z_ (fun _ => 0)) = true := by
  refine (layAll_t fun k hk => ?_).symm
  rcases (show k = 0 ∨ k = 1 by omega) with rfl | rfl
  · exact h1
  · exact h2
theorem shC_ok {p : Int} {d : Nat → Nat} {u v : Int} (h : layOk p d = true) : layOk p (shC d u v) = true := by
  rw [layOk_iff] at *
  exact ⟨h.1, shC_pow h.2 u v⟩
theorem stk_ok {p : Int} {C : Nat → Nat → Nat} (h1 : layOk p (C 0) = true) (h2 : layOk p (C 1) = true) : layOk p (orC (fun i => C (0 + i)) 2) = true := by
  rw [layOk_iff] at *
  refine ⟨h1.1, fun k hk => ?_⟩
  show (0 ||| C 0 k) ||| C 1 k < _
  rw [Nat.zero_or]
  exact Nat.or_lt_two_pow (h1.2 k hk) (h2.2 k hk)
theorem allP2 {p : Int} : allP 2 (fun z_ => [p, p].getD z_ 0) ((fun z_ => [p, p].getD z_ 0) 0) = true := by
  refine (allP_t fun k hk => ?_).symm
  rcases (show k = 0 ∨ k = 1 by omega) with rfl | rfl <;> rfl
theorem allPc {p : Int} : allP 2 (fun i => (fun _ => p) (0 + i)) ((fun i => (fun _ => p) (0 + i)) 0) = true := (allP_t fun _ _ => rfl).symm
theorem selZ_0 {C : Nat} {u : Int} (h : C = 0) : selZ C u = u := by unfold selZ; rw [if_pos h]
theorem selZ_n {C : Nat} {u : Int} (h : ¬ C = 0) : selZ C u = 0 := by unfold selZ; rw [if_neg h]
theorem bs_6 {p : Int} {c d : Nat → Nat} {q : Nat} (h1 : layOk p c = true) (h2 : layOk p d = true) (h : ¬ bsC p c p d q = 0) : bsC p c p d q = 6 := bsC_6 h1 h2 rfl fun hq => h (bsC_0 h1 h2 rfl hq)
theorem swC_0 {s : Int} {x : Nat} (h : setOk s x) : swC s x = 0 := by unfold swC; rw [if_pos h]
theorem swC_2 {s : Int} {x : Nat} (h : ¬ setOk s x) : swC s x = 2 := by unfold swC; rw [if_neg h]
theorem lc_0 {e1 e2 e3 : Bool} (h1 : e1 = false) (h2 : e2 = false) (h3 : e3 = false) : firstZ 3 (fun i => [e1, e2, e3].getD i false) (fun i => [1, 2, 4].getD i 0) = 0 := by subst h1 h2 h3; rfl
/-! ### one row behind another -/
def apF (n : Nat) (u v : Nat → Nat) : Nat → Nat := fun j => if j < n then u j else v (j - n)
theorem apF_lt {n B : Nat} {u v : Nat → Nat} (hu : ∀ j, u j < B) (hv : ∀ j, v j < B) : ∀ j, apF n u v j < B := fun j => by
  unfold apF; split
  · exact hu j
  · exact hv _
theorem arrU_app {k : IntKind} {n m : Nat} {u v : Nat → Nat} : arrU k n u ++ arrU k m v = arrU k (n + m) (apF n u v) := by
  apply List.ext_getElem?
  intro j
  by_cases h : j < n
  · rw [List.getElem?_append_left (by simpa [arrU] using h), arrU_get h, arrU_get (by omega)]; unfold apF; rw [if_pos h]
  · rw [List.getElem?_append_right (by simpa [arrU] using h)]
    have hl : (arrU k n u).length = n := by simp [arrU]
    rw [hl]
    by_cases h2 : j < n + m
    · rw [arrU_get (by omega), arrU_get h2]; unfold apF; rw [if_neg h]
    · rw [List.getElem?_eq_none (by simp [arrU]; omega), List.getElem?_eq_none (by simp [arrU]; omega)]
end Go.Proofs.Ytagghfllgafmgaa
