/-
  Plain laws: schemes, their weights and gaps, the first complaint of a list.
-/
import Derived.Test.YtagghfllgafmgaaSl
import Derived.Test.YtagghfllgafmgaaDefs
namespace Go.Proofs.Ytagghfllgafmgaa
set_option linter.unusedVariables false
set_option linter.unusedSimpArgs false
open Go.RowKit

/-! ### valid schemes -/
def rowOk (s p x k : Nat) : Prop := x < 2 ^ p ∧ (s ≤ k → x = 0)
instance (s p x k : Nat) : Decidable (rowOk s p x k) := inferInstanceAs (Decidable (_ ∧ _))
def schOk (s p : Int) (a b : Nat → Nat) : Bool := decide (1 ≤ s ∧ s ≤ 6) && (decide (1 ≤ p ∧ p ≤ 8) && (List.range 6).all fun k => decide (rowOk s.toNat p.toNat (a k ||| b k) k))
theorem schOk_f1 {s p : Int} {a b : Nat → Nat} (h : ¬ (1 ≤ s ∧ s ≤ 6)) : false = schOk s p a b := by unfold schOk; rw [decide_eq_false h]; rfl
theorem schOk_f2 {s p : Int} {a b : Nat → Nat} (h : ¬ (1 ≤ p ∧ p ≤ 8)) : false = schOk s p a b := by unfold schOk; rw [decide_eq_false h, Bool.false_and, Bool.and_false]
theorem schOk_f3 {s p k : Nat} {a b : Nat → Nat} (hk : k < 6) (h : ¬ rowOk s p (a k ||| b k) k) : false = schOk s p a b := by
  have : ((List.range 6).all fun k => decide (rowOk ((s : Int)).toNat ((p : Int)).toNat (a k ||| b k) k)) = false := by
    rw [List.all_eq_false]
    exact ⟨k, by simpa using hk, by simpa using h⟩
  unfold schOk; rw [this, Bool.and_false, Bool.and_false]
theorem schOk_t {s p : Nat} {a b : Nat → Nat} (hs : 1 ≤ (s : Int) ∧ (s : Int) ≤ 6) (hp : 1 ≤ (p : Int) ∧ (p : Int) ≤ 8) (h : ∀ k, k < 6 → rowOk s p (a k ||| b k) k) : true = schOk s p a b := by
  have : ((List.range 6).all fun k => decide (rowOk ((s : Int)).toNat ((p : Int)).toNat (a k ||| b k) k)) = true := by
    rw [List.all_eq_true]
    intro k hk
    exact decide_eq_true (h k (by simpa using hk))
  unfold schOk; rw [this, decide_eq_true hs, decide_eq_true hp]; rfl
theorem schOk_spec {s p : Int} {a b : Nat → Nat} (h : schOk s p a b = true) : (1 ≤ s ∧ s ≤ 6) ∧ (1 ≤ p ∧ p ≤ 8) ∧ ∀ k, k < 6 → rowOk s.toNat p.toNat (a k ||| b k) k := by
  unfold schOk at h
  simp only [Bool.and_eq_true, decide_eq_true_eq, List.all_eq_true, List.mem_range] at h
  exact ⟨h.1, h.2.1, h.2.2⟩

/-! ### ones -/
def pcF : Nat → Nat → Nat
  | 0, _ => 0
  | f + 1, x => (x &&& 1) + pcF f (x >>> 1)
theorem pcF_le : ∀ (f x : Nat), pcF f x ≤ f
  | 0, _ => Nat.le_refl _
  | f + 1, x => by
    have h1 : (x &&& 1) ≤ 1 := Nat.and_le_right
    have := pcF_le f (x >>> 1)
    unfold pcF; omega
theorem shr1 (x : Nat) : x >>> 1 = x / 2 := by rw [Nat.shiftRight_eq_div_pow]
theorem pcF_zero : ∀ f, pcF f 0 = 0
  | 0 => rfl
  | f + 1 => by unfold pcF; rw [show (0 >>> 1) = 0 from rfl, pcF_zero f]; rfl
theorem pcF_up : ∀ (f x : Nat), x < 2 ^ f → pcF (f + 1) x = pcF f x
  | 0, x, h => by have : x = 0 := by simpa using h
                  subst this; rfl
  | f + 1, x, h => by
    have h2 : x >>> 1 < 2 ^ f := by rw [shr1]; rw [Nat.pow_succ] at h; omega
    show (x &&& 1) + pcF (f + 1) (x >>> 1) = (x &&& 1) + pcF f (x >>> 1)
    rw [pcF_up f _ h2]
theorem pcF_ups (f d x : Nat) (h : x < 2 ^ f) : pcF (f + d) x = pcF f x := by
  induction d with
  | zero => rfl
  | succ d ih => rw [show f + (d + 1) = (f + d) + 1 from rfl, pcF_up (f + d) x (Nat.lt_of_lt_of_le h (Nat.pow_le_pow_right (by decide) (by omega))), ih]
def pc (x : Nat) : Nat := pcF 64 x
theorem pc_step {x : Nat} (h : x < 18446744073709551616) : pc x = (x &&& 1) + pc (x >>> 1) := by
  have := pcF_up 64 x (by simpa using h)
  unfold pc
  rw [← this]; rfl
theorem pc_le8 {x : Nat} (h : x < 256) : pc x ≤ 8 := by
  unfold pc
  rw [show 64 = 8 + 56 from rfl, pcF_ups 8 56 x (by simpa using h)]
  exact pcF_le 8 x
theorem pc_le (x : Nat) : pc x ≤ 64 := pcF_le 64 x
theorem pc_next {x c y : Nat} (hy : y < 18446744073709551616) (h : pc x = c + pc y) : pc x = c + (y &&& 1) + pc (y >>> 1) := by rw [h, pc_step hy]; omega
theorem tab_of (s : ByteArray) (h : ((List.range 256).all fun i => decide (s[i]? = some (UInt8.ofNat (pcF 64 i)))) = true) {i : Nat} (hi : i < 256) : s[i]? = some (UInt8.ofNat (pc i)) := by
  rw [List.all_eq_true] at h
  exact of_decide_eq_true (h i (by simpa using hi))
theorem tab_nat {x : Nat} (h : x < 256) : (UInt8.ofNat (pc x)).toNat = pc x := by
  have := pc_le8 h
  rw [UInt8.toNat_ofNat']
  exact Nat.mod_eq_of_lt (by omega)

/-! ### weights -/
def orS (t : Nat → Nat) (x : Nat) : Nat → Nat
  | 0 => 0
  | k + 1 => if (x >>> k) &&& 1 = 1 then orS t x k ||| t k else orS t x k
theorem orS_t {t : Nat → Nat} {x k v : Nat} (hv : v = orS t x k) (h : (x >>> k) &&& 1 = 1) : v ||| t k = orS t x (k + 1) := by rw [orS, if_pos h, hv]
theorem orS_f {t : Nat → Nat} {x k v : Nat} (hv : v = orS t x k) (h : ¬ (x >>> k) &&& 1 = 1) : v = orS t x (k + 1) := by rw [orS, if_neg h, hv]
theorem orS_lt {t : Nat → Nat} (ht : ∀ k, t k < 256) (x : Nat) : ∀ k, orS t x k < 256
  | 0 => by show 0 < 256; decide
  | k + 1 => by
    rw [orS]
    split
    · exact or_lt_u8 (orS_lt ht x k) (ht k)
    · exact orS_lt ht x k
def wt (t : Nat → Nat) (x : Nat) : Nat := pc (orS t x 6)
theorem wt_le {t : Nat → Nat} (ht : ∀ k, t k < 256) (x : Nat) : wt t x ≤ 8 := pc_le8 (orS_lt ht x 6)
def gapZ (a b : Nat → Nat) (x : Nat) : Int := (wt b x : Int) - (wt a x : Int)
theorem gapZ_bd {a b : Nat → Nat} (ha : ∀ k, a k < 256) (hb : ∀ k, b k < 256) (x : Nat) : -8 ≤ gapZ a b x ∧ gapZ a b x ≤ 8 := by
  have := wt_le ha x
  have := wt_le hb x
  unfold gapZ; omega
theorem gap_fit {a b : Nat → Nat} (ha : ∀ k, a k < 256) (hb : ∀ k, b k < 256) (x : Nat) : fitI .i64 ((wt b x : Int) - (wt a x : Int)) := by
  have := wt_le ha x
  have := wt_le hb x
  simp only [fitI]; omega

/-! ### the first complaint -/
def prV (n : Nat) (c : Nat → Bool) (e : Nat → Int) : List Value := recV n fun i => [.bool (c i), .int .i64 (e i)]
theorem prV_row (c : Nat → Bool) (e : Nat → Int) : ∀ i, ((fun i => [Value.bool (c i), Value.int .i64 (e i)]) i).length = 2 := fun _ => rfl
def firstF (c : Nat → Bool) (e : Nat → Int) : Nat → Nat → Int
  | 0, _ => 0
  | m + 1, k => bif c k then e k else firstF c e m (k + 1)
def firstZ (n : Nat) (c : Nat → Bool) (e : Nat → Int) : Int := firstF c e n 0
theorem firstF_t {c : Nat → Bool} {e : Nat → Int} {n k : Nat} (hk : k < n) (h : firstZ n c e = firstF c e (n - k) k) (hc : c k = true) : e k = firstZ n c e := by
  rw [h, show n - k = (n - k - 1) + 1 by omega, firstF, hc]; rfl
theorem firstF_f {c : Nat → Bool} {e : Nat → Int} {n k : Nat} (hk : k < n) (h : firstZ n c e = firstF c e (n - k) k) (hc : c k = false) : firstZ n c e = firstF c e (n - (k + 1)) (k + 1) := by
  rw [h, show n - k = (n - (k + 1)) + 1 by omega, firstF, hc]; rfl
theorem firstF_e {c : Nat → Bool} {e : Nat → Int} {n k : Nat} (hk : ¬ k < n) (h : firstZ n c e = firstF c e (n - k) k) : 0 = firstZ n c e := by
  rw [h, show n - k = 0 by omega]; rfl

theorem firstZ2 (c0 c1 : Bool) (e0 e1 : Int) : firstZ 2 (fun i => [c0, c1].getD i false) (fun i => [e0, e1].getD i 0) = bif c0 then e0 else bif c1 then e1 else 0 := rfl
theorem firstZ3 (c0 c1 c2 : Bool) (e0 e1 e2 : Int) : firstZ 3 (fun i => [c0, c1, c2].getD i false) (fun i => [e0, e1, e2].getD i 0) = bif c0 then e0 else bif c1 then e1 else bif c2 then e2 else 0 := rfl
theorem firstZ4 (c0 c1 c2 c3 : Bool) (e0 e1 e2 e3 : Int) : firstZ 4 (fun i => [c0, c1, c2, c3].getD i false) (fun i => [e0, e1, e2, e3].getD i 0) = bif c0 then e0 else bif c1 then e1 else bif c2 then e2 else bif c3 then e3 else 0 := rfl

/-! ### sets of shares -/
def isSetB (s : Int) (x : Nat) : Prop := 0 ≤ s ∧ bdiff x ((((1 <<< s.toNat) % 256) + 255) % 256) = 0
instance (s : Int) (x : Nat) : Decidable (isSetB s x) := inferInstanceAs (Decidable (_ ∧ _))
theorem isSetB_iff {s : Int} {x : Nat} (hs : 1 ≤ s ∧ s ≤ 6) (hx : x < 256) : isSetB s x ↔ x < 2 ^ s.toNat := by
  unfold isSetB
  rw [show (((1 <<< s.toNat) % 256) + 255) % 256 = 2 ^ s.toNat - 1 from mask_eq s.toNat (by omega), bdiff_mask hx (by omega)]
  constructor
  · exact fun h => h.2
  · exact fun h => ⟨by omega, h⟩
def asked (s p : Int) (a b : Nat → Nat) (x : Nat) : Nat := bif schOk s p a b then (if x < 2 ^ s.toNat then 0 else 2) else 1
theorem asked_1 {s p : Int} {a b : Nat → Nat} {x : Nat} (h : schOk s p a b = false) : 1 = asked s p a b x := by unfold asked; rw [h]; rfl
theorem asked_2 {s p : Int} {a b : Nat → Nat} {x : Nat} (h : schOk s p a b = true) (h2 : ¬ x < 2 ^ s.toNat) : 2 = asked s p a b x := by unfold asked; rw [h, if_neg h2]; rfl
theorem asked_0 {s p : Int} {a b : Nat → Nat} {x : Nat} (h : schOk s p a b = true) (h2 : x < 2 ^ s.toNat) : 0 = asked s p a b x := by unfold asked; rw [h, if_pos h2]; rfl
theorem asked_spec {s p : Int} {a b : Nat → Nat} {x : Nat} (h : asked s p a b x = 0) : schOk s p a b = true ∧ x < 2 ^ s.toNat := by
  unfold asked at h
  cases hs : schOk s p a b with
  | false => rw [hs] at h; cases h
  | true =>
    rw [hs] at h
    refine ⟨rfl, ?_⟩
    by_cases hx : x < 2 ^ s.toNat
    · exact hx
    · rw [if_neg hx] at h; cases h
theorem first_asked {s p : Int} {a b : Nat → Nat} {x : Nat} (hx : x < 256) : firstZ 2 (fun i => [!schOk s p a b, !decide (isSetB s x)].getD i false) (fun i => [1, 2].getD i 0) = ((asked s p a b x : Nat) : Int) := by
  unfold firstZ asked
  cases hs : schOk s p a b with
  | false => rfl
  | true =>
    have h1 := (schOk_spec hs).1
    by_cases h : x < 2 ^ s.toNat
    · have h2 : decide (isSetB s x) = true := decide_eq_true ((isSetB_iff h1 hx).2 h)
      rw [if_pos h, h2]; rfl
    · have h2 : decide (isSetB s x) = false := decide_eq_false (fun q => h ((isSetB_iff h1 hx).1 q))
      rw [if_neg h, h2]; rfl

/-! ### tables that fill from the front -/
def tabZ (g : Nat → Int) (k : Nat) : Nat → Int := fun j => if j < k then g j else 0
theorem tabZ_upd (g : Nat → Int) (k : Nat) : upd (tabZ g k) k (g k) = tabZ g (k + 1) := by
  funext j
  unfold upd tabZ
  by_cases h : j = k
  · subst h; simp
  · rw [if_neg h]
    by_cases h2 : j < k
    · rw [if_pos h2, if_pos (by omega)]
    · rw [if_neg h2, if_neg (by omega)]
theorem tabZ_zero (g : Nat → Int) : (fun _ => (0 : Int)) = tabZ g 0 := by funext j; unfold tabZ; rw [if_neg (by omega)]
attribute [irreducible] schOk asked gapZ pc wt
end Go.Proofs.Ytagghfllgafmgaa
