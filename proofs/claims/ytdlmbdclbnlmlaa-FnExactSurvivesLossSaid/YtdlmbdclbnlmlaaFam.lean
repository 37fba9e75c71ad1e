/-
  Plain laws: families of sets that may see; schemes that serve them.
-/
import Derived.Test.YtdlmbdclbnlmlaaSort
import Derived.Test.YtdlmbdclbnlmlaaCov
import Derived.Test.YtdlmbdclbnlmlaaHand
import Derived.Test.YtdlmbdclbnlmlaaDraw
namespace Go.Proofs.Ytdlmbdclbnlmlaa
set_option linter.unusedVariables false
set_option linter.unusedSimpArgs false
open Go.RowKit
theorem shl_bd {m : Nat} (h : m ≤ 6) : 1 <<< m ≤ 64 ∧ 0 < 1 <<< m := by
  rcases (show m = 0 ∨ m = 1 ∨ m = 2 ∨ m = 3 ∨ m = 4 ∨ m = 5 ∨ m = 6 by omega) with rfl | rfl | rfl | rfl | rfl | rfl | rfl <;> decide
theorem both_b {x : Bool} (h : x = true) (h2 : x = false) : False := by rw [h] at h2; cases h2
theorem sh62 {k : Nat} (h : k ≤ 6) : 1 * 2 ^ k < 9223372036854775808 := by
  have := (shl_bd h).1
  rw [Nat.one_shiftLeft] at this; omega
theorem shl_bd6 {m : Nat} (h : m < 6) : 1 <<< m ≤ 32 := by
  rcases (show m = 0 ∨ m = 1 ∨ m = 2 ∨ m = 3 ∨ m = 4 ∨ m = 5 by omega) with rfl | rfl | rfl | rfl | rfl | rfl <;> decide
def up1 (m f x : Nat) : Bool := (List.range m).all fun k => !(bitB f x && !bitB f (x ||| (1 <<< k)))
def famN (m f : Nat) : Bool := bitB f (1 <<< m - 1) && (!bitB f 0 && (List.range (1 <<< m)).all fun x => up1 m f x)
def famOk (m : Int) (f : Nat) : Bool := decide (1 ≤ m ∧ m ≤ 6) && (decide (f < 2 ^ (1 <<< m.toNat)) && famN m.toNat f)
section
variable {m f x k : Nat}
theorem fam_f1 {m : Int} (h : ¬ (1 ≤ m ∧ m ≤ 6)) : false = famOk m f := by unfold famOk; rw [decide_eq_false h]; rfl
theorem fam_f2 {m : Int} (h : ¬ f < 2 ^ (1 <<< m.toNat)) : false = famOk m f := by unfold famOk; rw [decide_eq_false h]; simp
theorem fam_f3 {m : Int} (h : bitB f (1 <<< m.toNat - 1) = false) : false = famOk m f := by unfold famOk famN; rw [h]; simp
theorem fam_f4 {m : Int} (h : bitB f 0 = true) : false = famOk m f := by unfold famOk famN; rw [h]; simp
theorem up1_f (hk : k < m) (h1 : bitB f x = true) (h2 : bitB f (x ||| (1 <<< k)) = false) : up1 m f x = false := by
  unfold up1
  rw [List.all_eq_false]
  exact ⟨k, by simpa using hk, by rw [h1, h2]; simp⟩
theorem fam_f5 {m : Int} (hx : x < 1 <<< m.toNat) (h : up1 m.toNat f x = false) : false = famOk m f := by
  have : ((List.range (1 <<< m.toNat)).all fun x => up1 m.toNat f x) = false := by
    rw [List.all_eq_false]; exact ⟨x, by simpa using hx, by simp [h]⟩
  unfold famOk famN; rw [this]; simp
theorem up1_t (h : ∀ k, k < m → bitB f x = true → bitB f (x ||| (1 <<< k)) = true) : up1 m f x = true := by
  unfold up1
  rw [List.all_eq_true]
  intro k hk
  have := h k (by simpa using hk)
  cases h1 : bitB f x
  · rfl
  · rw [this h1]; rfl
theorem fam_t {m : Int} (hm : 1 ≤ m ∧ m ≤ 6) (h1 : f < 2 ^ (1 <<< m.toNat)) (h2 : bitB f (1 <<< m.toNat - 1) = true) (h3 : bitB f 0 = false) (h4 : ∀ x, x < 1 <<< m.toNat → up1 m.toNat f x = true) : true = famOk m f := by
  unfold famOk famN
  rw [decide_eq_true hm, decide_eq_true h1, h2, h3]
  symm
  simpa using h4
theorem fam_spec {m : Int} (h : famOk m f = true) : 1 ≤ m ∧ m ≤ 6 := by
  unfold famOk at h
  exact of_decide_eq_true (Bool.and_eq_true_iff.1 h).1
theorem fam_top (h : famOk (m : Int) f = true) : bitB f (1 <<< m - 1) = true := by
  unfold famOk famN at h
  simp only [Int.toNat_natCast, Bool.and_eq_true] at h
  exact h.2.2.1
theorem up_snoc (h : ∀ j, j < k → bitB f x = true → bitB f (x ||| (1 <<< j)) = true) (hn : bitB f x = true → bitB f (x ||| (1 <<< k)) = true) : ∀ j, j < k + 1 → bitB f x = true → bitB f (x ||| (1 <<< j)) = true := fun j hj hb => by
  rcases Nat.lt_or_ge j k with h' | h'
  · exact h j h' hb
  · obtain rfl : j = k := by omega
    exact hn hb
theorem whole_lt (hm : m < 6) (hf : f < 18446744073709551616) : bdiff f ((1 <<< (1 <<< m)) % 18446744073709551616 - 1) = 0 ↔ f < 2 ^ (1 <<< m) := by
  have h1 := shl_bd6 hm
  have h2 : (1 <<< (1 <<< m)) % 18446744073709551616 = 2 ^ (1 <<< m) := by
    rw [Nat.one_shiftLeft, Nat.mod_eq_of_lt (show 2 ^ (1 <<< m) < 2 ^ 64 from Nat.pow_lt_pow_right (by decide) (by omega))]
  rw [h2]
  generalize 1 <<< m = N at *
  constructor
  · intro h
    refine Nat.lt_pow_two_of_testBit _ fun i hi => ?_
    have e := congrArg (fun y => Nat.testBit y i) h
    simp only [bdiff_testBit, Nat.testBit_two_pow_sub_one, Nat.zero_testBit] at e
    rw [decide_eq_false (by omega)] at e
    simpa using e
  · intro h
    apply Nat.eq_of_testBit_eq
    intro i
    rw [bdiff_testBit, Nat.testBit_two_pow_sub_one, Nat.zero_testBit]
    rcases Nat.lt_or_ge i N with hi | hi
    · rw [decide_eq_true hi]; simp
    · rw [Nat.testBit_lt_two_pow (Nat.lt_of_lt_of_le h (Nat.pow_le_pow_right (n := 2) (by decide) hi))]; rfl
theorem whole_6 (hf : f < 18446744073709551616) : bdiff f 18446744073709551615 = 0 := by
  apply Nat.eq_of_testBit_eq
  intro i
  rw [bdiff_testBit, show 18446744073709551615 = 2 ^ 64 - 1 from rfl, Nat.testBit_two_pow_sub_one, Nat.zero_testBit]
  rcases Nat.lt_or_ge i 64 with hi | hi
  · rw [decide_eq_true hi]; simp
  · rw [Nat.testBit_lt_two_pow (Nat.lt_of_lt_of_le (m := 2 ^ 64) hf (Nat.pow_le_pow_right (n := 2) (by decide) hi))]; rfl
end
def whF (m : Nat) : Nat := if m = 6 then 18446744073709551615 else (1 <<< ((1 <<< m) % 18446744073709551616)) % 18446744073709551616 - 1
theorem wh_iff {m f : Nat} (hm : m ≤ 6) (hf : f < 18446744073709551616) : bdiff f (whF m) = 0 ↔ f < 2 ^ (1 <<< m) := by
  unfold whF
  split
  · rename_i h; subst h
    exact ⟨fun _ => hf, fun _ => whole_6 hf⟩
  · have h1 := shl_bd hm
    rw [Nat.mod_eq_of_lt (show 1 <<< m < 18446744073709551616 by omega)]
    exact whole_lt (by omega) hf
theorem wh_lt (m : Nat) : whF m < 18446744073709551616 := by
  unfold whF; split
  · decide
  · have := Nat.mod_lt (1 <<< ((1 <<< m) % 18446744073709551616)) (show 0 < 18446744073709551616 by decide); omega
theorem wh_pos {m : Nat} (hm : m < 6) : 1 ≤ (1 <<< ((1 <<< m) % 18446744073709551616)) % 18446744073709551616 := by
  have h1 := shl_bd6 hm
  rw [Nat.mod_eq_of_lt (show 1 <<< m < 18446744073709551616 by omega), Nat.one_shiftLeft (1 <<< m)]
  have h2 : 2 ^ (1 <<< m) < 2 ^ 64 := Nat.pow_lt_pow_right (by decide) (by omega)
  rw [Nat.mod_eq_of_lt h2]
  exact Nat.two_pow_pos _
theorem or_64 {x k : Nat} (hx : x < 64) (hk : k < 6) : x ||| (1 <<< k) < 64 := Nat.or_lt_two_pow (n := 6) hx (by have := shl_bd6 hk; omega)
theorem fam_w {m : Int} {f : Nat} (hm : 1 ≤ m ∧ m ≤ 6) (hf : f < 18446744073709551616) (h : ¬ bdiff f (whF m.toNat) = 0) : false = famOk m f := fam_f2 fun q => h ((wh_iff (by omega) hf).2 q)
theorem shr_fam {m : Int} {f : Nat} (hm : 1 ≤ m ∧ m < 6) : f >>> (1 <<< m.toNat) = 0 ↔ f < 2 ^ (1 <<< m.toNat) := shr_zero
theorem fam_s {m : Int} {f : Nat} (hm : 1 ≤ m ∧ m < 6) (h : ¬ f >>> (1 <<< m.toNat) = 0) : false = famOk m f := fam_f2 fun q => h ((shr_fam hm).2 q)
theorem fam_6 {m : Int} {f : Nat} (hm : m = 6) (hf : f < 18446744073709551616) : f < 2 ^ (1 <<< m.toNat) := by subst hm; exact hf
/-! ### schemes that serve a family -/
def badQ (p : Nat) (a b : Nat → Nat) (f x : Nat) : Bool := bif bitB f x then !decide (0 < gapZ a b x) else !blB p a b x
def failZ (p : Nat) (a b : Nat → Nat) (N f : Nat) : Int := idxZ N (badQ p a b f)
section
variable {p f x : Nat} {a b : Nat → Nat}
theorem bad_1 (h : bitB f x = true) (h2 : ¬ 0 < gapZ a b x) : badQ p a b f x = true := by unfold badQ; rw [h, decide_eq_false h2]; rfl
theorem bad_2 (h : bitB f x = true) (h2 : 0 < gapZ a b x) : badQ p a b f x = false := by unfold badQ; rw [h, decide_eq_true h2]; rfl
theorem bad_3 (h : bitB f x = false) (h2 : blB p a b x = false) : badQ p a b f x = true := by unfold badQ; rw [h, h2]; rfl
theorem bad_4 (h : bitB f x = false) (h2 : blB p a b x = true) : badQ p a b f x = false := by unfold badQ; rw [h, h2]; rfl
end
theorem picF_bit (q : Nat → Bool) (i : Nat) : ∀ n, n ≤ 64 → (picF q n).testBit i = (decide (i < n) && q i)
  | 0, _ => by show (0 : Nat).testBit i = _; simp
  | n + 1, h => by
    have ih := picF_bit q i n (by omega)
    have h2 : (1 <<< n) % 18446744073709551616 = 2 ^ n := by
      rw [Nat.one_shiftLeft, Nat.mod_eq_of_lt (show 2 ^ n < 2 ^ 64 from Nat.pow_lt_pow_right (by decide) (by omega))]
    cases hq : q n with
    | true =>
      rw [← picF_t rfl hq, Nat.testBit_or, ih, h2, Nat.testBit_two_pow]
      rcases Nat.lt_trichotomy i n with hi | rfl | hi
      · rw [decide_eq_true hi, decide_eq_true (show i < n + 1 by omega), decide_eq_false (by omega)]; simp
      · rw [hq]; simp
      · rw [decide_eq_false (by omega), decide_eq_false (show ¬ i < n + 1 by omega), decide_eq_false (by omega)]; rfl
    | false =>
      rw [← picF_f rfl hq, ih]
      rcases Nat.lt_trichotomy i n with hi | rfl | hi
      · rw [decide_eq_true hi, decide_eq_true (show i < n + 1 by omega)]
      · rw [hq]; simp
      · rw [decide_eq_false (by omega), decide_eq_false (show ¬ i < n + 1 by omega)]
theorem bitB_test (y i : Nat) : bitB y i = y.testBit i := by
  unfold bitB
  rw [Nat.testBit, Nat.and_comm 1]
  have : (y >>> i) &&& 1 ≤ 1 := Nat.and_le_right
  rcases (show (y >>> i) &&& 1 = 0 ∨ (y >>> i) &&& 1 = 1 by omega) with h | h <;> rw [h] <;> rfl
def seeS (a b : Nat → Nat) (N : Nat) : Nat := picF (fun x => decide (0 < gapZ a b x)) N
def bliS (p : Nat) (a b : Nat → Nat) (N : Nat) : Nat := picF (fun x => blB p a b x) N
theorem see_bit {a b : Nat → Nat} {N x : Nat} (hN : N ≤ 64) (hx : x < N) : bitB (seeS a b N) x = decide (0 < gapZ a b x) := by
  rw [bitB_test, seeS, picF_bit _ _ N hN, decide_eq_true hx]; rfl
theorem bli_bit {p : Nat} {a b : Nat → Nat} {N x : Nat} (hN : N ≤ 64) (hx : x < N) : bitB (bliS p a b N) x = blB p a b x := by
  rw [bitB_test, bliS, picF_bit _ _ N hN, decide_eq_true hx]; rfl
section
variable {p x f N u : Nat} {a b : Nat → Nat}
theorem see_t (hu : u = seeS a b x) (h : 0 < gapZ a b x) : u ||| ((1 <<< x) % 18446744073709551616) = seeS a b (x + 1) := by unfold seeS at *; exact picF_t hu (decide_eq_true h)
theorem see_f (hu : u = seeS a b x) (h : ¬ 0 < gapZ a b x) : u = seeS a b (x + 1) := by unfold seeS at *; exact picF_f hu (decide_eq_false h)
theorem bli_t (hu : u = bliS p a b x) (h : blB p a b x = true) : u ||| ((1 <<< x) % 18446744073709551616) = bliS p a b (x + 1) := by unfold bliS at *; exact picF_t hu h
theorem bli_f (hu : u = bliS p a b x) (h : blB p a b x = false) : u = bliS p a b (x + 1) := by unfold bliS at *; exact picF_f hu h
theorem see_lt (a b : Nat → Nat) (N : Nat) : seeS a b N < 18446744073709551616 := by unfold seeS; exact picF_lt _ _
theorem bli_lt (p : Nat) (a b : Nat → Nat) (N : Nat) : bliS p a b N < 18446744073709551616 := by unfold bliS; exact picF_lt _ _
theorem bitB_0 {y : Nat} (h : (y >>> x) &&& 1 = 0) : bitB y x = false := by unfold bitB; rw [h]; rfl
theorem bitB_1 {y : Nat} (h : ¬ (y >>> x) &&& 1 = 0) : bitB y x = true := by
  unfold bitB
  have : (y >>> x) &&& 1 ≤ 1 := Nat.and_le_right
  exact decide_eq_true (by omega)
theorem bad_s1 (hN : N ≤ 64) (hx : x < N) (hb : bitB f x = true) (h : (seeS a b N >>> x) &&& 1 = 0) : badQ p a b f x = true := by
  have e := bitB_0 h; rw [see_bit hN hx] at e; exact bad_1 hb (of_decide_eq_false e)
theorem bad_s2 (hN : N ≤ 64) (hx : x < N) (hb : bitB f x = true) (h : ¬ (seeS a b N >>> x) &&& 1 = 0) : badQ p a b f x = false := by
  have e := bitB_1 h; rw [see_bit hN hx] at e; exact bad_2 hb (of_decide_eq_true e)
theorem bad_s3 (hN : N ≤ 64) (hx : x < N) (hb : bitB f x = false) (h : (bliS p a b N >>> x) &&& 1 = 0) : badQ p a b f x = true := by
  have e := bitB_0 h; rw [bli_bit hN hx] at e; exact bad_3 hb e
theorem bad_s4 (hN : N ≤ 64) (hx : x < N) (hb : bitB f x = false) (h : ¬ (bliS p a b N >>> x) &&& 1 = 0) : badQ p a b f x = false := by
  have e := bitB_1 h; rw [bli_bit hN hx] at e; exact bad_4 hb e
theorem fz_0 : idxZ N (badQ p a b f) = idxF (badQ p a b f) (N - 0) 0 := rfl
end
def svC (s p : Int) (a b : Nat → Nat) (m : Int) (f : Nat) : Nat := bif schOk s p a b && famOk m f then (if s = m ∧ failZ p.toNat a b (1 <<< m.toNat) f < 0 then 0 else 4) else 1
section
variable {s p m : Int} {a b : Nat → Nat} {f : Nat}
theorem svC_1 (h : schOk s p a b = false ∨ famOk m f = false) : 1 = svC s p a b m f := by
  unfold svC; rcases h with h | h <;> rw [h] <;> simp
theorem svC_4 (h1 : schOk s p a b = true) (h2 : famOk m f = true) (h : ¬ (s = m ∧ failZ p.toNat a b (1 <<< m.toNat) f < 0)) : 4 = svC s p a b m f := by unfold svC; rw [h1, h2, if_neg h]; rfl
theorem svC_0 (h1 : schOk s p a b = true) (h2 : famOk m f = true) (h : s = m ∧ failZ p.toNat a b (1 <<< m.toNat) f < 0) : 0 = svC s p a b m f := by unfold svC; rw [h1, h2, if_pos h]; rfl
theorem svC_spec (h : svC s p a b m f = 0) : schOk s p a b = true ∧ famOk m f = true ∧ s = m ∧ failZ p.toNat a b (1 <<< m.toNat) f < 0 := by
  unfold svC at h
  cases h1 : schOk s p a b <;> cases h2 : famOk m f <;> rw [h1, h2] at h <;> simp at h
  refine ⟨rfl, rfl, ?_⟩
  by_cases h3 : s = m ∧ failZ p.toNat a b (1 <<< m.toNat) f < 0
  · exact h3
  · exact absurd ⟨h.1, h.2⟩ h3
end
theorem first_sv {s p : Nat} {m : Int} {a b : Nat → Nat} {f : Nat} (h1 : schOk (s : Int) (p : Int) a b = true) (h2 : famOk m f = true) : firstZ 1 (fun i => [!decide (((s : Nat) : Int) = m ∧ failZ p a b (1 <<< m.toNat) f < 0)].getD i false) (fun i => [4].getD i 0) = ((svC (s : Int) (p : Int) a b m f : Nat) : Int) := by
  unfold svC
  rw [h1, h2, Int.toNat_natCast]
  by_cases h : ((s : Nat) : Int) = m ∧ failZ p a b (1 <<< m.toNat) f < 0
  · rw [decide_eq_true h, if_pos h]; rfl
  · rw [decide_eq_false h, if_neg h]; rfl
/-! ### the least gap -/
def lgF (a b : Nat → Nat) (f : Nat) : Nat → Int
  | 0 => 8
  | x + 1 => if bitB f x = true then min (lgF a b f x) (gapZ a b x) else lgF a b f x
def mnZ (c : Nat → Int) : Nat → Int
  | 0 => c 0
  | k + 1 => min (mnZ c k) (c (k + 1))
theorem mnZ_congr {c d : Nat → Int} : ∀ {n : Nat}, (∀ j, j ≤ n → c j = d j) → mnZ c n = mnZ d n
  | 0, h => h 0 (Nat.le_refl _)
  | n + 1, h => by rw [mnZ, mnZ, mnZ_congr (fun j hj => h j (by omega)), h (n + 1) (Nat.le_refl _)]
section
variable {a b : Nat → Nat} {f x : Nat} {v : Int}
theorem lg_t (h : v = lgF a b f x) (hb : bitB f x = true) : min v (gapZ a b x) = lgF a b f (x + 1) := by rw [lgF, if_pos hb, h]
theorem lg_f (h : v = lgF a b f x) (hb : bitB f x = false) : v = lgF a b f (x + 1) := by rw [lgF, if_neg (by rw [hb]; decide), h]
theorem lg_bd (ha : ∀ k, a k < 256) (hb : ∀ k, b k < 256) : ∀ n, -8 ≤ lgF a b f n ∧ lgF a b f n ≤ 8
  | 0 => by unfold lgF; omega
  | n + 1 => by
    have h1 := lg_bd ha hb n
    have h2 := gapZ_bd ha hb n
    rw [lgF]; split <;> omega
theorem lg_eq (ha : ∀ k, a k < 256) (hb : ∀ k, b k < 256) : ∀ k, (flN (bitB f) k = 0 → lgF a b f k = 8) ∧ (0 < flN (bitB f) k → mnZ (fun j => gapZ a b (flA (bitB f) k j)) (flN (bitB f) k - 1) = lgF a b f k)
  | 0 => ⟨fun _ => rfl, fun h => absurd h (Nat.lt_irrefl 0)⟩
  | k + 1 => by
    obtain ⟨i1, i2⟩ := lg_eq ha hb k
    cases hq : bitB f k with
    | true =>
      have hn := flN_t (q := bitB f) rfl hq
      have hA := flA_t (q := bitB f) (g := gapZ a b) (u := fun j => gapZ a b (flA (bitB f) k j)) rfl (fun j hj => rfl) hq
      refine ⟨fun h => absurd h (by omega), fun _ => ?_⟩
      rw [← hn, Nat.add_sub_cancel, lgF, if_pos hq, mnZ_congr (fun j hj => (hA j (by omega)).symm)]
      cases hm : flN (bitB f) k with
      | zero =>
        have := (gapZ_bd ha hb k).2
        rw [i1 hm, mnZ, upd_same]; omega
      | succ m =>
        rw [mnZ, upd_same, mnZ_congr (fun j hj => upd_ne (by omega)), ← i2 (by omega), hm, Nat.add_sub_cancel]
    | false =>
      have hn := flN_f (q := bitB f) rfl hq
      have hA := flA_f (q := bitB f) (m := flN (bitB f) k) (g := gapZ a b) (u := fun j => gapZ a b (flA (bitB f) k j)) (fun j hj => rfl) hq
      rw [← hn, lgF, if_neg (by rw [hq]; decide)]
      refine ⟨i1, fun h => ?_⟩
      rw [← i2 h]
      exact mnZ_congr (fun j hj => (hA j (by omega)).symm)
end
theorem fam_pos {m : Int} {f : Nat} (h : famOk m f = true) : 0 < flN (bitB f) (1 <<< m.toNat) := by
  have hm := fam_spec h
  have h2 := shl_bd (m := m.toNat) (by omega)
  have h3 : bitB f (1 <<< m.toNat - 1) = true := by
    unfold famOk famN at h
    simp only [Bool.and_eq_true] at h
    exact h.2.2.1
  unfold flN flL
  exact List.length_pos_of_mem (List.mem_filter.2 ⟨List.mem_range.2 (by omega), h3⟩)
attribute [irreducible] famOk badQ failZ seeS bliS svC
end Go.Proofs.Ytdlmbdclbnlmlaa
