/-
  Plain laws: layers that have been shared, and layers of which one has been forged.
-/
import Derived.Test.YtabekcodjcbolaaGreatShare
import Derived.Test.YtabekcodjcbolaaGreatWrong2
import Derived.Test.YtabekcodjcbolaaGreatOnes
namespace Go.Proofs.YtabekcodjcbolaaGreat
set_option linter.unusedVariables false
set_option linter.unusedSimpArgs false
open Go.RowKit
/-! ### lists -/
def hasB (n : Nat) (c : Nat → Nat) (z : Nat) : Bool := (List.range n).any fun j => decide (c j = z)
theorem hasB_t {n k z : Nat} {c : Nat → Nat} (hk : k < n) (h : c k = z) : true = hasB n c z := by
  symm; unfold hasB; rw [List.any_eq_true]; exact ⟨k, by simpa using hk, decide_eq_true h⟩
theorem hasB_f {n z : Nat} {c : Nat → Nat} (h : ∀ j, j < n → ¬ c j = z) : false = hasB n c z := by
  symm; unfold hasB; rw [List.any_eq_false]; intro j hj; simpa using h j (by simpa using hj)
theorem has_fl {q : Nat → Bool} {s i : Nat} (hi : i < s) : hasB (flN q s) (fun j => (fun z => z) (flA q s j)) i = q i := by
  have hm : i ∈ flL q s ↔ q i = true := by unfold flL; rw [List.mem_filter, List.mem_range]; exact ⟨fun h => h.2, fun h => ⟨hi, h⟩⟩
  cases hq : q i with
  | true =>
    obtain ⟨j, hj, he⟩ := List.mem_iff_getElem.1 (hm.2 hq)
    refine (hasB_t (k := j) hj ?_).symm
    show flA q s j = i
    unfold flA; rw [List.getD_eq_getElem?_getD, List.getElem?_eq_getElem hj]; exact he
  | false =>
    refine (hasB_f fun j hj h => ?_).symm
    have h2 : flA q s j = i := h
    unfold flA at h2
    rw [List.getD_eq_getElem?_getD, List.getElem?_eq_getElem hj] at h2
    have h3 : i ∈ flL q s := by rw [← h2]; exact List.getElem_mem hj
    rw [hm.1 h3] at hq; cases hq
theorem has_yes {q : Nat → Bool} {s i : Nat} (hi : i < s) (h : q i = true) : hasB (flN q s) (fun j => (fun z => z) (flA q s j)) i = true := (has_fl hi).trans h
theorem fl_one {q : Nat → Bool} {N v : Nat} (h : flN q N = 1) (hv : v < N) (hq : q v = true) : flA q N 0 = v := by
  have hm : v ∈ flL q N := by unfold flL; exact List.mem_filter.2 ⟨List.mem_range.2 hv, hq⟩
  unfold flN at h; unfold flA
  match he : flL q N, h with
  | [w], _ => rw [he] at hm; simp at hm; rw [hm]; rfl
theorem fl_in {q : Nat → Bool} {N : Nat} (h : 0 < flN q N) : q (flA q N 0) = true ∧ flA q N 0 < N := by
  have hm : flA q N 0 ∈ flL q N := by
    unfold flA; rw [List.getD_eq_getElem?_getD, List.getElem?_eq_getElem h]; exact List.getElem_mem h
  unfold flL at hm
  rw [List.mem_filter, List.mem_range] at hm
  exact ⟨hm.2, hm.1⟩
/-! ### rows that fit -/
section
variable {s m x sd i k : Nat} {a b : Nat → Nat} {C : Nat → Nat → Nat} {P : Nat → Int}
theorem both_rows (hok : schOk (s : Int) (m : Int) a b = true) (hC : ∀ r, r < s → ∀ j, j < 64 → C r j < 2 ^ m) (hP : ∀ r, r < s → P r = ((m : Nat) : Int)) : bothC (s : Int) (m : Int) a b s P C = 0 := by
  obtain ⟨_, hp, _⟩ := schOk_spec hok
  refine (bothC_0 hok (layAll_t fun r hr => ?_).symm rfl hP).symm
  rw [hP r hr]; exact layOk_iffN.2 ⟨by omega, hC r hr⟩
theorem poss_own (hw : wrQ s m a b s C x k = false) : possQ s m a b s C i (bitB x k) k (C i k) = true := by
  have e : upd (fun r => C r k) i (C i k) = fun r => C r k := by
    funext r
    by_cases h : r = i
    · subst h; rw [upd_same]
    · rw [upd_ne h]
  unfold possQ; rw [e]
  unfold wrQ at hw
  simpa using hw
theorem poss_back (hm : m ≤ 8) (hrow : ∀ r, r ≠ i → ∀ j, C r j = dwC (shF a b x) m sd r j) : possQ s m a b s C i (bitB x k) k (dwC (shF a b x) m sd i k) = true := by
  have e : upd (fun r => C r k) i (dwC (shF a b x) m sd i k) = fun r => dwC (shF a b x) m sd r k := by
    funext r
    by_cases h : r = i
    · subst h; rw [upd_same]
    · rw [upd_ne h]; exact hrow r h k
  unfold possQ; rw [e]; exact share_eq hm
theorem shl_pw {v : Nat} (h : v < 2 ^ m) : v < 1 <<< m := by rw [Nat.one_shiftLeft]; exact h
theorem poss_pos (hm : m ≤ 8) : possQ s m a b s (dwC (shF a b x) m sd) i (bitB x k) k (dwC (shF a b x) m sd i k) = true := poss_back hm fun _ _ _ => rfl
theorem rep_back {z : Nat} (hm : m ≤ 8) (hrow : ∀ r, r ≠ i → ∀ j, C r j = dwC (shF a b x) m sd r j) : repOk s m a b s C i x z = true :=
  repOk_t fun k _ _ => flL_mem (shl_pw (dw_pow (r := i) (k := k) (x := sd) (f := shF a b x) hm)) (poss_back hm hrow)
theorem sure_bit (hk : k < 64) : bitB (pic (sureQ s m a b s C i x)) k = decide (flN (possQ s m a b s C i (bitB x k) k) (1 <<< m) = 1) := by rw [bit_pic hk]; unfold sureQ; rfl
theorem bad_pow {cell t : Nat} (h : ∀ r, r < s → ∀ j, j < 64 → C r j < 2 ^ m) (hi : i < s) (hcell : cell < 64) (ht : t < m) (hm : m ≤ 6) : ∀ r, r < s → ∀ j, j < 64 → upd C i (upd (C i) cell (C i cell ^^^ ((1 <<< t) % 256))) r j < 2 ^ m := fun r hr j hj => by
  have h1 : (1 <<< t) % 256 < 2 ^ m := by
    have : 1 <<< t < 2 ^ m := by rw [Nat.one_shiftLeft]; exact Nat.pow_lt_pow_right (by decide) ht
    exact Nat.lt_of_le_of_lt (Nat.mod_le _ _) this
  by_cases e : r = i
  · subst e; rw [upd_same]
    by_cases e2 : j = cell
    · subst e2; rw [upd_same]; exact Nat.xor_lt_two_pow (h r hr j hj) h1
    · rw [upd_ne e2]; exact h r hr j hj
  · rw [upd_ne e]; exact h r hr j hj
theorem whole_pow {z : Nat} (h : ∀ r, r < s → ∀ j, j < 64 → C r j < 2 ^ m) (hi : i < s) : ∀ r, r < s → ∀ j, j < 64 → upd C i (rpC s m a b s C i x z) r j < 2 ^ m := fun r hr j hj => by
  by_cases e : r = i
  · subst e; rw [upd_same]
    cases hb : bitB z j with
    | true => rw [rpC_t hb, ← Nat.one_shiftLeft]; exact flA_lt _ _ _ (shl_pos0 m)
    | false => rw [rpC_f hb]; exact h r hr j hj
  · rw [upd_ne e]; exact h r hr j hj
theorem whole_wr (hk : k < 64) (hr : repOk s m a b s C i x (pic (wrQ s m a b s C x)) = true) : wrQ s m a b s (upd C i (rpC s m a b s C i x (pic (wrQ s m a b s C x)))) x k = false := by
  have hbit : bitB (pic (wrQ s m a b s C x)) k = wrQ s m a b s C x k := bit_pic hk
  have e : (fun r => upd C i (rpC s m a b s C i x (pic (wrQ s m a b s C x))) r k) = upd (fun r => C r k) i (rpC s m a b s C i x (pic (wrQ s m a b s C x)) k) := by
    funext r
    by_cases h : r = i
    · subst h; rw [upd_same, upd_same]
    · rw [upd_ne h, upd_ne h]
  refine wr_f (q := bitB x k) rfl ?_
  rw [e]
  cases hw : wrQ s m a b s C x k with
  | true =>
    rw [hw] at hbit
    rw [rpC_t hbit]
    have h0 : 0 < flN (possQ s m a b s C i (bitB x k) k) (1 <<< m) := by
      unfold repOk at hr; rw [List.all_eq_true] at hr
      have := hr k (by simpa using hk)
      rw [hbit] at this
      simpa using this
    have h1 := (fl_in h0).1
    rw [possQ] at h1
    exact h1
  | false =>
    rw [hw] at hbit
    rw [rpC_f hbit]
    have h1 := poss_own (i := i) hw
    rw [possQ] at h1
    exact h1
end
/-! ### codes -/
theorem rpZ_fitI {q : Bool} {g : Int} (h : -128 ≤ g ∧ g ≤ 127) : fitI .i8 (rpZ q g) := by unfold rpZ; cases q <;> simp only [fitI, cond_true, cond_false] <;> omega
theorem rp_layer {q : Bool} {g : Int} {f : Nat → Nat} (h : q = true) : layV (rpZ q g) (rpF q f) = layV g f := by subst h; unfold rpZ rpF; rfl
theorem rpN_t {q : Bool} {n : Nat} (h : q = true) : rpN q n = n := by subst h; unfold rpN; rfl
theorem rlB_t {C : Nat} {q : Bool} (h : C = 0) (hq : q = true) : rlB C q = true := by unfold rlB; rw [h, hq]; rfl
theorem rlC_q {C : Nat} {q : Bool} (h : C = 0) (h2 : rlC C q = 0) : q = true := by
  cases q
  · unfold rlC at h2; rw [if_pos h] at h2; cases h2
  · rfl
theorem rep_has {C : Nat} {q H : Bool} (h : C = 0) (hH : H = q) : (!(decide (((rlC C q : Nat) : Int) = 0) == H)) = false := by
  subst hH
  cases H <;> unfold rlC <;> rw [if_pos h] <;> rfl
theorem sure_eq {b c : Bool} (h : b = c) : (!(b == c)) = false := by subst h; cases b <;> rfl
theorem updP {g : Int} {i : Nat} : ∀ j, upd (fun _ => g) i g j = g := fun j => by
  by_cases h : j = i
  · subst h; rw [upd_same]
  · rw [upd_ne h]
theorem updF_lt {C : Nat → Nat → Nat} {i : Nat} {f : Nat → Nat} (hC : ∀ u v, C u v < 256) (hf : ∀ v, f v < 256) : ∀ u v, upd C i f u v < 256 := fun u v => by
  by_cases h : u = i
  · subst h; rw [upd_same]; exact hf v
  · rw [upd_ne h]; exact hC u v
/-! ### one row behind another -/
def apF (n : Nat) (u v : Nat → Nat) : Nat → Nat := fun j => if j < n then u j else v (j - n)
theorem apF_lt {n B : Nat} {u v : Nat → Nat} (hu : ∀ j, u j < B) (hv : ∀ j, v j < B) : ∀ j, apF n u v j < B := fun j => by
  unfold apF; split
  · exact hu j
  · exact hv _
theorem arrU_app {k : IntKind} {n m : Nat} {u v : Nat → Nat} : arrU k n u ++ arrU k m v = arrU k (n + m) (apF n u v) := by
  apply List.ext_getElem?
  intro j
  by_cases h : j < n
  · rw [List.getElem?_append_left (by simpa [arrU] using h), arrU_get h, arrU_get (by omega)]; unfold apF; rw [if_pos h]
  · rw [List.getElem?_append_right (by simpa [arrU] using h)]
    have hl : (arrU k n u).length = n := by simp [arrU]
    rw [hl]
    by_cases h2 : j < n + m
    · rw [arrU_get (by omega), arrU_get h2]; unfold apF; rw [if_neg h]
    · rw [List.getElem?_eq_none (by simp [arrU]; omega), List.getElem?_eq_none (by simp [arrU]; omega)]
attribute [irreducible] hasB
end Go.Proofs.YtabekcodjcbolaaGreat
