/-
  Plain laws: rows put in order: insertion; two rows in order are alike just when each number is counted alike.
-/
import Derived.Test.YtagghfllgafmgaaApp
import Derived.Test.YtagghfllgafmgaaSch
import Derived.Test.YtagghfllgafmgaaRow
namespace Go.Proofs.Ytagghfllgafmgaa
set_option linter.unusedVariables false
set_option linter.unusedSimpArgs false
open Go.RowKit
def cnt (u : Nat → Nat) (v : Nat) : Nat → Nat
  | 0 => 0
  | k + 1 => cnt u v k + (if u k = v then 1 else 0)
def insL (v : Nat) : List Nat → List Nat
  | [] => [v]
  | x :: l => if v ≤ x then v :: x :: l else x :: insL v l
def sortL : List Nat → List Nat
  | [] => []
  | x :: l => insL x (sortL l)
def srtF (n : Nat) (c : Nat → Nat) : Nat → Nat := fun i => (sortL ((List.range n).map c)).getD i 0
theorem count_insL (v w : Nat) : ∀ l : List Nat, (insL v l).count w = (v :: l).count w
  | [] => rfl
  | x :: l => by
    unfold insL
    split
    · rfl
    · rw [List.count_cons, count_insL v w l, List.count_cons, List.count_cons, List.count_cons]; omega
theorem count_sortL (w : Nat) : ∀ l : List Nat, (sortL l).count w = l.count w
  | [] => rfl
  | x :: l => by rw [sortL, count_insL, List.count_cons, List.count_cons, count_sortL w l]
theorem mem_insL {v w : Nat} : ∀ {l : List Nat}, w ∈ insL v l → w = v ∨ w ∈ l
  | [], h => by simpa [insL] using h
  | x :: l, h => by
    unfold insL at h
    split at h
    · simpa using h
    · rcases List.mem_cons.1 h with h | h
      · exact .inr (by simp [h])
      · rcases mem_insL h with h | h
        · exact .inl h
        · exact .inr (by simp [h])
theorem sorted_insL (v : Nat) : ∀ {l : List Nat}, l.Pairwise (· ≤ ·) → (insL v l).Pairwise (· ≤ ·)
  | [], _ => by simp [insL]
  | x :: l, h => by
    unfold insL
    have h' := List.pairwise_cons.1 h
    split
    · rename_i hv
      refine List.pairwise_cons.2 ⟨fun y hy => ?_, h⟩
      rcases List.mem_cons.1 hy with rfl | hy
      · exact hv
      · exact Nat.le_trans hv (h'.1 y hy)
    · rename_i hv
      refine List.pairwise_cons.2 ⟨fun y hy => ?_, sorted_insL v h'.2⟩
      rcases mem_insL hy with rfl | hy
      · omega
      · exact h'.1 y hy
theorem sorted_sortL : ∀ l : List Nat, (sortL l).Pairwise (· ≤ ·)
  | [] => List.Pairwise.nil
  | x :: l => sorted_insL x (sorted_sortL l)
theorem eq_of_sorted : ∀ {l l' : List Nat}, l.Pairwise (· ≤ ·) → l'.Pairwise (· ≤ ·) → (∀ v, l.count v = l'.count v) → l = l'
  | [], [], _, _, _ => rfl
  | [], y :: l', _, _, h => by have := h y; simp at this
  | x :: l, [], _, _, h => by have := h x; simp at this
  | x :: l, y :: l', h1, h2, h => by
    have a1 := List.pairwise_cons.1 h1
    have a2 := List.pairwise_cons.1 h2
    have hx : x ∈ y :: l' := List.count_pos_iff.1 (by rw [← h x, List.count_cons_self]; omega)
    have hy : y ∈ x :: l := List.count_pos_iff.1 (by rw [h y, List.count_cons_self]; omega)
    have e : x = y := by
      rcases List.mem_cons.1 hx with e | hx
      · exact e
      · rcases List.mem_cons.1 hy with e | hy
        · exact e.symm
        · exact Nat.le_antisymm (a1.1 y hy) (a2.1 x hx)
    subst e
    rw [eq_of_sorted a1.2 a2.2 fun v => by have := h v; rw [List.count_cons, List.count_cons] at this; omega]
theorem cnt_eq (u : Nat → Nat) (v : Nat) : ∀ n, cnt u v n = ((List.range n).map u).count v
  | 0 => rfl
  | n + 1 => by
    rw [cnt, cnt_eq u v n, List.range_succ, List.map_append, List.count_append]
    simp [List.count_cons]
theorem mono_of {u : Nat → Nat} {n : Nat} (h : ∀ k, k + 1 < n → u k ≤ u (k + 1)) (i : Nat) : ∀ d, i + d < n → u i ≤ u (i + d)
  | 0, _ => Nat.le_refl _
  | d + 1, hd => Nat.le_trans (mono_of h i d (by omega)) (h (i + d) (by omega))
theorem sorted_of {u : Nat → Nat} {n : Nat} (h : ∀ k, k + 1 < n → u k ≤ u (k + 1)) : ((List.range n).map u).Pairwise (· ≤ ·) := by
  rw [List.pairwise_iff_getElem]
  intro i j hi hj hij
  simp only [List.length_map, List.length_range] at hi hj
  simp only [List.getElem_map, List.getElem_range]
  have := mono_of h i (j - i) (by omega)
  rwa [show i + (j - i) = j by omega] at this
theorem len_insL (v : Nat) : ∀ l : List Nat, (insL v l).length = l.length + 1
  | [] => rfl
  | x :: l => by unfold insL; split <;> simp [len_insL v l]
theorem len_sortL : ∀ l : List Nat, (sortL l).length = l.length
  | [] => rfl
  | x :: l => by rw [sortL, len_insL, len_sortL l]; rfl
theorem srt_of {u c : Nat → Nat} {n : Nat} (hs : ∀ k, k + 1 < n → u k ≤ u (k + 1)) (hc : ∀ v, cnt u v n = cnt c v n) : ∀ j, j < n → u j = srtF n c j := by
  have e : (List.range n).map u = sortL ((List.range n).map c) := eq_of_sorted (sorted_of hs) (sorted_sortL _) fun v => by rw [count_sortL, ← cnt_eq, ← cnt_eq]; exact hc v
  intro j hj
  unfold srtF
  rw [← e]
  simp [hj]
theorem srt_eq {c d : Nat → Nat} {n : Nat} : (∀ j, j < n → srtF n c j = srtF n d j) ↔ ∀ v, cnt c v n = cnt d v n := by
  constructor
  · intro h v
    have e : sortL ((List.range n).map c) = sortL ((List.range n).map d) := by
      apply List.ext_getElem
      · simp [len_sortL]
      · intro i h1 h2
        have := h i (by simpa [len_sortL] using h1)
        unfold srtF at this
        rwa [List.getD_eq_getElem?_getD, List.getD_eq_getElem?_getD, List.getElem?_eq_getElem h1, List.getElem?_eq_getElem h2] at this
    rw [cnt_eq, cnt_eq, ← count_sortL, e, count_sortL]
  · intro h j hj
    have e : sortL ((List.range n).map c) = sortL ((List.range n).map d) := eq_of_sorted (sorted_sortL _) (sorted_sortL _) fun v => by rw [count_sortL, count_sortL, ← cnt_eq, ← cnt_eq]; exact h v
    unfold srtF; rw [e]
theorem mem_sortL {w : Nat} : ∀ {l : List Nat}, w ∈ sortL l → w ∈ l
  | [], h => h
  | x :: l, h => by
    rcases mem_insL h with h | h
    · simp [h]
    · exact List.mem_cons.2 (.inr (mem_sortL h))
theorem srtF_lt {c : Nat → Nat} {n : Nat} (h : ∀ k, c k < 256) : ∀ j, srtF n c j < 256 := fun j => by
  unfold srtF
  rw [List.getD_eq_getElem?_getD]
  cases e : (sortL ((List.range n).map c))[j]? with
  | none => show 0 < 256; decide
  | some v =>
    have := mem_sortL (List.mem_of_getElem? e)
    obtain ⟨i, _, rfl⟩ := List.mem_map.1 this
    exact h i
/-! ### one step -/
theorem cnt_congr {u u' : Nat → Nat} {v : Nat} : ∀ {n : Nat}, (∀ k, k < n → u k = u' k) → cnt u v n = cnt u' v n
  | 0, _ => rfl
  | n + 1, h => by rw [cnt, cnt, cnt_congr (fun k hk => h k (by omega)), h n (by omega)]
theorem cnt_swp {u : Nat → Nat} {j : Nat} (v : Nat) (hj : 0 < j) : ∀ n, j < n → cnt (upd (upd u j (u (j - 1))) (j - 1) (u j)) v n = cnt u v n := by
  obtain ⟨i, rfl⟩ : ∃ i, j = i + 1 := ⟨j - 1, by omega⟩
  rw [Nat.add_sub_cancel]
  have e1 : ∀ k, k < i → upd (upd u (i + 1) (u i)) i (u (i + 1)) k = u k := fun k hk => by rw [upd_ne (by omega), upd_ne (by omega)]
  have e2 : upd (upd u (i + 1) (u i)) i (u (i + 1)) i = u (i + 1) := upd_same _ _ _
  have e3 : upd (upd u (i + 1) (u i)) i (u (i + 1)) (i + 1) = u i := by rw [upd_ne (by omega), upd_same]
  intro n hn
  induction n with
  | zero => omega
  | succ n ih =>
    rcases Nat.lt_or_ge (i + 1) n with h | h
    · rw [cnt, cnt, ih h, upd_ne (by omega), upd_ne (by omega)]
    · obtain rfl : n = i + 1 := by omega
      rw [cnt, cnt, cnt, cnt, e2, e3, cnt_congr e1]; omega
section
variable {u : Nat → Nat} {i j n : Nat}
theorem ins_exit (hs : ∀ k, k + 1 ≤ i → k + 1 ≠ j → u k ≤ u (k + 1)) (hq : 0 < j → u (j - 1) ≤ u j) : ∀ k, k + 1 < i + 1 → u k ≤ u (k + 1) := fun k hk => by
  by_cases h : k + 1 = j
  · subst h; have := hq (by omega); rwa [Nat.add_sub_cancel] at this
  · exact hs k (by omega) h
theorem ins_step1 (hs : ∀ k, k + 1 ≤ i → k + 1 ≠ j → u k ≤ u (k + 1)) (hx : ∀ k, k + 1 = j → j + 1 ≤ i → u k ≤ u (j + 1)) (hj : 0 < j) (hji : j ≤ i) (h : u j < u (j - 1)) :
    ∀ k, k + 1 ≤ i → k + 1 ≠ j - 1 → upd (upd u j (u (j - 1))) (j - 1) (u j) k ≤ upd (upd u j (u (j - 1))) (j - 1) (u j) (k + 1) := fun k hk hne => by
  obtain ⟨m, rfl⟩ : ∃ m, j = m + 1 := ⟨j - 1, by omega⟩
  rw [Nat.add_sub_cancel] at *
  rcases Nat.lt_trichotomy k m with hkm | rfl | hkm
  · rw [upd_ne (by omega), upd_ne (by omega), upd_ne (by omega), upd_ne (by omega)]; exact hs k hk (by omega)
  · rw [upd_same, upd_ne (by omega), upd_same]; omega
  · rcases Nat.lt_or_ge k (m + 2) with h2 | h2
    · obtain rfl : k = m + 1 := by omega
      rw [upd_ne (by omega), upd_same, upd_ne (by omega), upd_ne (by omega)]; exact hx m rfl (by omega)
    · rw [upd_ne (by omega), upd_ne (by omega), upd_ne (by omega), upd_ne (by omega)]; exact hs k hk (by omega)
theorem ins_step2 (hs : ∀ k, k + 1 ≤ i → k + 1 ≠ j → u k ≤ u (k + 1)) (hj : 0 < j) (hji : j ≤ i) :
    ∀ k, k + 1 = j - 1 → j - 1 + 1 ≤ i → upd (upd u j (u (j - 1))) (j - 1) (u j) k ≤ upd (upd u j (u (j - 1))) (j - 1) (u j) (j - 1 + 1) := fun k hk _ => by
  obtain ⟨m, rfl⟩ : ∃ m, j = m + 1 := ⟨j - 1, by omega⟩
  rw [Nat.add_sub_cancel] at *
  subst hk
  rw [upd_ne (by omega), upd_ne (by omega), upd_ne (by omega), upd_same]
  exact hs k (by omega) (by omega)
end
/-! ### columns -/
def colR (t : Nat → Nat) (x : Nat) : Nat → Nat → Nat
  | 0, _ => 0
  | i + 1, j => if (x >>> i) &&& 1 = 0 then colR t x i j else colR t x i j ||| ((((t i >>> j) &&& 1) <<< i) % 256)
def colA (t : Nat → Nat) (j : Nat) : Nat → Nat
  | 0 => 0
  | i + 1 => colA t j i ||| ((((t i >>> j) &&& 1) <<< i) % 256)
section
variable {t d e : Nat → Nat} {x i j k m v : Nat}
theorem colA_next (h : v = colA t j i) : v ||| ((((t i >>> j) &&& 1) <<< i) % 256) = colA t j (i + 1) := by rw [h]; rfl
theorem colA_lt (t : Nat → Nat) (j : Nat) : ∀ i, colA t j i < 256
  | 0 => by show 0 < 256; decide
  | i + 1 => or_lt_u8 (colA_lt t j i) (Nat.mod_lt _ (by decide))
theorem colR_lt (t : Nat → Nat) (x : Nat) : ∀ i j, colR t x i j < 256
  | 0, _ => by show 0 < 256; decide
  | i + 1, j => by
    rw [colR]; split
    · exact colR_lt t x i j
    · exact or_lt_u8 (colR_lt t x i j) (Nat.mod_lt _ (by decide))
theorem two_pow_and (i x : Nat) : 2 ^ i &&& x = if x.testBit i = true then 2 ^ i else 0 := by
  apply Nat.eq_of_testBit_eq
  intro k
  rw [Nat.testBit_and, Nat.testBit_two_pow]
  by_cases h : i = k
  · subst h
    cases hb : x.testBit i with
    | false => simp
    | true => simp [Nat.testBit_two_pow]
  · cases x.testBit i with
    | false => simp [h]
    | true => simp [h, Nat.testBit_two_pow]
theorem bit_and (x i : Nat) {b : Nat} (hb : b ≤ 1) (hi : i < 8) : ((b <<< i) % 256) &&& x = if (x >>> i) &&& 1 = 0 then 0 else (b <<< i) % 256 := by
  have hx : (x >>> i) &&& 1 = if x.testBit i then 1 else 0 := by
    rw [Nat.testBit, Nat.and_comm 1]
    have : (x >>> i) &&& 1 ≤ 1 := Nat.and_le_right
    rcases (show (x >>> i) &&& 1 = 0 ∨ (x >>> i) &&& 1 = 1 by omega) with h | h <;> rw [h] <;> rfl
  have hlt : b <<< i < 256 := by
    rw [Nat.shiftLeft_eq]
    have := Nat.pow_le_pow_right (n := 2) (by decide) (show i ≤ 7 by omega)
    have h1 : b * 2 ^ i ≤ 1 * 2 ^ i := Nat.mul_le_mul_right _ hb
    omega
  rw [Nat.mod_eq_of_lt hlt, hx]
  rcases (show b = 0 ∨ b = 1 by omega) with rfl | rfl
  · simp
  · rw [Nat.one_shiftLeft, two_pow_and]
    cases x.testBit i <;> simp
theorem colA_and (t : Nat → Nat) (x j : Nat) : ∀ i, i ≤ 8 → colA t j i &&& x = colR t x i j
  | 0, _ => Nat.zero_and x
  | i + 1, h => by
    rw [colA, colR, Nat.and_or_distrib_right, colA_and t x j i (by omega), bit_and x i Nat.and_le_right (by omega)]
    split
    · rw [Nat.or_zero]
    · rfl
theorem colR_64 (t : Nat → Nat) (x j : Nat) : ∀ i, i ≤ 6 → colR t x i j < 2 ^ i
  | 0, _ => by show 0 < 1; decide
  | i + 1, h => by
    have h1 := colR_64 t x j i (by omega)
    have h2 : 2 ^ (i + 1) = 2 * 2 ^ i := by rw [Nat.pow_succ]; omega
    rw [colR]; split
    · omega
    · refine Nat.or_lt_two_pow (by omega) (Nat.lt_of_le_of_lt (Nat.mod_le _ _) ?_)
      rw [Nat.shiftLeft_eq]
      have h3 : (t i >>> j) &&& 1 ≤ 1 := Nat.and_le_right
      have h4 : ((t i >>> j) &&& 1) * 2 ^ i ≤ 1 * 2 ^ i := Nat.mul_le_mul_right _ h3
      have : 0 < 2 ^ i := Nat.two_pow_pos i
      omega
theorem col_skip (hd : ∀ j, j < m → d j = colR t x i j) (h : (x >>> i) &&& 1 = 0) : ∀ j, j < m → d j = colR t x (i + 1) j := fun j hj => by rw [colR, if_pos h]; exact hd j hj
theorem col_lo (hlo : ∀ j, j < k → d j = colR t x (i + 1) j) (hhi : ∀ j, k ≤ j → j < m → d j = colR t x i j) (hk : k < m) (h : ¬ (x >>> i) &&& 1 = 0) : ∀ j, j < k + 1 → upd d k (d k ||| ((((t i >>> k) &&& 1) <<< i) % 256)) j = colR t x (i + 1) j :=
  upd_snoc hlo (by rw [colR, if_neg h, hhi k (Nat.le_refl _) hk])
theorem col_hi (hhi : ∀ j, k ≤ j → j < m → d j = colR t x i j) : ∀ j, k + 1 ≤ j → j < m → upd d k v j = colR t x i j := fun j h1 h2 => by rw [upd_ne (by omega)]; exact hhi j (by omega) h2
end
/-! ### sets that learn nothing -/
def blB (m : Nat) (a b : Nat → Nat) (x : Nat) : Bool := decide (∀ j, j < m → srtF m (colR a x 6) j = srtF m (colR b x 6) j)
def eqR (n : Nat) (c d : Nat → Nat) : Bool := decide (∀ j, j < n → c j = d j)
theorem eqR_f {n k : Nat} {c d : Nat → Nat} (hk : k < n) (h : ¬ c k = d k) : false = eqR n c d := (decide_eq_false fun q => h (q k hk)).symm
theorem eqR_t {n : Nat} {c d : Nat → Nat} (h : ∀ j, j < n → c j = d j) : true = eqR n c d := (decide_eq_true h).symm
theorem cnt_le (u : Nat → Nat) (v : Nat) : ∀ n, cnt u v n ≤ n
  | 0 => Nat.le_refl _
  | n + 1 => by have := cnt_le u v n; rw [cnt]; split <;> omega
theorem cnt_big {u : Nat → Nat} {v : Nat} (h : ∀ j, u j < v) : ∀ n, cnt u v n = 0
  | 0 => rfl
  | n + 1 => by rw [cnt, cnt_big h n, if_neg (by have := h n; omega)]
theorem cnt_step {e u : Nat → Nat} {k : Nat} (h : ∀ v, e v = cnt u v k) : ∀ v, upd e (u k) (e (u k) + 1) v = cnt u v (k + 1) := fun v => by
  rw [cnt]
  by_cases hv : v = u k
  · subst hv; rw [upd_same, if_pos rfl, h]
  · rw [upd_ne hv, if_neg (fun q => hv q.symm), h]; rfl
def cntC (t : Nat → Nat) (x m : Nat) : Nat → Nat := fun v => cnt (colR t x 6) v m
theorem flat_arrU {k : IntKind} {n : Nat} {c : Nat → Nat} (h : ∀ j, j < n → fitI k ((c j : Nat) : Int)) : Flat (arrU k n c) (List.replicate n k) := by
  refine ⟨by simp [arrU], fun j k' hj => ?_⟩
  have hjn : j < n := by
    rcases Nat.lt_or_ge j n with h | h
    · exact h
    · rw [List.getElem?_eq_none (by simpa using h)] at hj; cases hj
  rw [List.getElem?_replicate, if_pos hjn] at hj
  obtain rfl : k = k' := by injection hj
  exact ⟨_, arrU_get hjn, h j hjn⟩
theorem flat_cnt {t : Nat → Nat} {x m : Nat} (hm : m ≤ 8) : Flat (arrU .i8 64 (cntC t x m)) (List.replicate 64 .i8) := flat_arrU fun j _ => by
  have := cnt_le (colR t x 6) j m
  show fitI .i8 ((cnt (colR t x 6) j m : Nat) : Int)
  simp only [fitI]; omega
theorem bl_cnt {m : Nat} {a b : Nat → Nat} {x : Nat} : eqR 64 (cntC b x m) (cntC a x m) = blB m a b x := by
  unfold blB eqR
  refine decide_eq_decide.2 (Iff.trans (b := ∀ v, cnt (colR a x 6) v m = cnt (colR b x 6) v m) ⟨fun h v => ?_, fun h v _ => (h v).symm⟩ srt_eq.symm)
  rcases Nat.lt_or_ge v 64 with hv | hv
  · exact (h v hv).symm
  · rw [cnt_big (fun j => Nat.lt_of_lt_of_le (colR_64 a x j 6 (by decide)) hv), cnt_big (fun j => Nat.lt_of_lt_of_le (colR_64 b x j 6 (by decide)) hv)]
theorem arrU_inj {k : IntKind} {n : Nat} {c d : Nat → Nat} : arrU k n c = arrU k n d ↔ ∀ j, j < n → c j = d j := by
  constructor
  · intro h j hj
    have h1 := arrU_get (k := k) (c := c) hj
    rw [h, arrU_get hj] at h1
    injection h1 with h1
    injection h1 with _ h1
    exact (Int.ofNat.inj h1).symm
  · exact fun h => arrU_congr h
/-! ### tables -/
def blen (x : Nat) : Nat := if x = 0 then 0 else Nat.log2 x + 1
theorem tab_gen (f : Nat → Nat) (s : ByteArray) (h : ((List.range 256).all fun i => decide (s[i]? = some (UInt8.ofNat (f i)))) = true) {i : Nat} (hi : i < 256) : s[i]? = some (UInt8.ofNat (f i)) := by
  rw [List.all_eq_true] at h
  exact of_decide_eq_true (h i (by simpa using hi))
attribute [irreducible] srtF blB eqR
end Go.Proofs.Ytagghfllgafmgaa
