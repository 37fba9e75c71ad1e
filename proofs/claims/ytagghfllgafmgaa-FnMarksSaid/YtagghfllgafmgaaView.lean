/-
  How the program's data lie in cells: arrays of whole numbers as functions, layers, schemes. Nothing here speaks of one program.
-/
import Derived.Test.YtagghfllgafmgaaQui
namespace Go.Proofs.Ytagghfllgafmgaa
set_option linter.unusedVariables false
set_option linter.unusedSimpArgs false
open Go.RowKit

/-- n whole numbers of an unsigned kind -/
def arrU (k : IntKind) (n : Nat) (c : Nat → Nat) : List Value := (List.range n).map fun j => .int k ((c j : Nat) : Int)
/-- n whole numbers of a signed kind -/
def arrZ (k : IntKind) (n : Nat) (c : Nat → Int) : List Value := (List.range n).map fun j => .int k (c j)
def upd {α : Type} (c : Nat → α) (i : Nat) (v : α) : Nat → α := fun j => if j = i then v else c j
theorem upd_same {α : Type} (c : Nat → α) (i : Nat) (v : α) : upd c i v i = v := by simp [upd]
theorem upd_ne {α : Type} {c : Nat → α} {i j : Nat} {v : α} (h : j ≠ i) : upd c i v j = c j := by simp [upd, h]
theorem upd_lt {c : Nat → Nat} {i v B : Nat} (hc : ∀ k, c k < B) (hv : v < B) : ∀ k, upd c i v k < B := by
  intro k; unfold upd; split
  · exact hv
  · exact hc k
theorem upd2_lt {c : Nat → Nat → Nat} {i k v B : Nat} (hc : ∀ i k, c i k < B) (hv : v < B) : ∀ j r, upd c i (upd (c i) k v) j r < B := by
  intro j r
  by_cases e : j = i
  · subst e; rw [upd_same]; exact upd_lt (hc j) hv r
  · rw [upd_ne e]; exact hc j r
section
variable {k : IntKind} {n i : Nat}
theorem arrU_len (c : Nat → Nat) : (arrU k n c).length = n := by simp [arrU]
theorem arrZ_len (c : Nat → Int) : (arrZ k n c).length = n := by simp [arrZ]
theorem arrU_get {c : Nat → Nat} (h : i < n) : (arrU k n c)[i]? = some (.int k ((c i : Nat) : Int)) := by simp [arrU, h]
theorem arrZ_get {c : Nat → Int} (h : i < n) : (arrZ k n c)[i]? = some (.int k (c i)) := by simp [arrZ, h]
theorem arrU_set {c : Nat → Nat} {v : Nat} : (arrU k n c).set i (.int k ((v : Nat) : Int)) = arrU k n (upd c i v) := by
  apply List.ext_getElem?
  intro j
  rw [List.getElem?_set]
  by_cases hj : j < n
  · by_cases e : i = j
    · subst e; simp [arrU, hj, upd]
    · rw [if_neg e, arrU_get hj, arrU_get hj, upd_ne (fun h => e h.symm)]
  · have h1 : (arrU k n (upd c i v))[j]? = none := List.getElem?_eq_none (by rw [arrU_len]; omega)
    have h2 : (arrU k n c)[j]? = none := List.getElem?_eq_none (by rw [arrU_len]; omega)
    rw [h1, h2, arrU_len]
    split <;> simp
    omega
theorem arrZ_set {c : Nat → Int} {v : Int} : (arrZ k n c).set i (.int k v) = arrZ k n (upd c i v) := by
  apply List.ext_getElem?
  intro j
  rw [List.getElem?_set]
  by_cases hj : j < n
  · by_cases e : i = j
    · subst e; simp [arrZ, hj, upd]
    · rw [if_neg e, arrZ_get hj, arrZ_get hj, upd_ne (fun h => e h.symm)]
  · have h1 : (arrZ k n (upd c i v))[j]? = none := List.getElem?_eq_none (by rw [arrZ_len]; omega)
    have h2 : (arrZ k n c)[j]? = none := List.getElem?_eq_none (by rw [arrZ_len]; omega)
    rw [h1, h2, arrZ_len]
    split <;> simp
    omega
theorem arrU_congr {c d : Nat → Nat} (h : ∀ j, j < n → c j = d j) : arrU k n c = arrU k n d := by
  unfold arrU; apply List.map_congr_left; intro j hj; rw [h j (List.mem_range.1 hj)]
theorem arrZ_congr {c d : Nat → Int} (h : ∀ j, j < n → c j = d j) : arrZ k n c = arrZ k n d := by
  unfold arrZ; apply List.map_congr_left; intro j hj; rw [h j (List.mem_range.1 hj)]
theorem arrU_one (c : Nat → Nat) : ∀ v, v ∈ arrU k n c → v.oneCell' = true := by
  intro v hv; obtain ⟨j, _, rfl⟩ := List.mem_map.1 hv; rfl
theorem arrZ_one (c : Nat → Int) : ∀ v, v ∈ arrZ k n c → v.oneCell' = true := by
  intro v hv; obtain ⟨j, _, rfl⟩ := List.mem_map.1 hv; rfl
end
/-- all of a list -/
theorem all_sub {cs : List Value} {n : Nat} (h : cs.length = n) : (cs.drop 0).take n = cs := by rw [List.drop_zero, ← h, List.take_length]
theorem all_put {cs ds : List Value} {n : Nat} (h : cs.length = n) : cs.take 0 ++ ds ++ cs.drop (0 + n) = ds := by rw [List.take_zero, List.nil_append, Nat.zero_add, ← h, List.drop_length, List.append_nil]

/-! ### a layer -/
def layV (p : Int) (c : Nat → Nat) : List Value := .int .i8 p :: arrU .u8 64 c
section
variable {p q : Int} {c d : Nat → Nat} {i : Nat}
theorem layV_len : (layV p c).length = 65 := by simp [layV, arrU_len]
theorem layV_get_c (h : i < 64) : (layV p c)[1 + i]? = some (.int .u8 ((c i : Nat) : Int)) := by
  rw [layV, Nat.add_comm, List.getElem?_cons_succ, arrU_get h]
theorem layV_set_c {v : Nat} : (layV p c).set (1 + i) (.int .u8 ((v : Nat) : Int)) = layV p (upd c i v) := by
  rw [layV, Nat.add_comm, List.set_cons_succ, arrU_set]; rfl
theorem layV_sub_c : ((layV p c).drop 1).take 64 = arrU .u8 64 c := by
  rw [layV, List.drop_succ_cons, List.drop_zero]
  exact List.take_of_length_le (by rw [arrU_len]; omega)
theorem layV_put_c : (layV p c).take 1 ++ arrU .u8 64 d ++ (layV p c).drop (1 + 64) = layV p d := by
  have h : (layV p c).drop (1 + 64) = [] := List.drop_eq_nil_iff.2 (by rw [layV_len]; omega)
  rw [h]; simp [layV]
theorem layV_one : ∀ v, v ∈ layV p c → v.oneCell' = true := by
  intro v hv
  rcases List.mem_cons.1 hv with rfl | h
  · rfl
  · exact arrU_one _ v h
theorem layV_congr (hp : p = q) (h : ∀ j, j < 64 → c j = d j) : layV p c = layV q d := by subst hp; unfold layV; rw [arrU_congr h]
end

/-! ### a scheme -/
def schV (s p : Int) (a b : Nat → Nat) : List Value := .int .i8 s :: .int .i8 p :: (arrU .u8 6 a ++ arrU .u8 6 b)
section
variable {s p s' p' : Int} {a b c d : Nat → Nat} {i : Nat}
theorem schV_len : (schV s p a b).length = 14 := by simp [schV, arrU_len]
theorem schV_get_a (h : i < 6) : (schV s p a b)[2 + i]? = some (.int .u8 ((a i : Nat) : Int)) := by
  rw [schV, Nat.add_comm, List.getElem?_cons_succ, List.getElem?_cons_succ, List.getElem?_append_left (by rw [arrU_len]; exact h), arrU_get h]
theorem schV_get_b (h : i < 6) : (schV s p a b)[8 + i]? = some (.int .u8 ((b i : Nat) : Int)) := by
  rw [schV, show 8 + i = 6 + i + 1 + 1 by omega, List.getElem?_cons_succ, List.getElem?_cons_succ, List.getElem?_append_right (by rw [arrU_len]; omega), arrU_len, Nat.add_sub_cancel_left, arrU_get h]
theorem schV_set_a {v : Nat} (h : i < 6) : (schV s p a b).set (2 + i) (.int .u8 ((v : Nat) : Int)) = schV s p (upd a i v) b := by
  rw [schV, Nat.add_comm, List.set_cons_succ, List.set_cons_succ, List.set_append_left _ _ (by rw [arrU_len]; exact h), arrU_set]; rfl
theorem schV_set_b {v : Nat} : (schV s p a b).set (8 + i) (.int .u8 ((v : Nat) : Int)) = schV s p a (upd b i v) := by
  rw [schV, show 8 + i = 6 + i + 1 + 1 by omega, List.set_cons_succ, List.set_cons_succ, List.set_append_right _ _ (by rw [arrU_len]; omega), arrU_len, Nat.add_sub_cancel_left, arrU_set]; rfl
theorem schV_sub_a : ((schV s p a b).drop 2).take 6 = arrU .u8 6 a := by
  rw [schV, List.drop_succ_cons, List.drop_succ_cons, List.drop_zero]
  exact List.take_left' (arrU_len _)
theorem schV_sub_b : ((schV s p a b).drop 8).take 6 = arrU .u8 6 b := by
  rw [schV, List.drop_succ_cons, List.drop_succ_cons, List.drop_left' (arrU_len _)]
  exact List.take_of_length_le (by rw [arrU_len]; omega)
theorem schV_put_a : (schV s p a b).take 2 ++ arrU .u8 6 c ++ (schV s p a b).drop (2 + 6) = schV s p c b := by
  have h : (schV s p a b).drop (2 + 6) = arrU .u8 6 b := by
    rw [schV, List.drop_succ_cons, List.drop_succ_cons, List.drop_left' (arrU_len _)]
  rw [h]; simp [schV]
theorem schV_put_b : (schV s p a b).take 8 ++ arrU .u8 6 c ++ (schV s p a b).drop (8 + 6) = schV s p a c := by
  have h : (schV s p a b).drop (8 + 6) = [] := List.drop_eq_nil_iff.2 (by rw [schV_len]; omega)
  have h2 : (schV s p a b).take 8 = .int .i8 s :: .int .i8 p :: arrU .u8 6 a := by
    rw [schV, List.take_succ_cons, List.take_succ_cons, List.take_left' (arrU_len _)]
  rw [h, h2]; simp [schV]
theorem schV_one : ∀ v, v ∈ schV s p a b → v.oneCell' = true := by
  intro v hv
  rcases List.mem_cons.1 hv with rfl | h
  · rfl
  · rcases List.mem_cons.1 h with rfl | h
    · rfl
    · rcases List.mem_append.1 h with h | h
      · exact arrU_one _ v h
      · exact arrU_one _ v h
theorem schV_congr (h1 : s = s') (h2 : p = p') (h3 : ∀ j, j < 6 → a j = c j) (h4 : ∀ j, j < 6 → b j = d j) : schV s p a b = schV s' p' c d := by subst h1; subst h2; unfold schV; rw [arrU_congr h3, arrU_congr h4]
end

/-! ### ways on -/
section
variable {P : Program} {y : Code} {Q : LPost} {f : Env} {w : World} {K : Env → World → Prop}
theorem tn (h : K f w) : thenL K Q .normal f w := h
theorem tr (h : Q .ret f w) : thenL K Q .ret f w := h
theorem tx {i : Nat} (h : Q (.exit i) f w) : thenL K Q (.exit i) f w := h
theorem bn {id : Nat} (h : Q .normal f w) : blockL id Q .normal f w := h
theorem br {id : Nat} (h : Q .ret f w) : blockL id Q .ret f w := h
theorem bh {id : Nat} (h : Q .normal f w) : blockL id Q (.exit id) f w := by simp only [blockL, if_true]; exact h
theorem bx {id i : Nat} (hi : (i == id) = false) (h : Q (.exit i) f w) : blockL id Q (.exit i) f w := by
  have : i ≠ id := by simpa using hi
  simp only [blockL, if_neg this]; exact h
end
theorem RetV.of {w w' : World} {v v' : Value} (e : v' = v) (h : Below w.heap.size w w') : RetV w v (.returned v') w' := ⟨by rw [e], h⟩
end Go.Proofs.Ytagghfllgafmgaa
