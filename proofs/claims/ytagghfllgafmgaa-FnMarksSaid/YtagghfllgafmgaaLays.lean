/-
  Rows of layers, one behind the other.
-/
import Derived.Test.YtagghfllgafmgaaHan
import Derived.Test.YtagghfllgafmgaaDefs
namespace Go.Proofs.Ytagghfllgafmgaa
set_option linter.unusedVariables false
set_option linter.unusedSimpArgs false
open Go.RowKit
def layR (p : Nat → Int) (c : Nat → Nat → Nat) (i : Nat) : List Value := layV (p i) (c i)
def layS (n : Nat) (p : Nat → Int) (c : Nat → Nat → Nat) : List Value := recV n (layR p c)
theorem layS_row (p : Nat → Int) (c : Nat → Nat → Nat) : ∀ i, (layR p c i).length = 65 := fun i => layV_len
theorem layS_put {n i : Nat} {u : Int} {v : Nat → Nat} {p : Nat → Int} {c : Nat → Nat → Nat} (h : i < n) : (layS n p c).take (0 + i * 65) ++ layV u v ++ (layS n p c).drop (0 + i * 65 + 65) = layS n (upd p i u) (upd c i v) := by
  unfold layS
  rw [recV_set0 (layS_row p c) h layV_len]
  refine recV_congr fun r _ => ?_
  unfold layR upd
  split <;> rfl
theorem layS_set_p {n i : Nat} {u : Int} {p : Nat → Int} {c : Nat → Nat → Nat} (h : i < n) : (layS n p c).set (0 + i * 65) (.int .i8 u) = layS n (upd p i u) c := by
  unfold layS
  rw [Nat.zero_add, ← Nat.add_zero (i * 65), recV_cell (layS_row p c) h (by decide)]
  refine recV_congr fun r _ => ?_
  unfold layR upd
  split <;> rfl
theorem layS_set_c {n i k v : Nat} {p : Nat → Int} {c : Nat → Nat → Nat} (h : i < n) (hk : k < 64) : (layS n p c).set (0 + i * 65 + 1 + k) (.int .u8 ((v : Nat) : Int)) = layS n p (upd c i (upd (c i) k v)) := by
  unfold layS
  rw [Nat.zero_add, Nat.add_assoc, recV_cell (layS_row p c) h (by omega)]
  refine recV_congr fun r _ => ?_
  unfold layR
  by_cases e : r = i
  · subst e; rw [if_pos rfl, layV_set_c, upd_same]
  · rw [if_neg e, upd_ne e]
theorem layS_in {n i j q : Nat} {p : Nat → Int} {c : Nat → Nat → Nat} (h : i < n) (hj : j < 65) (e : q = i * 65 + j) : q < (layS n p c).length := by subst e; exact recV_in (layS_row p c) h hj
theorem layS_congr {n : Nat} {p p' : Nat → Int} {c c' : Nat → Nat → Nat} (hp : ∀ i, i < n → p i = p' i) (hc : ∀ i, i < n → ∀ k, k < 64 → c i k = c' i k) : layS n p c = layS n p' c' := recV_congr fun i hi => by
  unfold layR; rw [hp i hi]; exact layV_congr rfl (hc i hi)
theorem layS_of {n : Nat} {G : Nat → List Value} (hG : ∀ i, i < n → Flat (G i) (.i8 :: List.replicate 64 .u8)) : ∃ (p : Nat → Int) (c : Nat → Nat → Nat), recV n G = layS n p c ∧ (∀ i, i < n → -128 ≤ p i ∧ p i ≤ 127) ∧ (∀ i k, c i k < 256) := by
  have h : ∀ i, ∃ q : Int × (Nat → Nat), (i < n → G i = layV q.1 q.2 ∧ (-128 ≤ q.1 ∧ q.1 ≤ 127)) ∧ ∀ k, q.2 k < 256 := by
    intro i
    by_cases hi : i < n
    · obtain ⟨p, c, h1, h2, h3⟩ := (hG i hi).lay
      exact ⟨(p, c), fun _ => ⟨h1, h2⟩, h3⟩
    · exact ⟨(0, fun _ => 0), fun h => absurd h hi, fun _ => by show 0 < 256; decide⟩
  exact ⟨fun i => (Classical.choose (h i)).1, fun i => (Classical.choose (h i)).2, recV_congr fun i hi => ((Classical.choose_spec (h i)).1 hi).1, fun i hi => ((Classical.choose_spec (h i)).1 hi).2, fun i => (Classical.choose_spec (h i)).2⟩
theorem Flat.lays : ∀ (n : Nat) {cs : List Value}, Flat cs (List.replicate n (IntKind.i8 :: List.replicate 64 .u8)).flatten → ∃ (p : Nat → Int) (c : Nat → Nat → Nat), cs = layS n p c ∧ (∀ i, i < n → -128 ≤ p i ∧ p i ≤ 127) ∧ (∀ i k, c i k < 256)
  | 0, cs, h => ⟨fun _ => 0, fun _ _ => 0, by rw [show cs = [] from Flat.nil h]; rfl, fun i hi => by omega, fun _ _ => by show 0 < 256; decide⟩
  | n + 1, cs, h => by
    rw [List.replicate_succ', List.flatten_append] at h
    obtain ⟨a, b, rfl, h1, h2⟩ := h.split
    rw [List.flatten_cons, List.flatten_nil, List.append_nil] at h2
    obtain ⟨p, c, rfl, hp, hc⟩ := Flat.lays n h1
    obtain ⟨q, d, rfl, hq, hd⟩ := h2.lay
    refine ⟨upd p n q, upd c n d, ?_, ?_, ?_⟩
    · unfold layS
      rw [recV_succ]
      congr 1
      · exact recV_congr fun i hi => by unfold layR upd; rw [if_neg (by omega), if_neg (by omega)]
      · unfold layR upd; rw [if_pos rfl, if_pos rfl]
    · intro i hi
      unfold upd; split
      · exact hq
      · exact hp i (by omega)
    · intro i k
      by_cases e : i = n
      · subst e; rw [upd_same]; exact hd k
      · rw [upd_ne e]; exact hc i k
/-- a literal of one, two, three layers -/
theorem layS_1 (p : Int) (c : Nat → Nat) : layV p c = layS 1 (fun _ => p) (fun _ => c) := by unfold layS recV layR; simp
theorem layS_app {n : Nat} {p : Nat → Int} {c : Nat → Nat → Nat} (u : Int) (v : Nat → Nat) : layS n p c ++ layV u v = layS (n + 1) (upd p n u) (upd c n v) := by
  unfold layS
  rw [recV_succ]
  congr 1
  · exact recV_congr fun i hi => by unfold layR upd; rw [if_neg (by omega), if_neg (by omega)]
  · unfold layR upd; rw [if_pos rfl, if_pos rfl]
theorem layS_app1 {n : Nat} {p : Nat → Int} {c : Nat → Nat → Nat} (u : Int) (v : Nat → Nat) : layS n p c ++ layS 1 (fun i => [u].getD i 0) (fun i => [v].getD i (fun _ => 0)) = layS (n + 1) (upd p n u) (upd c n v) := by
  rw [← layS_app]; congr 1
theorem layS_one {n : Nat} (p : Nat → Int) (c : Nat → Nat → Nat) : ∀ v, v ∈ layS n p c → v.oneCell' = true := by
  intro v hv
  obtain ⟨i, _, hi⟩ := List.mem_flatMap.1 hv
  exact layV_one v hi
theorem setFrom_eq (off : Nat) : ∀ (vs : List Value) (j : Nat) (z : List Value), off + j + vs.length ≤ z.length → (vs.zipIdx j).foldl (fun (cs : List Value) (x : Value × Nat) => cs.set (off + x.2) x.1) z = z.take (off + j) ++ vs ++ z.drop (off + j + vs.length)
  | [], j, z, _ => by simp
  | v :: vs, j, z, h => by
    simp only [List.length_cons] at h
    rw [List.zipIdx_cons, List.foldl_cons, setFrom_eq off vs (j + 1) (z.set (off + j) v) (by rw [List.length_set]; omega)]
    have e1 : (z.set (off + j) v).take (off + (j + 1)) = z.take (off + j) ++ [v] := by
      rw [show off + (j + 1) = off + j + 1 by omega, List.take_succ_eq_append_getElem (by rw [List.length_set]; omega)]
      simp [List.take_set_of_le]
    have e2 : (z.set (off + j) v).drop (off + (j + 1) + vs.length) = z.drop (off + j + (v :: vs).length) := by
      rw [List.drop_set_of_lt (by omega)]
      congr 1
      simp; omega
    rw [e1, e2]; simp
theorem setAll_eq {off : Nat} {z vs : List Value} (h : off + vs.length ≤ z.length) : setAll off z vs = z.take off ++ vs ++ z.drop (off + vs.length) := by
  have := setFrom_eq off vs 0 z (by omega)
  simpa [setAll] using this
theorem fill_full {s n : Nat} : ∀ (ls : List (List Value)) (i : Nat) (z : List Value), (∀ l, l ∈ ls → l.length = s) → i + ls.length = n → z.length = n * s →
    fillL ((List.range n).map fun i => (i * s, s)) z ((ls.zipIdx i).map fun q => (q.2, Value.agg q.1.toArray)) = some (z.take (i * s) ++ ls.flatten)
  | [], i, z, _, hn, hz => by
    simp only [List.length_nil, Nat.add_zero] at hn
    subst hn
    simp [fillL, List.take_of_length_le (Nat.le_of_eq hz)]
  | l :: ls, i, z, hl, hn, hz => by
    simp only [List.length_cons] at hn
    have hls := hl l (by simp)
    have hi : i < n := by omega
    have hm : i * s + s ≤ n * s := by rw [← Nat.succ_mul]; exact Nat.mul_le_mul_right s hi
    rw [List.zipIdx_cons, List.map_cons]
    unfold fillL
    have hp : ((List.range n).map fun i => (i * s, s))[i]? = some (i * s, s) := by simp [hi]
    simp only [hp]
    rw [if_pos ⟨by simp [Value.cells, hls], by omega⟩]
    have e : (Value.agg l.toArray).cells.toList = l := rfl
    have hz' : (z.take (i * s) ++ l ++ z.drop (i * s + l.length)).length = n * s := by
      simp only [List.length_append, List.length_take, List.length_drop]; omega
    rw [e, setAll_eq (by omega), fill_full ls (i + 1) _ (fun l h => hl l (by simp [h])) (by omega) hz']
    congr 1
    rw [List.flatten_cons, ← List.append_assoc]
    congr 1
    refine List.take_left' ?_
    simp only [List.length_append, List.length_take]
    rw [Nat.succ_mul]; omega
theorem zerosL_len (m : Nat) (z : List Value) : (zerosL m z).length = m := by simp [zerosL]
theorem lit_lays1 (p : Int) (c : Nat → Nat) (z : List Value) : fillL ((List.range 1).map fun i => (i * 65, 65)) (zerosL (1 * 65) z) [(0, .agg (layV p c).toArray)] = some (layS 1 (fun i => [p].getD i 0) (fun i => [c].getD i (fun _ => 0))) := by
  have := fill_full (s := 65) (n := 1) [layV p c] 0 (zerosL (1 * 65) z) (by simp [layV_len]) rfl (zerosL_len _ _)
  refine this.trans ?_
  simp [layS, recV, layR]
theorem lit_lays2 (p q : Int) (c d : Nat → Nat) (z : List Value) : fillL ((List.range 2).map fun i => (i * 65, 65)) (zerosL (2 * 65) z) [(0, .agg (layV p c).toArray), (1, .agg (layV q d).toArray)] = some (layS 2 (fun i => [p, q].getD i 0) (fun i => [c, d].getD i (fun _ => 0))) := by
  have := fill_full (s := 65) (n := 2) [layV p c, layV q d] 0 (zerosL (2 * 65) z) (by simp [layV_len]) rfl (zerosL_len _ _)
  refine this.trans ?_
  simp [layS, recV, layR, List.range_succ]
theorem lit_lays3 (p q r : Int) (c d e : Nat → Nat) (z : List Value) : fillL ((List.range 3).map fun i => (i * 65, 65)) (zerosL (3 * 65) z) [(0, .agg (layV p c).toArray), (1, .agg (layV q d).toArray), (2, .agg (layV r e).toArray)] = some (layS 3 (fun i => [p, q, r].getD i 0) (fun i => [c, d, e].getD i (fun _ => 0))) := by
  have := fill_full (s := 65) (n := 3) [layV p c, layV q d, layV r e] 0 (zerosL (3 * 65) z) (by simp [layV_len]) rfl (zerosL_len _ _)
  refine this.trans ?_
  simp [layS, recV, layR, List.range_succ]
theorem lit_lt1 {c : Nat → Nat} (h : ∀ k, c k < 256) : ∀ i k, ([c].getD i (fun _ => 0)) k < 256
  | 0, k => h k
  | _ + 1, k => by show 0 < 256; decide
theorem lit_lt2 {c d : Nat → Nat} (h : ∀ k, c k < 256) (h2 : ∀ k, d k < 256) : ∀ i k, ([c, d].getD i (fun _ => 0)) k < 256
  | 0, k => h k
  | 1, k => h2 k
  | _ + 2, k => by show 0 < 256; decide
theorem lit_lt3 {c d e : Nat → Nat} (h : ∀ k, c k < 256) (h2 : ∀ k, d k < 256) (h3 : ∀ k, e k < 256) : ∀ i k, ([c, d, e].getD i (fun _ => 0)) k < 256
  | 0, k => h k
  | 1, k => h2 k
  | 2, k => h3 k
  | _ + 3, k => by show 0 < 256; decide
def layAll (n : Nat) (p : Nat → Int) (c : Nat → Nat → Nat) : Bool := (List.range n).all fun k => layOk (p k) (c k)
theorem layAll_f {n k : Nat} {p : Nat → Int} {c : Nat → Nat → Nat} (hk : k < n) (h : layOk (p k) (c k) = false) : false = layAll n p c := by
  symm; unfold layAll; rw [List.all_eq_false]; exact ⟨k, by simpa using hk, by simp [h]⟩
theorem layAll_t {n : Nat} {p : Nat → Int} {c : Nat → Nat → Nat} (h : ∀ k, k < n → layOk (p k) (c k) = true) : true = layAll n p c := by
  symm; unfold layAll; rw [List.all_eq_true]; intro k hk; exact h k (by simpa using hk)
end Go.Proofs.Ytagghfllgafmgaa
