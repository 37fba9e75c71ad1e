/-
  Slices: literals, rows of records, fields of rows. Nothing here speaks of one program.
-/
import Derived.Test.YtjkicobdokcjfaaMore
namespace Go.Proofs.Ytjkicobdokcjfaa
set_option linter.unusedVariables false
set_option linter.unusedSimpArgs false
open Go.RowKit
variable {P : Program}

def zerosL (m : Nat) (zl : List Value) : List Value := (List.range m).map fun i => zl[i % zl.length]!
section
variable {n₀ : Nat} {ops : Array Oper} {Q : LPost} {rest : List Oper} {f : Env} {w w0 : World} {X : List Nat} {L : List Ent} {t : TypeId} {p : String} {af : Array Edge}
theorem Wl.buildSlice {d : Tmp} {T e : TypeId} {len s by_ : Nat} {ps : List (Nat × Value)} {parts : List (Nat × Operand)} {z : Value} {cs : List Value} (st : St X w0 w L) (hT : tyS P T = some (e, s, by_)) (hz : tyZ P e = some z) (hl : Nat.ble (len * s) 16777216 = true)
    (hp : evP f parts = some ps) (hf : fillL ((List.range len).map fun i => (i * s, s)) (zerosL (len * s) z.cells.toList) ps = some cs)
    (k : ∀ b w', St X w0 w' ((b, cs, e) :: L) → Wl P n₀ ops Q rest ((d, .slice (some ⟨b, 0, none⟩) len len) :: f) w') : Wl P n₀ ops Q (⟨some d, .buildSlice T len parts.toArray, t, p, af, none⟩ :: rest) f w := by
  refine Wl.run (v := .slice (some ⟨w.heap.size, 0, none⟩) len len) (w' := w.alloc (.cells cs.toArray e)) (fun ρ hρ => ?_) (k _ _ (st.new cs e))
  have hp := hρ.parts hp
  obtain ⟨j, hu, hj, hn, _⟩ := tyS_spec hT
  have hfill := fill_arr len s ps _ cs hf
  have e1 : (parts.toArray.map fun (x : Nat × Operand) => match x with | (i, x) => (i, ρ x)).toList = ps := by
    rw [← hp]; simp
  have hl' : ¬ len * s > 2 ^ 24 := by have := Nat.le_of_ble_eq_true hl; omega
  by_cases h0 : len * s = 0
  · have e2 : ((Array.range (len * s)).map fun x => (#[] : Array Value)[x % (#[] : Array Value).size]!) = (zerosL (len * s) z.cells.toList).toArray := by unfold zerosL; rw [h0]; simp
    simp only [execOp, Instr.buildSlice, Sem.run_bind, run_und hu, run_size hj, hn, Result.andThen_ok, if_neg hl', if_pos h0, Sem.run_pure, e1, e2, hfill]
    simp [newRow]
  · have e2 : ((Array.range (len * s)).map fun x => z.cells[x % z.cells.size]!) = (zerosL (len * s) z.cells.toList).toArray := by
      apply Array.ext'
      simp only [zerosL, Array.toList_map, Array.toList_range, List.map_inj_left, Array.length_toList]
      intro a _
      simp [getElem!_def]
    simp only [execOp, Instr.buildSlice, Sem.run_bind, run_und hu, run_size hj, hn, Result.andThen_ok, if_neg hl', if_neg h0, Sem.run_pure, e1, tyZ_spec hz, e2, hfill]
    simp [newRow]
end

/-! ### rows of records of one length -/
def recV (n : Nat) (g : Nat → List Value) : List Value := (List.range n).flatMap g
theorem recV_succ (n : Nat) (g : Nat → List Value) : recV (n + 1) g = recV n g ++ g n := by simp [recV, List.range_succ]
theorem recV_len {s : Nat} {g : Nat → List Value} (hg : ∀ i, (g i).length = s) (n : Nat) : (recV n g).length = n * s := by
  induction n with
  | zero => simp [recV]
  | succ n ih => rw [recV_succ, List.length_append, ih, hg, Nat.succ_mul]
theorem recV_drop {s : Nat} {g : Nat → List Value} (hg : ∀ i, (g i).length = s) {n i : Nat} (h : i ≤ n) : ∃ r, recV n g = recV i g ++ r ∧ (i < n → ∃ r', r = g i ++ r') := by
  induction n with
  | zero => exact ⟨[], by rw [Nat.le_zero.1 h]; simp, fun h => absurd h (by omega)⟩
  | succ n ih =>
    by_cases e : i = n + 1
    · subst e; exact ⟨[], by simp, fun h => absurd h (by omega)⟩
    · obtain ⟨r, h1, h2⟩ := ih (by omega)
      refine ⟨r ++ g n, by rw [recV_succ, h1, List.append_assoc], fun _ => ?_⟩
      by_cases e2 : i = n
      · subst e2
        have : r = [] := by
          have h3 := congrArg List.length h1
          rw [List.length_append] at h3
          exact List.length_eq_zero_iff.1 (by omega)
        subst this
        exact ⟨[], by simp⟩
      · obtain ⟨r', h3⟩ := h2 (by omega)
        exact ⟨r' ++ g n, by rw [h3, List.append_assoc]⟩
theorem recV_sub {s : Nat} {g : Nat → List Value} (hg : ∀ i, (g i).length = s) {n i : Nat} (h : i < n) : ((recV n g).drop (i * s)).take s = g i := by
  obtain ⟨r, h1, h2⟩ := recV_drop hg (Nat.le_of_lt h)
  obtain ⟨r', h3⟩ := h2 h
  rw [h1, h3, List.drop_append_of_le_length (by rw [recV_len hg]; exact Nat.le_refl _), List.drop_eq_nil_of_le (by rw [recV_len hg]; exact Nat.le_refl _), List.nil_append, ← hg i, List.take_left]
theorem recV_get {s : Nat} {g : Nat → List Value} (hg : ∀ i, (g i).length = s) {n i j : Nat} {v : Value} (h : i < n) (hj : (g i)[j]? = some v) : (recV n g)[i * s + j]? = some v := by
  have := get_of_sub (recV_sub hg h) j v hj
  exact this
theorem recV_sub0 {s : Nat} {g : Nat → List Value} (hg : ∀ i, (g i).length = s) {n i : Nat} (h : i < n) : ((recV n g).drop (0 + i * s)).take s = g i := by rw [Nat.zero_add]; exact recV_sub hg h
theorem recV_get0 {s : Nat} {g : Nat → List Value} (hg : ∀ i, (g i).length = s) {n i j : Nat} {v : Value} (h : i < n) (hj : (g i)[j]? = some v) : (recV n g)[0 + i * s + j]? = some v := by rw [Nat.zero_add]; exact recV_get hg h hj
theorem recV_congr {n : Nat} {g g' : Nat → List Value} (h : ∀ i, i < n → g i = g' i) : recV n g = recV n g' := by
  induction n with
  | zero => rfl
  | succ n ih => rw [recV_succ, recV_succ, ih (fun i hi => h i (by omega)), h n (by omega)]
end Go.Proofs.Ytjkicobdokcjfaa
