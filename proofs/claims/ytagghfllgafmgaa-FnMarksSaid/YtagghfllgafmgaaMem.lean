/-
  Operations that read, write or make memory, over known blocks. Nothing here speaks of one program.
-/
import Derived.Test.YtagghfllgafmgaaOps
namespace Go.Proofs.Ytagghfllgafmgaa
set_option linter.unusedVariables false
set_option linter.unusedSimpArgs false
open Go.RowKit
variable {P : Program}

section
variable {n₀ : Nat} {ops : Array Oper} {Q : LPost} {rest : List Oper} {f : Env} {w w0 : World} {X : List Nat} {L : List Ent} {o : Op} {t : TypeId} {p : String} {af : Array Edge}

/-! ### readings -/
/-- The slice value v reads as n elements of sz cells each, one behind the other in vs. -/
def Rd (w : World) (sz n : Nat) (v : Value) (vs : List Value) : Prop :=
  vs.length = n * sz ∧ ∃ A c, v = .slice A n c ∧ n ≤ c ∧ (0 < n → ∃ b o, A = some ⟨b, o, none⟩ ∧ b < w.heap.size ∧ ∀ j u, vs[j]? = some u → w.cell? ⟨b, o + j, none⟩ = some u)
theorem Rd.below {w' : World} {sz n : Nat} {v : Value} {vs : List Value} (h : Rd w sz n v vs) (hb : Below w.heap.size w w') : Rd w' sz n v vs := by
  obtain ⟨h1, A, c, rfl, hc, h2⟩ := h
  refine ⟨h1, A, c, rfl, hc, fun hn => ?_⟩
  obtain ⟨b, o, rfl, hlt, hcell⟩ := h2 hn
  exact ⟨b, o, rfl, Nat.lt_of_lt_of_le hlt hb.size, fun j u hu => by rw [hb.cell (p := ⟨b, o + j, none⟩) hlt]; exact hcell j u hu⟩
theorem Rd.nil_ (w : World) (sz : Nat) : Rd w sz 0 (.slice none 0 0) [] := ⟨by simp, none, 0, rfl, by omega, fun h => by omega⟩

/-- Cells as memory has them, in a class of worlds that all agree with w below its size. -/
theorem St.rd {i b n c sz : Nat} {cs sp : List Value} {T : TypeId} (h : St X w0 w L) (hi : L[i]? = some (b, cs ++ sp, T)) (hl : cs.length = n * sz) (hc : n ≤ c) : Rd w sz n (.slice (some ⟨b, 0, none⟩) n c) cs := by
  refine ⟨hl, _, c, rfl, hc, fun _ => ⟨b, 0, rfl, (h.ents _ (List.mem_of_getElem? hi)).2.1, fun j u hu => ?_⟩⟩
  rw [Nat.zero_add]
  refine h.cell hi ?_
  rw [List.getElem?_append_left (by
    rcases Nat.lt_or_ge j cs.length with h' | h'
    · exact h'
    · rw [List.getElem?_eq_none h'] at hu; cases hu)]
  exact hu
theorem St.rd' {i b n c sz : Nat} {cs : List Value} {T : TypeId} (h : St X w0 w L) (hi : L[i]? = some (b, cs, T)) (hl : cs.length = n * sz) (hc : n ≤ c) : Rd w sz n (.slice (some ⟨b, 0, none⟩) n c) cs :=
  St.rd (sp := []) h (by simpa using hi) hl hc

/-! ### loads -/
theorem run_load1 {T : TypeId} {n b off : Nat} {v : Value} (hT : tyA P T = some (false, n)) (hc : w.cell? ⟨b, off, none⟩ = some v) : (loadVar T ⟨b, off, none⟩).run P w = .ok v w := by
  simp [loadVar, (tyA_spec (w := w) hT).1, hc]
theorem run_loadA {T : TypeId} {n b off : Nat} {vs : List Value} (hT : tyA P T = some (true, n)) (hl : vs.length = n) (hc : ∀ j u, vs[j]? = some u → w.cell? ⟨b, off + j, none⟩ = some u) : (loadVar T ⟨b, off, none⟩).run P w = .ok (.agg vs.toArray) w := by
  have hcs := run_loadCells_list (P := P) w ⟨b, off, none⟩ vs (fun j v hv => by
    have hadd : (⟨b, off, none⟩ : Addr).add j = ⟨b, off + j, none⟩ := by unfold Addr.add; split <;> simp_all
    rw [hadd]; exact hc j v hv)
  rw [hl] at hcs
  simp [loadVar, (tyA_spec (w := w) hT).1, (tyA_spec (w := w) hT).2, hcs]
theorem exec_load {ρ : Operand → Value} (hρ : Val f ρ) {T : TypeId} {x : Operand} {b off : Nat} {v : Value} {d : Option Tmp} {g : Option (Nat × Bool)} (hx : evO f x = some (.pointer (some ⟨b, off, none⟩))) (h : (loadVar T ⟨b, off, none⟩).run P w = .ok v w) :
    (execOp ρ ⟨d, .load T x, t, p, af, g⟩).run P w = .ok (.value v) w := by
  have hx := hρ _ _ hx
  simp [execOp, hx, Instr.loadAt, Instr.sureAddr, h]
theorem Wl.load {d : Tmp} {T : TypeId} {x : Operand} {i n b off : Nat} {cs : List Value} {T' : TypeId} {v : Value} (st : St X w0 w L) (hT : tyA P T = some (false, n)) (hx : evO f x = some (.pointer (some ⟨b, off, none⟩))) (hi : L[i]? = some (b, cs, T')) (hv : cs[off]? = some v)
    (k : Wl P n₀ ops Q rest ((d, v) :: f) w) : Wl P n₀ ops Q (⟨some d, .load T x, t, p, af, none⟩ :: rest) f w :=
  Wl.run (fun _ hρ => exec_load hρ hx (run_load1 hT (st.cell hi hv))) k
theorem Wl.loadC {d : Tmp} {T : TypeId} {x : Operand} {n b off : Nat} {v : Value} (hT : tyA P T = some (false, n)) (hx : evO f x = some (.pointer (some ⟨b, off, none⟩))) (hv : w.cell? ⟨b, off, none⟩ = some v)
    (k : Wl P n₀ ops Q rest ((d, v) :: f) w) : Wl P n₀ ops Q (⟨some d, .load T x, t, p, af, none⟩ :: rest) f w :=
  Wl.run (fun _ hρ => exec_load hρ hx (run_load1 hT hv)) k
theorem get_of_sub {cs vs : List Value} {off n : Nat} (hv : (cs.drop off).take n = vs) : ∀ (j : Nat) (u : Value), vs[j]? = some u → cs[off + j]? = some u := by
  intro j u hu
  rw [← hv, List.getElem?_take] at hu
  split at hu
  · rw [List.getElem?_drop] at hu; exact hu
  · cases hu
theorem Wl.loadA {d : Tmp} {T : TypeId} {x : Operand} {i n b off : Nat} {cs vs : List Value} {T' : TypeId} (st : St X w0 w L) (hT : tyA P T = some (true, n)) (hx : evO f x = some (.pointer (some ⟨b, off, none⟩))) (hi : L[i]? = some (b, cs, T')) (hv : (cs.drop off).take n = vs) (hl : vs.length = n)
    (k : Wl P n₀ ops Q rest ((d, .agg vs.toArray) :: f) w) : Wl P n₀ ops Q (⟨some d, .load T x, t, p, af, none⟩ :: rest) f w :=
  Wl.run (fun _ hρ => exec_load hρ hx (run_loadA hT hl (fun j u hu => st.cell hi (get_of_sub hv j u hu)))) k
theorem Wl.loadAC {d : Tmp} {T : TypeId} {x : Operand} {n b off : Nat} {vs : List Value} (hT : tyA P T = some (true, n)) (hx : evO f x = some (.pointer (some ⟨b, off, none⟩))) (hl : vs.length = n) (hc : ∀ j u, vs[j]? = some u → w.cell? ⟨b, off + j, none⟩ = some u)
    (k : Wl P n₀ ops Q rest ((d, .agg vs.toArray) :: f) w) : Wl P n₀ ops Q (⟨some d, .load T x, t, p, af, none⟩ :: rest) f w :=
  Wl.run (fun _ hρ => exec_load hρ hx (run_loadA hT hl hc)) k

/-! ### new blocks -/
theorem Wl.box {d : Tmp} {T : TypeId} {x : Operand} {v : Value} {vs : List Value} (st : St X w0 w L) (hx : evO f x = some (v)) (hc : v.cells = vs.toArray)
    (k : ∀ b w', St X w0 w' ((b, vs, T) :: L) → Wl P n₀ ops Q rest ((d, .pointer (some ⟨b, 0, none⟩)) :: f) w') : Wl P n₀ ops Q (⟨some d, .box T x, t, p, af, none⟩ :: rest) f w := by
  refine Wl.run (v := .pointer (some ⟨w.heap.size, 0, none⟩)) (w' := w.alloc (.cells vs.toArray T)) (fun ρ hρ => ?_) (k _ _ (st.new vs T))
  have hx := hρ _ _ hx
  simp [execOp, hx, Instr.box, newVar, newRow, hc]
theorem Wl.boxA {d : Tmp} {T : TypeId} {x : Operand} {vs : List Value} (st : St X w0 w L) (hx : evO f x = some (.agg vs.toArray))
    (k : ∀ b w', St X w0 w' ((b, vs, T) :: L) → Wl P n₀ ops Q rest ((d, .pointer (some ⟨b, 0, none⟩)) :: f) w') : Wl P n₀ ops Q (⟨some d, .box T x, t, p, af, none⟩ :: rest) f w := Wl.box st hx rfl k
theorem Wl.boxI {d : Tmp} {T : TypeId} {x : Operand} {kd : IntKind} {n : Int} (st : St X w0 w L) (hx : evO f x = some (.int kd n))
    (k : ∀ b w', St X w0 w' ((b, [.int kd n], T) :: L) → Wl P n₀ ops Q rest ((d, .pointer (some ⟨b, 0, none⟩)) :: f) w') : Wl P n₀ ops Q (⟨some d, .box T x, t, p, af, none⟩ :: rest) f w := Wl.box st hx rfl k
theorem Wl.boxB {d : Tmp} {T : TypeId} {x : Operand} {n : Bool} (st : St X w0 w L) (hx : evO f x = some (.bool n))
    (k : ∀ b w', St X w0 w' ((b, [.bool n], T) :: L) → Wl P n₀ ops Q rest ((d, .pointer (some ⟨b, 0, none⟩)) :: f) w') : Wl P n₀ ops Q (⟨some d, .box T x, t, p, af, none⟩ :: rest) f w := Wl.box st hx rfl k
theorem Wl.boxL {d : Tmp} {T : TypeId} {x : Operand} {A : Option Addr} {n c : Nat} (st : St X w0 w L) (hx : evO f x = some (.slice A n c))
    (k : ∀ b w', St X w0 w' ((b, [.slice A n c], T) :: L) → Wl P n₀ ops Q rest ((d, .pointer (some ⟨b, 0, none⟩)) :: f) w') : Wl P n₀ ops Q (⟨some d, .box T x, t, p, af, none⟩ :: rest) f w := Wl.box st hx rfl k
theorem Wl.boxF {d : Tmp} {T : TypeId} {x : Operand} {a : Fn} {b' c : Array Value} (st : St X w0 w L) (hx : evO f x = some (.func a b' c))
    (k : ∀ b w', St X w0 w' ((b, [.func a b' c], T) :: L) → Wl P n₀ ops Q rest ((d, .pointer (some ⟨b, 0, none⟩)) :: f) w') : Wl P n₀ ops Q (⟨some d, .box T x, t, p, af, none⟩ :: rest) f w := Wl.box st hx rfl k
theorem Wl.boxS {d : Tmp} {T : TypeId} {x : Operand} {s : ByteArray} (st : St X w0 w L) (hx : evO f x = some (.string s))
    (k : ∀ b w', St X w0 w' ((b, [.string s], T) :: L) → Wl P n₀ ops Q rest ((d, .pointer (some ⟨b, 0, none⟩)) :: f) w') : Wl P n₀ ops Q (⟨some d, .box T x, t, p, af, none⟩ :: rest) f w := Wl.box st hx rfl k
theorem Wl.alloc {d : Tmp} {T : TypeId} {z : Value} {vs : List Value} (st : St X w0 w L) (hz : tyZ P T = some z) (hc : z.cells = vs.toArray)
    (k : ∀ b w', St X w0 w' ((b, vs, T) :: L) → Wl P n₀ ops Q rest ((d, .pointer (some ⟨b, 0, none⟩)) :: f) w') : Wl P n₀ ops Q (⟨some d, .alloc T, t, p, af, none⟩ :: rest) f w := by
  refine Wl.run (v := .pointer (some ⟨w.heap.size, 0, none⟩)) (w' := w.alloc (.cells vs.toArray T)) (fun ρ hρ => ?_) (k _ _ (st.new vs T))
  simp [execOp, Instr.alloc, tyZ_spec hz, newVar, newRow, hc]

/-! ### stores -/
theorem run_store1 {b off : Nat} {u v : Value} (hv : v.oneCell' = true) (hc : w.cell? ⟨b, off, none⟩ = some u) (hf : w.frozen? ⟨b, off, none⟩ = false) : (store ⟨b, off, none⟩ v).run P w = .ok () (w.setCell ⟨b, off, none⟩ v) := by
  have := run_store P w ⟨b, off, none⟩ v .plain hv
  rw [this]
  simp [hc, hf]
theorem run_storeVar1 {T : TypeId} {b off : Nat} {u v : Value} {a : Bool} (hT : tyA P T = some (a, 1)) (hv : v.oneCell' = true) (hc : w.cell? ⟨b, off, none⟩ = some u) (hf : w.frozen? ⟨b, off, none⟩ = false) : (storeVar T ⟨b, off, none⟩ v).run P w = .ok () (w.setCell ⟨b, off, none⟩ v) := by
  have hcs : v.cells = #[v] := by cases v <;> simp_all [Value.oneCell', Value.cells]
  have hadd : (⟨b, off, none⟩ : Addr).add 0 = ⟨b, off, none⟩ := by simp [Addr.add]
  simp [storeVar, (tyA_spec (w := w) hT).2, hcs, storeCells, hadd, run_store1 hv hc hf]
theorem Wl.store {T : TypeId} {x y : Operand} {i b off : Nat} {a : Bool} {cs cs' : List Value} {T' : TypeId} {v : Value} (st : St X w0 w L) (hT : tyA P T = some (a, 1)) (hx : evO f x = some (.pointer (some ⟨b, off, none⟩))) (hy : evO f y = some (v)) (hv : v.oneCell' = true) (hi : L[i]? = some (b, cs, T')) (ho : off < cs.length) (hs : cs.set off v = cs')
    (k : ∀ w', St X w0 w' (L.set i (b, cs', T')) → Wl P n₀ ops Q rest f w') : Wl P n₀ ops Q (⟨none, .store T x y, t, p, af, none⟩ :: rest) f w := by
  have hc := st.cell hi (List.getElem?_eq_getElem ho)
  refine Wl.skipped (w' := w.setCell ⟨b, off, none⟩ v) (fun ρ hρ => ?_) (k _ (st.put hi hs))
  have hx := hρ _ _ hx
  have hy := hρ _ _ hy
  simp [execOp, hx, hy, Instr.storeAt, Instr.sureAddr, run_storeVar1 hT hv hc (st.free hi)]
/-- many cells, one behind the other -/
theorem run_storeCells {T' : TypeId} {b : Nat} : ∀ (vs : List Value) (cs : List Value) (L : List Ent) (w : World) (off j i : Nat), St X w0 w L → L[i]? = some (b, cs, T') → off + j + vs.length ≤ cs.length → (∀ v, v ∈ vs → v.oneCell' = true) →
    ∃ w', (storeCells ⟨b, off, none⟩ vs j).run P w = .ok () w' ∧ St X w0 w' (L.set i (b, cs.take (off + j) ++ vs ++ cs.drop (off + j + vs.length), T'))
  | [], cs, L, w, off, j, i, st, hi, _, _ => by
    refine ⟨w, rfl, ?_⟩
    have : L.set i (b, cs.take (off + j) ++ [] ++ cs.drop (off + j + ([] : List Value).length), T') = L := by
      simp only [List.append_nil, List.length_nil, Nat.add_zero, List.take_append_drop]
      apply List.ext_getElem?
      intro q
      rw [List.getElem?_set]
      split
      · rename_i e; subst e
        split
        · exact hi.symm
        · rename_i hge; rw [List.getElem?_eq_none (by omega)]
      · rfl
    rw [this]; exact st
  | v :: vs, cs, L, w, off, j, i, st, hi, hl, hone => by
    simp only [List.length_cons] at hl
    have hlt : off + j < cs.length := by omega
    have hadd : (⟨b, off, none⟩ : Addr).add j = ⟨b, off + j, none⟩ := by unfold Addr.add; split <;> simp_all
    have h1 := run_store1 (P := P) (hone v (by simp)) (st.cell hi (List.getElem?_eq_getElem hlt)) (st.free hi)
    have st1 := st.put hi (rfl : cs.set (off + j) v = _)
    have hil : i < L.length := by
      rcases Nat.lt_or_ge i L.length with h' | h'
      · exact h'
      · rw [List.getElem?_eq_none h'] at hi; cases hi
    obtain ⟨w', hr, st2⟩ := run_storeCells vs (cs.set (off + j) v) (L.set i (b, cs.set (off + j) v, T')) _ off (j + 1) i st1 (show (L.set i (b, cs.set (off + j) v, T'))[i]? = some (b, cs.set (off + j) v, T') by simp [hil]) (by simp; omega) (fun u hu => hone u (by simp [hu]))
    refine ⟨w', ?_, ?_⟩
    · simp only [storeCells, Sem.run_bind, hadd, h1, Result.andThen_ok]
      exact hr
    · have e : (cs.set (off + j) v).take (off + (j + 1)) ++ vs ++ (cs.set (off + j) v).drop (off + (j + 1) + vs.length) = cs.take (off + j) ++ v :: vs ++ cs.drop (off + j + (v :: vs).length) := by
        have e1 : (cs.set (off + j) v).take (off + (j + 1)) = cs.take (off + j) ++ [v] := by
          rw [show off + (j + 1) = off + j + 1 by omega, List.take_succ_eq_append_getElem (by simpa using hlt)]
          simp [List.take_set_of_le]
        have e2 : (cs.set (off + j) v).drop (off + (j + 1) + vs.length) = cs.drop (off + j + (v :: vs).length) := by
          rw [List.drop_set_of_lt (by omega)]
          congr 1
          simp; omega
        rw [e1, e2]; simp
      rw [e, List.set_set] at st2
      exact st2
theorem Wl.storeA {T : TypeId} {x y : Operand} {i b off n : Nat} {a : Bool} {cs cs' vs : List Value} {T' : TypeId} (st : St X w0 w L) (hT : tyA P T = some (a, n)) (hx : evO f x = some (.pointer (some ⟨b, off, none⟩))) (hy : evO f y = some (.agg vs.toArray)) (hn : vs.length = n) (hone : ∀ v, v ∈ vs → v.oneCell' = true) (hi : L[i]? = some (b, cs, T')) (ho : off + n ≤ cs.length) (hs : cs.take off ++ vs ++ cs.drop (off + n) = cs')
    (k : ∀ w', St X w0 w' (L.set i (b, cs', T')) → Wl P n₀ ops Q rest f w') : Wl P n₀ ops Q (⟨none, .store T x y, t, p, af, none⟩ :: rest) f w := by
  obtain ⟨w', hr, st2⟩ := run_storeCells (P := P) vs cs L w off 0 i st hi (by omega) hone
  rw [Nat.add_zero, hn, hs] at st2
  refine Wl.skipped (w' := w') (fun ρ hρ => ?_) (k _ st2)
  have hx := hρ _ _ hx
  have hy := hρ _ _ hy
  simp [execOp, hx, hy, Instr.storeAt, Instr.sureAddr, storeVar, (tyA_spec (w := w) hT).2, Value.cells, hn, hr]

/-! ### results in a variable -/
theorem postL.cell {fn : Func} {R : Ending → World → Prop} {q : Tmp} {T : TypeId} {i b n : Nat} {vs : List Value} {T' : TypeId} (st : St X w0 w L) (hr : fn.results = #[.cell q T]) (hT : tyA P T = some (true, n)) (hq : lk f q = some (.pointer (some ⟨b, 0, Option.none⟩))) (hi : L[i]? = some (b, vs, T')) (hl : vs.length = n)
    (h : R (.returned (.agg vs.toArray)) w) : postL P n₀ fn R .ret f w := fun a ha => by
  refine bodyPost_ret (v := .agg vs.toArray) ?_ ha.2.1 h
  have hq' : a.tmps[q]?.getD undef = .pointer (some ⟨b, 0, Option.none⟩) := by rw [ha.2.2 _ _ hq]; rfl
  have hld := run_loadA (P := P) (w := w) (off := 0) hT hl (fun j u hu => by rw [Nat.zero_add]; exact st.cell hi hu)
  simp [results, hr, hq', asAddr, hld]
end
end Go.Proofs.Ytagghfllgafmgaa
