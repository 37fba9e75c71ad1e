/-
  Slices: literals, rows of records, fields of rows. Nothing here speaks of one program.
-/
import Derived.Test.YtagghfllgafmgaaMore
import Derived.Laws.MakeOwn
namespace Go.Proofs.Ytagghfllgafmgaa
set_option linter.unusedVariables false
set_option linter.unusedSimpArgs false
open Go.RowKit
variable {P : Program}

def zerosL (m : Nat) (zl : List Value) : List Value := (List.range m).map fun i => zl[i % zl.length]!
section
variable {n₀ : Nat} {ops : Array Oper} {Q : LPost} {rest : List Oper} {f : Env} {w w0 : World} {X : List Nat} {L : List Ent} {t : TypeId} {p : String} {af : Array Edge}
theorem Wl.buildSlice {d : Tmp} {T e : TypeId} {len s by_ : Nat} {ps : List (Nat × Value)} {parts : List (Nat × Operand)} {z : Value} {cs : List Value} (st : St X w0 w L) (hT : tyS P T = some (e, s, by_)) (hz : tyZ P e = some z) (hl : Nat.ble (len * s) 16777216 = true)
    (hp : evP f parts = some ps) (hf : fillL ((List.range len).map fun i => (i * s, s)) (zerosL (len * s) z.cells.toList) ps = some cs)
    (k : ∀ b w', St X w0 w' ((b, cs, e) :: L) → Wl P n₀ ops Q rest ((d, .slice (some ⟨b, 0, none⟩) len len) :: f) w') : Wl P n₀ ops Q (⟨some d, .buildSlice T len parts.toArray, t, p, af, none⟩ :: rest) f w := by
  refine Wl.run (v := .slice (some ⟨w.heap.size, 0, none⟩) len len) (w' := w.alloc (.cells cs.toArray e)) (fun ρ hρ => ?_) (k _ _ (st.new cs e))
  have hp := hρ.parts hp
  obtain ⟨j, hu, hj, hn, _⟩ := tyS_spec hT
  have hfill := fill_arr len s ps _ cs hf
  have e1 : (parts.toArray.map fun (x : Nat × Operand) => match x with | (i, x) => (i, ρ x)).toList = ps := by
    rw [← hp]; simp
  have hl' : ¬ len * s > 2 ^ 24 := by have := Nat.le_of_ble_eq_true hl; omega
  by_cases h0 : len * s = 0
  · have e2 : ((Array.range (len * s)).map fun x => (#[] : Array Value)[x % (#[] : Array Value).size]!) = (zerosL (len * s) z.cells.toList).toArray := by unfold zerosL; rw [h0]; simp
    simp only [execOp, Instr.buildSlice, Sem.run_bind, run_und hu, run_size hj, hn, Result.andThen_ok, if_neg hl', if_pos h0, Sem.run_pure, e1, e2, hfill]
    simp [newRow]
  · have e2 : ((Array.range (len * s)).map fun x => z.cells[x % z.cells.size]!) = (zerosL (len * s) z.cells.toList).toArray := by
      apply Array.ext'
      simp only [zerosL, Array.toList_map, Array.toList_range, List.map_inj_left, Array.length_toList]
      intro a _
      simp [getElem!_def]
    simp only [execOp, Instr.buildSlice, Sem.run_bind, run_und hu, run_size hj, hn, Result.andThen_ok, if_neg hl', if_neg h0, Sem.run_pure, e1, tyZ_spec hz, e2, hfill]
    simp [newRow]
end

/-! ### rows of records of one length -/
def recV (n : Nat) (g : Nat → List Value) : List Value := (List.range n).flatMap g
theorem recV_succ (n : Nat) (g : Nat → List Value) : recV (n + 1) g = recV n g ++ g n := by simp [recV, List.range_succ]
theorem recV_len {s : Nat} {g : Nat → List Value} (hg : ∀ i, (g i).length = s) (n : Nat) : (recV n g).length = n * s := by
  induction n with
  | zero => simp [recV]
  | succ n ih => rw [recV_succ, List.length_append, ih, hg, Nat.succ_mul]
theorem recV_drop {s : Nat} {g : Nat → List Value} (hg : ∀ i, (g i).length = s) {n i : Nat} (h : i ≤ n) : ∃ r, recV n g = recV i g ++ r ∧ (i < n → ∃ r', r = g i ++ r') := by
  induction n with
  | zero => exact ⟨[], by rw [Nat.le_zero.1 h]; simp, fun h => absurd h (by omega)⟩
  | succ n ih =>
    by_cases e : i = n + 1
    · subst e; exact ⟨[], by simp, fun h => absurd h (by omega)⟩
    · obtain ⟨r, h1, h2⟩ := ih (by omega)
      refine ⟨r ++ g n, by rw [recV_succ, h1, List.append_assoc], fun _ => ?_⟩
      by_cases e2 : i = n
      · subst e2
        have : r = [] := by
          have h3 := congrArg List.length h1
          rw [List.length_append] at h3
          exact List.length_eq_zero_iff.1 (by omega)
        subst this
        exact ⟨[], by simp⟩
      · obtain ⟨r', h3⟩ := h2 (by omega)
        exact ⟨r' ++ g n, by rw [h3, List.append_assoc]⟩
theorem recV_sub {s : Nat} {g : Nat → List Value} (hg : ∀ i, (g i).length = s) {n i : Nat} (h : i < n) : ((recV n g).drop (i * s)).take s = g i := by
  obtain ⟨r, h1, h2⟩ := recV_drop hg (Nat.le_of_lt h)
  obtain ⟨r', h3⟩ := h2 h
  rw [h1, h3, List.drop_append_of_le_length (by rw [recV_len hg]; exact Nat.le_refl _), List.drop_eq_nil_of_le (by rw [recV_len hg]; exact Nat.le_refl _), List.nil_append, ← hg i, List.take_left]
theorem recV_get {s : Nat} {g : Nat → List Value} (hg : ∀ i, (g i).length = s) {n i j : Nat} {v : Value} (h : i < n) (hj : (g i)[j]? = some v) : (recV n g)[i * s + j]? = some v := by
  have := get_of_sub (recV_sub hg h) j v hj
  exact this
theorem recV_sub0 {s : Nat} {g : Nat → List Value} (hg : ∀ i, (g i).length = s) {n i : Nat} (h : i < n) : ((recV n g).drop (0 + i * s)).take s = g i := by rw [Nat.zero_add]; exact recV_sub hg h
theorem recV_get0 {s : Nat} {g : Nat → List Value} (hg : ∀ i, (g i).length = s) {n i j : Nat} {v : Value} (h : i < n) (hj : (g i)[j]? = some v) : (recV n g)[0 + i * s + j]? = some v := by rw [Nat.zero_add]; exact recV_get hg h hj
theorem recV_congr {n : Nat} {g g' : Nat → List Value} (h : ∀ i, i < n → g i = g' i) : recV n g = recV n g' := by
  induction n with
  | zero => rfl
  | succ n ih => rw [recV_succ, recV_succ, ih (fun i hi => h i (by omega)), h n (by omega)]
theorem recV_idx {s : Nat} {g : Nat → List Value} : ∀ {n : Nat}, (∀ i, i < n → (g i).length = s) → ∀ {q : Nat} {u : Value}, (recV n g)[q]? = some u → ∃ i j, i < n ∧ q = i * s + j ∧ (g i)[j]? = some u
  | 0, _, q, u, h => by simp [recV] at h
  | n + 1, hg, q, u, h => by
    have hl : (recV n g).length = n * s := by
      have : ∀ m, m ≤ n → (recV m g).length = m * s := by
        intro m hm
        induction m with
        | zero => simp [recV]
        | succ m ih => rw [recV_succ, List.length_append, ih (by omega), hg m (by omega), Nat.succ_mul]
      exact this n (Nat.le_refl _)
    rw [recV_succ] at h
    rcases Nat.lt_or_ge q (recV n g).length with h' | h'
    · rw [List.getElem?_append_left h'] at h
      obtain ⟨i, j, h1, h2, h3⟩ := recV_idx (fun i hi => hg i (by omega)) h
      exact ⟨i, j, by omega, h2, h3⟩
    · rw [List.getElem?_append_right h'] at h
      exact ⟨n, q - n * s, by omega, by omega, by rw [← hl]; exact h⟩
theorem recV_set {s : Nat} {g : Nat → List Value} (hg : ∀ i, (g i).length = s) {n i : Nat} {vs : List Value} (h : i < n) (hv : vs.length = s) : (recV n g).take (i * s) ++ vs ++ (recV n g).drop (i * s + s) = recV n (fun r => if r = i then vs else g r) := by
  induction n with
  | zero => omega
  | succ n ih =>
    have hl := recV_len hg n
    rw [recV_succ, recV_succ]
    by_cases e : i = n
    · subst e
      rw [if_pos rfl, List.take_append_of_le_length (by omega), List.take_of_length_le (by omega), List.drop_eq_nil_of_le (by rw [List.length_append, hl, hg]; exact Nat.le_refl _), List.append_nil]
      congr 1
      exact recV_congr fun j hj => by rw [if_neg (by omega)]
    · have hi : i < n := by omega
      have hm : i * s + s ≤ n * s := by rw [← Nat.succ_mul]; exact Nat.mul_le_mul_right s hi
      rw [if_neg (fun q => e q.symm), ← ih hi, List.take_append_of_le_length (by omega), List.drop_append_of_le_length (by omega)]
      simp only [List.append_assoc]
theorem recV_set0 {s : Nat} {g : Nat → List Value} (hg : ∀ i, (g i).length = s) {n i : Nat} {vs : List Value} (h : i < n) (hv : vs.length = s) : (recV n g).take (0 + i * s) ++ vs ++ (recV n g).drop (0 + i * s + s) = recV n (fun r => if r = i then vs else g r) := by rw [Nat.zero_add]; exact recV_set hg h hv
theorem made_rec {zc : Array Value} {s : Nat} (hz : zc.size = s) (n : Nat) : (madeCells zc (n * s)).toList = recV n (fun _ => zc.toList) := by
  apply List.ext_getElem?
  intro q
  have hl : (recV n (fun _ => zc.toList)).length = n * s := recV_len (s := s) (fun _ => by simpa using hz) n
  rcases Nat.lt_or_ge q (n * s) with h | h
  · have h1 : q < (recV n (fun _ => zc.toList)).length := by omega
    obtain ⟨i, j, hi, hq, hj⟩ := recV_idx (s := s) (fun _ _ => by simpa using hz) (List.getElem?_eq_getElem h1)
    rw [List.getElem?_eq_getElem h1, ← hj]
    have hjs : j < s := by
      rcases Nat.lt_or_ge j s with h' | h'
      · exact h'
      · rw [List.getElem?_eq_none (by simpa [hz] using h')] at hj; cases hj
    have hmod : q % zc.size = j := by rw [hz, hq, Nat.mul_comm, Nat.mul_add_mod, Nat.mod_eq_of_lt hjs]
    have hlt : q < (madeCells zc (n * s)).toList.length := by simp [size_madeCells, h]
    rw [List.getElem?_eq_getElem hlt]
    simp only [madeCells, Array.toList_map, List.getElem_map, Array.toList_range, List.getElem_range, hmod]
    rw [getElem!_pos zc j (by omega)]
    simp [show j < zc.size by omega]
  · rw [List.getElem?_eq_none (by simp [size_madeCells, h]), List.getElem?_eq_none (by omega)]

/-! ### slices as values -/
/-- The slice's elements lie in vs. -/
def RdS (w : World) (A : Option Addr) (n : Nat) (vs : List Value) : Prop := 0 < n → ∃ b o, A = some ⟨b, o, none⟩ ∧ RdA w b o vs
theorem RdA.row {w : World} {b o j n : Nat} {vs us : List Value} (h : RdA w b o vs) (hs : (vs.drop j).take n = us) : RdA w b (o + j) us := ⟨h.1, h.sub hs rfl⟩
theorem RdS.below {w w' : World} {A : Option Addr} {n : Nat} {vs : List Value} (h : RdS w A n vs) (hb : Below w.heap.size w w') : RdS w' A n vs := fun hn => by
  obtain ⟨b, o, e, hr⟩ := h hn
  exact ⟨b, o, e, hr.below hb⟩
theorem RdS.st {w0 w : World} {L : List Ent} {A : Option Addr} {n : Nat} {vs : List Value} (h : RdS w0 A n vs) (st : St [] w0 w L) : RdS w A n vs := h.below st.below
theorem RdA.sl {w : World} {b o n : Nat} {vs : List Value} (h : RdA w b o vs) : RdS w (some ⟨b, o, none⟩) n vs := fun _ => ⟨b, o, rfl, h⟩
/-- A block that was not there before. -/
structure NewB (w w' : World) (b : Nat) (vs : List Value) (T : TypeId) : Prop where
  fresh : w.heap.size ≤ b
  lt : b < w'.heap.size
  row : w'.heap[b]? = some (.cells vs.toArray T (0, 0))
/-- A slice over a block of its own is handed back. -/
def RetS (w : World) (T : TypeId) (n c : Nat) (vs : List Value) : Ending → World → Prop := fun e w' => ∃ b, e = .returned (.slice (some ⟨b, 0, none⟩) n c) ∧ Below w.heap.size w w' ∧ NewB w w' b vs T
theorem St.newB {X : List Nat} {w0 w w' : World} {L : List Ent} {b : Nat} {vs : List Value} {T : TypeId} (st : St X w0 w L) (hb : Below w.heap.size w w') (h : NewB w w' b vs T) : St X w0 w' ((b, vs, T) :: L) := by
  have h' := st.call hb
  refine ⟨h'.fr, fun e he => ?_, List.pairwise_cons.2 ⟨fun e he => ?_, h'.apart⟩⟩
  · rcases List.mem_cons.1 he with rfl | he
    · exact ⟨.inl (Nat.le_trans st.fr.size h.fresh), h.lt, h.row⟩
    · exact h'.ents e he
  · have := (st.ents e he).2.1
    have := h.fresh
    simp only
    omega
theorem St.retS {w0 w : World} {L : List Ent} {i b n c : Nat} {vs vs' : List Value} {T : TypeId} (st : St [] w0 w L) (hi : L[i]? = some (b, vs, T)) (he : vs = vs') : RetS w0 T n c vs' (.returned (.slice (some ⟨b, 0, none⟩) n c)) w := by
  subst he
  obtain ⟨h1, h2, h3⟩ := st.ents _ (List.mem_of_getElem? hi)
  refine ⟨b, rfl, st.below, ?_, h2, h3⟩
  rcases h1 with h1 | h1
  · exact h1
  · cases h1
section
variable {n₀ : Nat} {ops : Array Oper} {Q : LPost} {rest : List Oper} {f : Env} {w w0 : World} {X : List Nat} {L : List Ent} {t : TypeId} {p : String} {af : Array Edge}
theorem Wl.callS {d : Tmp} {k : FuncId} {as : List Operand} {ts : Array TypeId} {vs : List Value} {T : TypeId} {n c : Nat} {us : List Value} (st : St X w0 w L) (hc : CE P k vs w (RetS w T n c us)) (ha : evL f as = some vs)
    (kk : ∀ b w', St X w0 w' ((b, us, T) :: L) → Wl P n₀ ops Q rest ((d, .slice (some ⟨b, 0, none⟩) n c) :: f) w') : Wl P n₀ ops Q (⟨some d, .call ⟨.value (.func k), as.toArray, ts⟩, t, p, af, none⟩ :: rest) f w :=
  Wl.call hc ha fun _ w' ⟨b, he, hb, hn⟩ => ⟨_, he, kk b w' (st.newB hb hn)⟩
theorem Wl.makeSlice {d : Tmp} {T e : TypeId} {s by_ : Nat} {x y : Operand} {kx ky : IntKind} {n : Nat} {z : Value} (st : St X w0 w L) (hT : tyS P T = some (e, s, by_)) (hz : tyZ P e = some z) (hs : z.cells.size = s)
    (hx : evO f x = some (.int kx (n : Int))) (hy : evO f y = some (.int ky (n : Int))) (hb : by_ * n ≤ 281474976710656) (hn : n ≤ 9223372036854775807)
    (k : ∀ b w', St X w0 w' ((b, recV n (fun _ => z.cells.toList), e) :: L) → Wl P n₀ ops Q rest ((d, .slice (some ⟨b, 0, none⟩) n n) :: f) w') : Wl P n₀ ops Q (⟨some d, .makeSlice T x y, t, p, af, none⟩ :: rest) f w := by
  refine Wl.run (v := .slice (some ⟨w.heap.size, 0, none⟩) n n) (w' := w.alloc (.cells (recV n (fun _ => z.cells.toList)).toArray e)) (fun ρ hρ => ?_) (k _ _ (st.new _ e))
  have hx := hρ _ _ hx
  have hy := hρ _ _ hy
  obtain ⟨j, hu, hj, hjs, hjb⟩ := tyS_spec hT
  have hzz : j.zero = some z := by unfold tyZ at hz; rw [hj] at hz; exact hz
  have hm := run_make (P := P) w T e j z hu hj hzz kx ky (n : Int) (n : Int) (by omega) (by omega) (by rw [hjb, ← Int.natCast_mul]; omega) (by omega)
  rw [hjs] at hm
  have e1 : madeCells z.cells (((n : Int)).toNat * s) = (recV n (fun _ => z.cells.toList)).toArray := by
    apply Array.ext'
    rw [Int.toNat_natCast, made_rec hs]
  rw [e1] at hm
  simp only [Int.toNat_natCast] at hm
  simp [execOp, hx, hy, hm]
end
section
variable {f : Env} {x y : Operand} {T : TypeId} {k : IntKind}
/-- s[:h] -/
theorem PR.sliceTo {A : Option Addr} {n c h : Nat} {r : TypeId × Nat × Nat} (hT : tyS P T = some r) (hx : evO f x = some (.slice A n c)) (hy : evO f y = some (.int k (h : Int))) (hc : h ≤ c) : PR P f (.slice T x none (some y) none) (.slice A h c) := fun ρ hρ _ _ _ _ _ w => by
  have hx := hρ _ _ hx
  have hy := hρ _ _ hy
  obtain ⟨j, hu, hj, hn, _⟩ := tyS_spec (e := r.1) (sz := r.2.1) (by_ := r.2.2) hT
  have e1 : (Instr.sliceBound (.int k (h : Int)) c .sliceAcap).run P w = .ok h w := by simp [Instr.sliceBound, asIntOf, hc]
  have e2 : (Instr.sliceBounds true n c none (some (.int k (h : Int))) none).run P w = .ok (0, h, c) w := by simp [Instr.sliceBounds, e1]
  simp only [execOp, hx, Option.map_some, Option.map_none, hy]
  simp [Instr.sliceAt, Instr.slice, run_und hu, e2, run_size hj]
  cases A <;> simp [Addr.add]
end
theorem RdS.pre {w : World} {A : Option Addr} {n m : Nat} {vs : List Value} (h : RdS w A n vs) (hm : m ≤ n) : RdS w A m vs := fun q => h (by omega)
section
variable {n₀ : Nat} {ops : Array Oper} {Q : LPost} {rest : List Oper} {f : Env} {w w0 : World} {t : TypeId} {p : String} {af : Array Edge}
theorem Wl.callFW {d : Tmp} {k : FuncId} {x : Operand} {as : List Operand} {cap vs : List Value} {ts : Array TypeId} {v : Value} (hx : evO f x = some (.func (.func k) #[] cap.toArray)) (ha : evL f as = some vs) (hc : CE P k (vs ++ cap) w (RetV w v))
    (kk : ∀ w', Below w.heap.size w w' → Wl P n₀ ops Q rest ((d, v) :: f) w') : Wl P n₀ ops Q (⟨some d, .call ⟨.value x, as.toArray, ts⟩, t, p, af, none⟩ :: rest) f w := Wl.callFV hx hc ha kk
theorem Wq.callFW {d : Tmp} {c : FuncId} {x : Operand} {as : List Operand} {cap vs : List Value} {ts : Array TypeId} {v : Value} {Q : Env → Prop} (hx : evO f x = some (.func (.func c) #[] cap.toArray)) (ha : evL f as = some vs) (hc : ∀ w', Below w.heap.size w w' → CE P c (vs ++ cap) w' (RetV w' v))
    (k : Wq P n₀ ops (Cl w) Q rest ((d, v) :: f)) : Wq P n₀ ops (Cl w) Q (⟨some d, .call ⟨.value x, as.toArray, ts⟩, t, p, af, none⟩ :: rest) f := Wq.callFV hx hc ha k
end
end Go.Proofs.Ytagghfllgafmgaa
