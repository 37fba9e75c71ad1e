/-
  Words of our own for walking a call: frames as lists, known blocks as entries of a list, one rule for each operation. Nothing here speaks of one program.
-/
import Derived.WalkKit
import Derived.Deep.Quiet
import Derived.Deep.LoopGhost
import Derived.KernelRfl
namespace Go.Proofs.Ytagghfllgafmgaa
set_option linter.unusedVariables false
set_option linter.unusedSimpArgs false
open Go.RowKit
variable {P : Program}

/-! ### control -/
/-- What is known of a frame: some of its slots (the latest first). -/
abbrev Env := List (Nat × Value)
def lk : Env → Nat → Option Value
  | [], _ => none
  | (d, v) :: e, t => bif Nat.beq d t then some v else lk e t
theorem lk_cons (d t : Nat) (v : Value) (e : Env) : lk ((d, v) :: e) t = if d = t then some v else lk e t := by
  simp only [lk, cond_eq_ite, Nat.beq_eq]
def Agr (n : Nat) (a : Act) (e : Env) : Prop := a.tmps.size = n ∧ a.defers = [] ∧ ∀ t v, lk e t = some v → a.tmps[t]? = some v
abbrev LPost := Exit → Env → World → Prop
def ofL (n : Nat) (Q : LPost) : Exit → Act → World → Prop := fun e a w => ∃ f, Agr n a f ∧ Q e f w
def Wc (P : Program) (n : Nat) (c : Code) (Q : LPost) (f : Env) (w : World) : Prop := ∀ a, Agr n a f → c.wp P (ofL n Q) a w
def thenL (K : Env → World → Prop) (Q : LPost) : LPost := fun e f w => match e with | .normal => K f w | e => Q e f w
def blockL (id : Nat) (Q : LPost) : LPost := fun e f w => match e with | .normal => Q .normal f w | .exit i => if i = id then Q .normal f w else Q (.exit i) f w | e => Q e f w
def postL (P : Program) (n : Nat) (fn : Func) (R : Ending → World → Prop) : LPost := fun e f w => ∀ a, Agr n a f → bodyPost P fn R e a w

/-- A function that is entered when it is called: it has a body. -/
def entB (P : Program) (k : FuncId) : Bool := match P.funcs[k]? with | some fn => (!(fn.name == "runtime.NumGoroutine")) && fn.body.isSome | none => false
theorem run_enter {k : FuncId} (h : entB P k = true) (args : Array Value) (w : World) : (callFunc k args).run P w = .ok (.enter k args) w := by
  unfold entB at h
  unfold callFunc
  simp only [Sem.run_bind, run_program, Result.andThen_ok]
  cases hf : P.funcs[k]? with
  | none => simp [hf] at h
  | some fn =>
    simp only [hf, Bool.and_eq_true, Bool.not_eq_true'] at h
    have h2 : fn.body.isNone = false := by cases hb : fn.body <;> simp_all
    simp only [h.1, h2, Bool.false_eq_true, if_false]
    rfl
/-- What a call does, and that it is one that enters. -/
def CE (P : Program) (k : FuncId) (args : List Value) (w : World) (R : Ending → World → Prop) : Prop := entB P k = true ∧ Calls P k args.toArray w R
/-- It hands back this value, and leaves all that was there as it was. -/
def RetV (w : World) (v : Value) : Ending → World → Prop := fun e w' => e = .returned v ∧ Below w.heap.size w w'

theorem CE.enter {k : FuncId} {fn : Func} {c : Code} {args : List Value} {w : World} {R : Ending → World → Prop} (n : Nat) (f : Env)
    (he : entB P k = true) (hf : P.funcs[k]? = some fn) (hb : fn.body = some c) (hn : fn.ntmps = n) (hl : args.length ≤ n) (hz : args.zipIdx.map (fun x => (x.2, x.1)) = f)
    (h : Wc P n c (postL P n fn R) f w) : CE P k args w R := by
  refine ⟨he, calls_of_wp hf hb ?_⟩
  refine Code.wp_mono ?_ (h _ ?_)
  · rintro e a w ⟨f', ha, h'⟩
    exact h' a ha
  · refine ⟨by simp; omega, rfl, fun t v ht => ?_⟩
    have key : ∀ (l : List Value) (i : Nat), lk ((l.zipIdx i).map (fun x => (x.2, x.1))) t = some v → i ≤ t ∧ l[t - i]? = some v := by
      intro l
      induction l with
      | nil => intro i h; cases h
      | cons a l ih =>
        intro i h
        simp only [List.zipIdx_cons, List.map_cons, lk_cons] at h
        split at h
        · rename_i e; subst e; simp only [Nat.sub_self, List.getElem?_cons_zero]; exact ⟨Nat.le_refl _, h⟩
        · obtain ⟨h1, h2⟩ := ih _ h
          refine ⟨by omega, ?_⟩
          rw [show t - i = (t - (i + 1)) + 1 by omega, List.getElem?_cons_succ]; exact h2
    rw [← hz] at ht
    have := (key args 0 ht).2
    rw [Nat.sub_zero] at this
    have hlt : t < args.length := by
      rcases Nat.lt_or_ge t args.length with h' | h'
      · exact h'
      · rw [List.getElem?_eq_none h'] at this; cases this
    simp only
    rw [Array.getElem?_append_left (by simpa using hlt)]
    simpa using this
theorem CE.mono {k : FuncId} {args : List Value} {w : World} {R R' : Ending → World → Prop} (h : CE P k args w R) (hr : ∀ e w', R e w' → R' e w') : CE P k args w R' :=
  ⟨h.1, h.2.mono hr⟩

theorem Wc.mono {n : Nat} {c : Code} {Q Q' : LPost} {f : Env} {w : World} (hq : ∀ e f w, Q e f w → Q' e f w) (h : Wc P n c Q f w) : Wc P n c Q' f w :=
  fun a ha => Code.wp_mono (fun _ _ _ ⟨f', e, q⟩ => ⟨f', e, hq _ _ _ q⟩) (h a ha)
section
variable {n : Nat} {Q : LPost} {f : Env} {w : World}
theorem Wc.seq {x y : Code} (h : Wc P n x (thenL (Wc P n y Q) Q) f w) : Wc P n (.seq x y) Q f w := fun a ha => by
  refine wp_seq (Code.wp_mono ?_ (h a ha))
  rintro e a w ⟨f', ha', h'⟩
  cases e with
  | normal => exact h' a ha'
  | _ => exact ⟨f', ha', h'⟩
theorem Wc.skip (h : Q .normal f w) : Wc P n .skip Q f w := fun _ ha => wp_skip ⟨f, ha, h⟩
theorem Wc.ret (h : Q .ret f w) : Wc P n .ret Q f w := fun _ ha => wp_ret ⟨f, ha, h⟩
theorem Wc.exit {id : Nat} (h : Q (.exit id) f w) : Wc P n (.exit id) Q f w := fun _ ha => wp_exit ⟨f, ha, h⟩
theorem Wc.block {id : Nat} {c : Code} (h : Wc P n c (blockL id Q) f w) : Wc P n (.block id c) Q f w := fun a ha => by
  refine wp_block (Code.wp_mono ?_ (h a ha))
  rintro e a w ⟨f', ha', h'⟩
  cases e with
  | exit i =>
    simp only [blockL] at h'
    by_cases hi : i = id
    · simp only [hi, if_true] at h'; subst hi; simp only [Exit.inBlock, if_true]; exact ⟨f', ha', h'⟩
    · simp only [hi, if_false] at h'; simp only [Exit.inBlock, hi, if_false]; exact ⟨f', ha', h'⟩
  | _ => exact ⟨f', ha', h'⟩
end

/-- What an operand is, where it is known. -/
def evO (f : Env) : Operand → Option Value
  | .tmp t => lk f t
  | .const v => some v
  | .global g => some (.pointer (some ⟨g, 0, none⟩))
  | .func k => some (.func (.func k) #[] #[])
theorem Agr.eval {n : Nat} {a : Act} {f : Env} (h : Agr n a f) {x : Operand} {v : Value} (hx : evO f x = some v) : a.eval x = v := by
  cases x with
  | tmp t =>
    have := h.2.2 t v hx
    simp [Act.eval, this]
  | const u => simpa [Act.eval, evO] using hx
  | global g => simpa [Act.eval, evO] using hx
  | func k => simpa [Act.eval, evO] using hx
theorem Agr.put {n : Nat} {a : Act} {f : Env} (h : Agr n a f) {d : Nat} (hd : d < n) (v : Value) : Agr n (a.put (some d) v) ((d, v) :: f) := by
  refine ⟨by simpa [Act.put] using h.1, by simpa [Act.put] using h.2.1, fun t u ht => ?_⟩
  rw [lk_cons] at ht
  simp only [Act.put]
  rw [Array.getElem?_setIfInBounds]
  split at ht
  · rename_i e
    subst e
    rw [if_pos rfl, if_pos (by rw [h.1]; exact hd)]
    exact ht
  · rename_i e
    rw [if_neg e]
    exact h.2.2 t u ht
/-- Less is known. -/
def subE (f f' : Env) : Prop := ∀ t v, lk f' t = some v → lk f t = some v
theorem subE.nil (f : Env) : subE f [] := fun _ _ h => by cases h
theorem subE.cons {f f' : Env} {d : Nat} {v : Value} (h : lk f d = some v) (k : subE f f') : subE f ((d, v) :: f') := fun t u ht => by
  rw [lk_cons] at ht
  split at ht
  · rename_i e; subst e; rw [h]; exact ht
  · exact k t u ht
theorem Agr.sub {n : Nat} {a : Act} {f f' : Env} (h : Agr n a f) (k : subE f f') : Agr n a f' := ⟨h.1, h.2.1, fun t v ht => h.2.2 t v (k t v ht)⟩
theorem Wc.re {n : Nat} {c : Code} {Q : LPost} {f : Env} {w : World} (f' : Env) (e : subE f f') (h : Wc P n c Q f' w) : Wc P n c Q f w := fun a ha => h a (ha.sub e)

section
variable {n : Nat} {c : Operand} {x y : Code} {Q : LPost} {f : Env} {w : World}
theorem Wc.condT (hc : evO f c = some (.bool true)) (h : Wc P n x Q f w) : Wc P n (.cond c x y) Q f w := fun a ha => wp_cond_true (ha.eval hc) (h a ha)
theorem Wc.condF (hc : evO f c = some (.bool false)) (h : Wc P n y Q f w) : Wc P n (.cond c x y) Q f w := fun a ha => wp_cond_false (ha.eval hc) (h a ha)
theorem Wc.condB {b : Bool} (hc : evO f c = some (.bool b)) (ht : b = true → Wc P n x Q f w) (hf : b = false → Wc P n y Q f w) : Wc P n (.cond c x y) Q f w := by
  cases b with
  | true => exact Wc.condT hc (ht rfl)
  | false => exact Wc.condF hc (hf rfl)
theorem Wc.condD {p : Prop} [Decidable p] (hc : evO f c = some (.bool (decide p))) (ht : p → Wc P n x Q f w) (hf : ¬ p → Wc P n y Q f w) : Wc P n (.cond c x y) Q f w :=
  Wc.condB hc (fun h => ht (of_decide_eq_true h)) (fun h => hf (of_decide_eq_false h))
theorem Wc.condN {p : Prop} [Decidable p] (hc : evO f c = some (.bool (!decide p))) (ht : ¬ p → Wc P n x Q f w) (hf : p → Wc P n y Q f w) : Wc P n (.cond c x y) Q f w :=
  Wc.condB hc (fun h => ht (by simpa using h)) (fun h => hf (by simpa using h))
theorem Wc.condNB {b : Bool} (hc : evO f c = some (.bool (!b))) (ht : b = false → Wc P n x Q f w) (hf : b = true → Wc P n y Q f w) : Wc P n (.cond c x y) Q f w :=
  Wc.condB hc (fun h => ht (by simpa using h)) (fun h => hf (by simpa using h))
end

/-- A loop: what is known of the frame at its head, told as a function of a ghost; a relation on the world; a measure. -/
theorem Wc.loopF {n : Nat} {γ : Type} {c : Code} {Q : LPost} {F : Env} {w : World} (U : γ → Env) (J : γ → World → Prop) (m : γ → Nat) (h₀ : ∃ g₀, subE F (U g₀) ∧ J g₀ w)
    (h : ∀ g w, J g w → Wc P n c (thenL (fun f' w' => ∃ g', subE f' (U g') ∧ J g' w' ∧ m g' < m g) Q) (U g) w) : Wc P n (.loop c) Q F w := fun a ha => by
  obtain ⟨g₀, h1, h2⟩ := h₀
  refine wp_loop_ghost (fun k a w => ∃ g, Agr n a (U g) ∧ J g w ∧ m g = k) (m g₀) ⟨g₀, ha.sub h1, h2, rfl⟩ ?_
  rintro k a w ⟨g, ha', hJ, rfl⟩
  refine Code.wp_mono ?_ (h g w hJ a ha')
  rintro e a w ⟨f', ha'', h'⟩
  cases e with
  | normal => obtain ⟨g', hs, hJ', hm⟩ := h'; exact ⟨m g', hm, g', ha''.sub hs, hJ', rfl⟩
  | _ => exact ⟨f', ha'', h'⟩

/-! ### the end of a call -/
theorem Agr.getD {n : Nat} {a : Act} {f : Env} (h : Agr n a f) {t : Nat} {v : Value} (hv : lk f t = some v) : a.tmps.getD t undef = v := by
  have := h.2.2 t v hv
  simp [this]
section
variable {n : Nat} {fn : Func} {R : Ending → World → Prop} {f : Env} {w : World} {t u : Tmp} {v v2 : Value}
theorem postL.tmp (hr : fn.results = #[.tmp t]) (hv : lk f t = some v) (h : R (.returned v) w) : postL P n fn R .ret f w := fun a ha =>
  bodyPost_ret (by rw [results_tmp hr, ha.getD hv]) ha.2.1 h
theorem postL.tmp2 (hr : fn.results = #[.tmp t, .tmp u]) (hv : lk f t = some v) (hv2 : lk f u = some v2) (h : R (.returned (.tuple #[v, v2])) w) : postL P n fn R .ret f w := fun a ha =>
  bodyPost_ret (v := .tuple #[v, v2]) (by rw [results_tmp2 hr, ha.getD hv, ha.getD hv2]) ha.2.1 h
theorem postL.nores (hr : fn.results = #[]) (h : R (.returned (.tuple #[])) w) : postL P n fn R .ret f w := fun a ha =>
  bodyPost_ret (by rw [results_none hr]) ha.2.1 h
theorem postL.nores' (hr : fn.results = #[]) (h : R (.returned (.tuple #[])) w) : postL P n fn R .normal f w := fun a ha =>
  bodyPost_end (by rw [results_none hr]) ha.2.1 h
end

/-! ### what is known of memory -/
abbrev Ent := Nat × List Value × TypeId
/-- As it was below the size of w0, but for the blocks of X. -/
structure Fr (X : List Nat) (w0 w : World) : Prop where
  os : w.os = w0.os
  tape : w.tape = w0.tape
  output : w.output = w0.output
  size : w0.heap.size ≤ w.heap.size
  block : ∀ k, k < w0.heap.size → k ∉ X → w.heap[k]? = w0.heap[k]?
structure St (X : List Nat) (w0 w : World) (L : List Ent) : Prop where
  fr : Fr X w0 w
  ents : ∀ e, e ∈ L → (w0.heap.size ≤ e.1 ∨ e.1 ∈ X) ∧ e.1 < w.heap.size ∧ w.heap[e.1]? = some (.cells e.2.1.toArray e.2.2 (0, 0))
  apart : L.Pairwise (fun a b => a.1 ≠ b.1)

theorem Fr.refl (X : List Nat) (w : World) : Fr X w w := ⟨rfl, rfl, rfl, Nat.le_refl _, fun _ _ _ => rfl⟩
theorem Fr.below {w0 w : World} (h : Fr [] w0 w) : Below w0.heap.size w0 w := ⟨h.os, h.tape, h.output, h.size, fun k hk => h.block k hk (by simp)⟩
theorem Fr.of_below {X : List Nat} {w0 w : World} (h : Below w0.heap.size w0 w) : Fr X w0 w := ⟨h.os, h.tape, h.output, h.size, fun k hk _ => h.block k hk⟩
theorem Fr.trans {X : List Nat} {a b c : World} (h : Fr X a b) (k : Below b.heap.size b c) : Fr X a c :=
  ⟨k.os.trans h.os, k.tape.trans h.tape, k.output.trans h.output, Nat.le_trans h.size k.size, fun i hi hx => (k.block i (Nat.lt_of_lt_of_le hi h.size)).trans (h.block i hi hx)⟩
theorem St.start (w : World) : St [] w w [] := ⟨Fr.refl _ _, by simp, List.Pairwise.nil⟩
theorem St.start1 {w : World} {b : Nat} {cs : List Value} {T : TypeId} (h : w.heap[b]? = some (.cells cs.toArray T (0, 0))) : St [b] w w [(b, cs, T)] := by
  have hb : b < w.heap.size := by
    rcases Nat.lt_or_ge b w.heap.size with h' | h'
    · exact h'
    · rw [Array.getElem?_eq_none h'] at h
      cases h
  refine ⟨Fr.refl _ _, ?_, by simp⟩
  intro e he
  simp only [List.mem_singleton] at he
  subst he
  exact ⟨.inr (by simp), hb, h⟩
theorem St.below {w0 w : World} {L : List Ent} (h : St [] w0 w L) : Below w0.heap.size w0 w := h.fr.below
theorem St.ret {w0 w : World} {L : List Ent} {v : Value} (h : St [] w0 w L) : RetV w0 v (.returned v) w := ⟨rfl, h.fr.below⟩
section
variable {X : List Nat} {w0 w w' : World} {L : List Ent}
theorem St.tail {e : Ent} (h : St X w0 w (e :: L)) : St X w0 w L := ⟨h.fr, fun x hx => h.ents x (List.mem_cons_of_mem _ hx), (List.pairwise_cons.1 h.apart).2⟩
theorem St.sub {L' : List Ent} (h : St X w0 w L) (hs : L'.Sublist L) : St X w0 w L' := ⟨h.fr, fun x hx => h.ents x (hs.subset hx), h.apart.sublist hs⟩
theorem St.call (h : St X w0 w L) (hb : Below w.heap.size w w') : St X w0 w' L :=
  ⟨h.fr.trans hb, fun e he => by
    obtain ⟨h1, h2, h3⟩ := h.ents e he
    exact ⟨h1, Nat.lt_of_lt_of_le h2 hb.size, by rw [hb.block _ h2, h3]⟩, h.apart⟩
/-- A draw turns nothing. -/
theorem St.drew (h : St X w0 w L) (n : Nat) : St X w0 { w with drawn := n } L := h.call ⟨rfl, rfl, rfl, Nat.le_refl _, fun _ _ => rfl⟩
theorem St.new (h : St X w0 w L) (cs : List Value) (T : TypeId) : St X w0 (w.alloc (.cells cs.toArray T)) ((w.heap.size, cs, T) :: L) := by
  have hb : Below w.heap.size w (w.alloc (.cells cs.toArray T)) := (Below.refl _ _).alloc (Nat.le_refl _) _
  have h' := h.call hb
  refine ⟨h'.fr, ?_, List.pairwise_cons.2 ⟨?_, h.apart⟩⟩
  · intro e he
    rcases List.mem_cons.1 he with rfl | he
    · exact ⟨.inl h.fr.size, by simp, heap_alloc_new _ _⟩
    · exact h'.ents e he
  · intro e he
    have := (h.ents e he).2.1
    simp only
    omega
theorem St.get {i : Nat} {e : Ent} (h : St X w0 w L) (hi : L[i]? = some e) : w.heap[e.1]? = some (.cells e.2.1.toArray e.2.2 (0, 0)) := (h.ents e (List.mem_of_getElem? hi)).2.2
theorem St.cell {i b off : Nat} {cs : List Value} {T : TypeId} {v : Value} (h : St X w0 w L) (hi : L[i]? = some (b, cs, T)) (hv : cs[off]? = some v) : w.cell? ⟨b, off, none⟩ = some v := by
  rw [cell_of_row w b off cs.toArray T (0, 0) (h.get hi)]
  simpa using hv
/-- A block is written. -/
theorem St.put {i b off : Nat} {cs cs' : List Value} {T : TypeId} {v : Value} (h : St X w0 w L) (hi : L[i]? = some (b, cs, T)) (hs : cs.set off v = cs') :
    St X w0 (w.setCell ⟨b, off, none⟩ v) (L.set i (b, cs', T)) := by
  have hne : ∀ k, k ≠ b → (w.setCell ⟨b, off, none⟩ v).heap[k]? = w.heap[k]? := fun k hk => Below.heap_setCell _ _ _ _ hk
  obtain ⟨hm, hlt, hc⟩ := h.ents _ (List.mem_of_getElem? hi)
  simp only at hm hlt hc
  have hil : i < L.length := by
    rcases Nat.lt_or_ge i L.length with h' | h'
    · exact h'
    · rw [List.getElem?_eq_none h'] at hi; cases hi
  have hLi : L[i] = (b, cs, T) := by
    have := List.getElem?_eq_getElem hil
    rw [hi] at this
    exact (Option.some.inj this).symm
  have hap : ∀ j (hj : j < L.length), j ≠ i → L[j].1 ≠ b := by
    intro j hj hji
    rcases Nat.lt_or_ge j i with hlt' | hge
    · have := List.pairwise_iff_getElem.1 h.apart j i hj hil hlt'
      rw [hLi] at this; exact this
    · have := List.pairwise_iff_getElem.1 h.apart i j hil hj (by omega)
      rw [hLi] at this; exact fun e => this e.symm
  refine ⟨⟨h.fr.os, h.fr.tape, h.fr.output, by simpa using h.fr.size, ?_⟩, ?_, ?_⟩
  · intro k hk hx
    rw [hne k (fun e => by subst e; rcases hm with h1 | h1; · omega
                           · exact hx h1)]
    exact h.fr.block k hk hx
  · intro e he
    obtain ⟨j, hj, rfl⟩ := List.getElem_of_mem he
    simp only [List.length_set] at hj
    rw [List.getElem_set]
    by_cases hij : i = j
    · subst hij
      simp only [if_true]
      refine ⟨hm, by simpa using hlt, ?_⟩
      simp only [World.setCell, Array.getElem?_modify, if_true, hc]
      simp [← hs]
    · rw [if_neg hij]
      obtain ⟨a1, a2, a3⟩ := h.ents L[j] (List.getElem_mem hj)
      exact ⟨a1, by simpa using a2, by rw [hne _ (hap j hj (fun e => hij e.symm))]; exact a3⟩
  · rw [List.pairwise_iff_getElem]
    intro p q hp hq hpq
    simp only [List.length_set] at hp hq
    have hp' := List.pairwise_iff_getElem.1 h.apart p q hp hq hpq
    rw [List.getElem_set, List.getElem_set]
    by_cases e1 : i = p <;> by_cases e2 : i = q
    · omega
    · subst e1; simp only [if_true, if_neg e2]; rw [hLi] at hp'; exact hp'
    · subst e2; simp only [if_true, if_neg e1]; rw [hLi] at hp'; exact hp'
    · simp only [if_neg e1, if_neg e2]; exact hp'
theorem St.free {i b off : Nat} {cs : List Value} {T : TypeId} (h : St X w0 w L) (hi : L[i]? = some (b, cs, T)) : w.frozen? ⟨b, off, none⟩ = false := by
  have := h.get hi
  simp only at this
  simp [World.frozen?, this]
end

end Go.Proofs.Ytagghfllgafmgaa
