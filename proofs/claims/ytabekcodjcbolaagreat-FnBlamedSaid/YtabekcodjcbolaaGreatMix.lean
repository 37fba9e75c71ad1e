/-
  Regions that draw and that write: operations that nothing before them can disturb are taken first. Nothing here speaks of one program.
-/
import Derived.Test.YtabekcodjcbolaaGreatQui
namespace Go.Proofs.YtabekcodjcbolaaGreat
set_option linter.unusedVariables false
set_option linter.unusedSimpArgs false
open Go.RowKit
variable {P : Program}
section
variable {ops : Array Oper} {md : Region.Mode}
/-- Operation number i comes up: it hands back a value or nothing, and what it does to the world is told: nothing, unless it is one of the writers; then R. -/
def mOp (P : Program) (ops : Array Oper) (S : Nat → Bool) (R : World → World → Prop) (i : Nat) (K : Act → World → Prop) (a : Act) (w : World) : Prop :=
  match ops[i]? with
  | none => False
  | some o => if Region.wanted o (yielded ops a.tmps) then
      match (execOp a.eval o).run P w with
      | .ok (.value u) w' => (if S i then R w w' else w' = w) ∧ K (a.put o.dst u) w'
      | .ok .skip w' => (if S i then R w w' else w' = w) ∧ K (a.put o.dst undef) w'
      | _ => False
    else K (a.put o.dst undef) w
theorem mOp_mono {S : Nat → Bool} {R : World → World → Prop} {i : Nat} {K K' : Act → World → Prop} {a : Act} {w : World} (h : ∀ a w, K a w → K' a w) (hh : mOp P ops S R i K a w) : mOp P ops S R i K' a w := by
  unfold mOp at *
  split at hh
  · exact hh
  · split at hh
    · rename_i hw; rw [if_pos hw]
      split at hh
      · exact ⟨hh.1, h _ _ hh.2⟩
      · exact ⟨hh.1, h _ _ hh.2⟩
      · exact hh
    · rename_i hw; rw [if_neg hw]; exact h _ _ hh
theorem wpOp_of_mOp {S : Nat → Bool} {R : World → World → Prop} {i : Nat} {K K' : Act → World → Prop} {Q' : Exit → Act → World → Prop} {a : Act} {w : World} (h : ∀ a w, K a w → K' a w) (hh : mOp P ops S R i K a w) : wpOp P ops Q' i K' a w := by
  unfold mOp at hh
  unfold wpOp
  split
  · rename_i ho; simp only [ho] at hh
  · rename_i o ho
    simp only [ho] at hh
    split
    · rename_i hw
      rw [if_pos hw] at hh
      refine .inl ?_
      unfold Oper.wp
      generalize (execOp a.eval o).run P w = r at *
      cases r with
      | ok n w' => cases n <;> simp only [Oper.upon] at hh ⊢ <;> first | exact h _ _ hh.2 | exact hh.elim
      | halt x w' => exact hh.elim
    · rename_i hw; rw [if_neg hw] at hh; exact h _ _ hh
def wpM (P : Program) (md : Region.Mode) (ops : Array Oper) (S : Nat → Bool) (R : World → World → Prop) (Q : Act → World → Prop) : Nat → Array Bool → Act → World → Prop
  | 0, listed, a, w => Region.ready md ops listed = [] ∧ Q a w
  | fuel + 1, listed, a, w => (Region.ready md ops listed = [] → Q a w) ∧ ∀ i ∈ Region.ready md ops listed, mOp P ops S R i (wpM P md ops S R Q fuel (listed.setIfInBounds i true)) a w
theorem wpAny_of_wpM {S : Nat → Bool} {R : World → World → Prop} {Q : Act → World → Prop} {Q' : Exit → Act → World → Prop} (hQ : ∀ a w, Q a w → Q' .normal a w) : ∀ (fuel : Nat) (listed : Array Bool) (a : Act) (w : World), wpM P md ops S R Q fuel listed a w → wpAny P md ops Q' fuel listed a w
  | 0, _, _, _, h => ⟨h.1, hQ _ _ h.2⟩
  | fuel + 1, _, _, _, h => ⟨fun h0 => hQ _ _ (h.1 h0), fun i hi => wpOp_of_mOp (fun a' w' => wpAny_of_wpM hQ fuel _ a' w') (h.2 i hi)⟩
/-- In state a, in every world of the class, operation o hands back v and leaves the world alone. -/
def YieldsC (P : Program) (ops : Array Oper) (C : World → Prop) (o : Oper) (v : Value) (a : Act) : Prop :=
  (Region.wanted o (yielded ops a.tmps) = true ∧ ∀ w, C w → (execOp a.eval o).run P w = .ok (.value v) w) ∨ (Region.wanted o (yielded ops a.tmps) = false ∧ v = undef)
theorem YieldsC.of_same {C : World → Prop} {o : Oper} {v : Value} {a a' : Act} (hy : YieldsC P ops C o v a) (he : execOp a'.eval o = execOp a.eval o) (hw : Region.wanted o (yielded ops a'.tmps) = Region.wanted o (yielded ops a.tmps)) : YieldsC P ops C o v a' := by
  unfold YieldsC at *
  rw [he, hw]; exact hy
theorem YieldsC.mOp {S : Nat → Bool} {R : World → World → Prop} {C : World → Prop} {i : Nat} {o : Oper} {v : Value} {a : Act} {w : World} {K : Act → World → Prop} (hi : ops[i]? = some o) (hS : S i = false) (hC : C w) (hy : YieldsC P ops C o v a) (h : K (a.put o.dst v) w) : mOp P ops S R i K a w := by
  unfold Go.Proofs.YtabekcodjcbolaaGreat.mOp
  simp only [hi]
  rcases hy with ⟨hw, hv⟩ | ⟨hw, rfl⟩
  · rw [if_pos hw, hv w hC]; exact ⟨by rw [hS]; rfl, h⟩
  · rw [if_neg (by rw [hw]; simp)]; exact h
theorem mOp_put {S : Nat → Bool} {R : World → World → Prop} {C : World → Prop} {j : Nat} {oi oj : Oper} {v : Value} (hj : ops[j]? = some oj) (hap : oi.apart ops oj = true) (hsi : ∀ cs b, oi.op ≠ .select cs b) (hsj : ∀ cs b, oj.op ≠ .select cs b)
    {K : Act → World → Prop} {a : Act} {w : World} (hC : C w) (hR : S j = true → ∀ w', R w w' → C w') (hy : YieldsC P ops C oi v a) (h : mOp P ops S R j K (a.put oi.dst v) w) :
    mOp P ops S R j (fun a' w' => C w' ∧ YieldsC P ops C oi v a' ∧ K (a'.put oi.dst v) w') a w := by
  obtain ⟨h1, h2, h3⟩ := Oper.apart_spec hap
  have keep : ∀ u, YieldsC P ops C oi v (a.put oj.dst u) := fun u => hy.of_same (execOp_put oi hsi a oj.dst u h3) (wanted_put oi a oj.dst u h3)
  have cc : ∀ w', (if S j then R w w' else w' = w) → C w' := by
    intro w' h
    cases hs : S j with
    | true => rw [hs] at h; exact hR hs w' h
    | false => rw [hs] at h; simp at h; rw [h]; exact hC
  unfold Go.Proofs.YtabekcodjcbolaaGreat.mOp at *
  simp only [hj] at *
  rw [wanted_put oj a oi.dst v h1] at h
  split
  · rename_i hw
    rw [if_pos hw, execOp_put oj hsj a oi.dst v h1] at h
    generalize (execOp a.eval oj).run P w = r at *
    cases r with
    | ok n w' =>
      cases n <;> simp only at h ⊢
      case value u => exact ⟨h.1, cc _ h.1, keep u, by rw [← Act.put_comm a v u h2]; exact h.2⟩
      case skip => exact ⟨h.1, cc _ h.1, keep _, by rw [← Act.put_comm a v undef h2]; exact h.2⟩
    | halt x w' => exact h
  · rename_i hw
    rw [if_neg hw] at h
    exact ⟨hC, keep _, by rw [← Act.put_comm a v undef h2]; exact h⟩
/-- An operation that may come up now may be taken first, if whatever may come before it keeps the class in which it hands back its value. -/
theorem wpM_first {S : Nat → Bool} {R : World → World → Prop} {C : World → Prop} {Q : Act → World → Prop} {i : Nat} {oi : Oper} {v : Value} (hi : ops[i]? = some oi) (hS : S i = false) (hsel : ∀ (j : Nat) (o : Oper) cs b, ops[j]? = some o → o.op ≠ .select cs b)
    (hR : ∀ j oj, ops[j]? = some oj → S j = true → (∀ e ∈ oj.after, Region.binds md e = true → e.on ≠ i) → ∀ w w', C w → R w w' → C w') :
    ∀ (fuel : Nat) (listed : Array Bool) (a : Act) (w : World), C w →
      (∀ j oj, ops[j]? = some oj → j ≠ i → listed.getD j true = false → (∀ e ∈ oj.after, Region.binds md e = true → e.on ≠ i) → oi.apart ops oj = true) →
      i ∈ Region.ready md ops listed → YieldsC P ops C oi v a →
      wpM P md ops S R Q fuel (listed.setIfInBounds i true) (a.put oi.dst v) w → wpM P md ops S R Q (fuel + 1) listed a w := by
  intro fuel
  induction fuel with
  | zero =>
    intro listed a w hC _ hr hy H
    refine ⟨fun h => (by rw [h] at hr; cases hr), fun j hj => ?_⟩
    by_cases hji : j = i
    · subst hji; exact hy.mOp hi hS hC H
    · have := ready_mono hj hji
      rw [H.1] at this
      cases this
  | succ fuel ih =>
    intro listed a w hC hfree hr hy H
    refine ⟨fun h => (by rw [h] at hr; cases hr), fun j hj => ?_⟩
    by_cases hji : j = i
    · subst hji; exact hy.mOp hi hS hC H
    · have h1 := H.2 j (ready_mono hj hji)
      obtain ⟨hjun, oj, hoj, hall⟩ := mem_ready.1 hj
      have hnot : ∀ e ∈ oj.after, Region.binds md e = true → e.on ≠ i := fun e he hb heq => by
        have h1 := hall e he hb
        have h0 := (mem_ready.1 hr).1
        rw [heq] at h1
        rcases Nat.lt_or_ge i listed.size with h' | h'
        · simp [h'] at h0 h1; rw [h0] at h1; cases h1
        · simp [Array.getElem?_eq_none h'] at h1
      have h2 := mOp_put hoj (hfree j oj hoj hji hjun hnot) (fun cs b => hsel i oi cs b hi) (fun cs b => hsel j oj cs b hoj) hC (fun hs w' hw' => hR j oj hoj hs hnot w w' hC hw') hy h1
      have hfree' : ∀ k ok, ops[k]? = some ok → k ≠ i → (listed.setIfInBounds j true).getD k true = false →
          (∀ e ∈ ok.after, Region.binds md e = true → e.on ≠ i) → oi.apart ops ok = true := fun k ok hk hki hun hno => by
        refine hfree k ok hk hki ?_ hno
        by_cases hjk : j = k
        · subst hjk; exact hjun
        · rw [getD_set_ne true hjk] at hun; exact hun
      refine mOp_mono (fun a' w' h3 => ih (listed.setIfInBounds j true) a' w' h3.1 hfree' (ready_mono hr (Ne.symm hji)) h3.2.1 ?_) h2
      rw [Array.setIfInBounds_comm _ _ hji]
      exact h3.2.2
/-! ### a plan: 0: hands back its value in every world; 1: in this world, and every writer waits for it; 3: in every world that R allows; 2: nothing else may come up -/
def planB (md : Region.Mode) (ops : Array Oper) (S : Nat → Bool) : List (Nat × Nat) → Array Bool → Bool
  | [], listed => (Region.ready md ops listed).isEmpty
  | (i, k) :: rest, listed => (bif k == 2 then decide (Region.ready md ops listed = [i]) else
      (Region.ready md ops listed).contains i && (Region.free md ops listed i && (!S i && (bif k == 1 then (List.range ops.size).all (fun j => !S j || Region.waitsFor md ops j i) else (k == 0 || k == 3))))) && planB md ops S rest (listed.setIfInBounds i true)
def wpPl (P : Program) (ops : Array Oper) (S : Nat → Bool) (R : World → World → Prop) (Q : Act → World → Prop) : List (Nat × Nat) → Act → World → Prop
  | [], a, w => Q a w
  | (i, k) :: rest, a, w =>
    if k = 2 then mOp P ops S R i (wpPl P ops S R Q rest) a w
    else match ops[i]? with
      | none => False
      | some o => if Region.wanted o (yielded ops a.tmps) = true then ∃ v, (∀ w', (k = 0 ∨ (k = 3 ∧ R w w') ∨ w' = w) → (execOp a.eval o).run P w' = .ok (.value v) w') ∧ wpPl P ops S R Q rest (a.put o.dst v) w
        else wpPl P ops S R Q rest (a.put o.dst undef) w
theorem wpM_of_plan {S : Nat → Bool} {R : World → World → Prop} {Q : Act → World → Prop} (hsel : Region.noSelect ops = true) (hrefl : ∀ w, R w w) (htrans : ∀ a b c, R a b → R b c → R a c) :
    ∀ (pl : List (Nat × Nat)) (listed : Array Bool) (a : Act) (w : World), planB md ops S pl listed = true → wpPl P ops S R Q pl a w → wpM P md ops S R Q pl.length listed a w
  | [], listed, a, w, hB, h => ⟨by simpa [planB] using hB, h⟩
  | (i, k) :: rest, listed, a, w, hB, h => by
    unfold planB at hB
    rw [Bool.and_eq_true] at hB
    obtain ⟨h1, hB'⟩ := hB
    have IH : ∀ a' w', wpPl P ops S R Q rest a' w' → wpM P md ops S R Q rest.length (listed.setIfInBounds i true) a' w' := fun a' w' h' => wpM_of_plan hsel hrefl htrans rest (listed.setIfInBounds i true) a' w' hB' h'
    unfold wpPl at h
    by_cases hk : k = 2
    · rw [if_pos hk] at h
      rw [show (k == 2) = true by simp [hk], cond_true, decide_eq_true_eq] at h1
      refine ⟨fun h0 => (by rw [h1] at h0; cases h0), fun j hj => ?_⟩
      rw [h1] at hj
      obtain rfl : j = i := by simpa using hj
      exact mOp_mono IH h
    · rw [if_neg hk] at h
      rw [show (k == 2) = false by simp [hk], cond_false] at h1
      simp only [Bool.and_eq_true, Bool.not_eq_true'] at h1
      obtain ⟨hr, hf, hS, hw⟩ := h1
      have hr' : i ∈ Region.ready md ops listed := by simpa using hr
      split at h
      · exact h.elim
      · rename_i o ho
        have hstep : ∃ v, YieldsC P ops (fun w' => k = 0 ∨ (k = 3 ∧ R w w') ∨ w' = w) o v a ∧ wpPl P ops S R Q rest (a.put o.dst v) w := by
          split at h
          · rename_i hwt
            obtain ⟨v, h2, h3⟩ := h
            exact ⟨v, .inl ⟨hwt, h2⟩, h3⟩
          · rename_i hwt
            exact ⟨undef, .inr ⟨by simpa using hwt, rfl⟩, h⟩
        obtain ⟨v, hy, hK⟩ := hstep
        refine wpM_first (C := fun w' => k = 0 ∨ (k = 3 ∧ R w w') ∨ w' = w) ho hS (Region.noSelect_spec hsel) ?_ _ _ _ _ (.inr (.inr rfl)) (Region.free_spec ho hf) hr' hy (IH _ _ hK)
        intro j oj hoj hSj hno w1 w2 hC hRw
        by_cases hk0 : k = 0
        · exact .inl hk0
        · by_cases hk3 : k = 3
          · rcases hC with h0 | ⟨_, h3⟩ | h0
            · exact absurd h0 hk0
            · exact .inr (.inl ⟨hk3, htrans _ _ _ h3 hRw⟩)
            · subst h0; exact .inr (.inl ⟨hk3, hRw⟩)
          · exfalso
            by_cases hk1 : k = 1
            · rw [show (k == 1) = true by simp [hk1], cond_true, List.all_eq_true] at hw
              have hjl : j < ops.size := (Array.getElem?_eq_some_iff.1 hoj).1
              have := hw j (by simpa using hjl)
              rw [hSj, Bool.not_true, Bool.false_or] at this
              obtain ⟨o2, ho2, e, he, hb, hon⟩ := Region.waitsFor_spec this
              obtain rfl : oj = o2 := Option.some.inj (hoj.symm.trans ho2)
              exact hno e he hb hon
            · rw [show (k == 1) = false by simp [hk1], cond_false] at hw
              simp [hk0, hk3] at hw
end
theorem wp_region_plan {id : Nat} {Q : Exit → Act → World → Prop} {a : Act} {w : World} {l : List Oper} {S : Nat → Bool} {R : World → World → Prop} (pl : List (Nat × Nat)) (hm : P.follows .mixedOrders = true) (hsel : Region.noSelect l.toArray = true)
    (hB : planB .any l.toArray S pl (Array.replicate l.toArray.size false) = true) (hl : pl.length = l.length) (hrefl : ∀ w, R w w) (htrans : ∀ a b c, R a b → R b c → R a c)
    (h : wpPl P l.toArray S R (fun a w => Q .normal a w) pl a { w with drawn := w.drawn + 1 }) : (Code.region id l.toArray true).wp P Q a w := by
  refine wp_region_any hm ?_
  have := wpAny_of_wpM (Q' := Q) (fun a w h => h) _ _ _ _ (wpM_of_plan (md := .any) hsel hrefl htrans pl _ a _ hB h)
  rw [hl] at this
  simpa using this
def Wm (P : Program) (n : Nat) (ops : Array Oper) (S : Nat → Bool) (R : World → World → Prop) (Q : LPost) (pl : List (Nat × Nat)) (f : Env) (w : World) : Prop :=
  (∀ (i : Nat) (o : Oper), ops[i]? = some o → dstIn n o = true) → ∀ a, Agr n a f → wpPl P ops S R (fun a w => ofL n Q .normal a w) pl a w
theorem Wc.mixed {n id : Nat} {l : List Oper} {Q : LPost} {f : Env} {w : World} {S : Nat → Bool} {R : World → World → Prop} (pl : List (Nat × Nat)) (hrefl : ∀ w, R w w) (htrans : ∀ a b c, R a b → R b c → R a c) (hm : P.follows .mixedOrders = true) (hsel : Region.noSelect l.toArray = true)
    (hB : planB .any l.toArray S pl (Array.replicate l.toArray.size false) = true) (hl : pl.length = l.length) (hd : l.all (dstIn n) = true)
    (h : ∀ w', Below w.heap.size w w' → Wm P n l.toArray S R Q pl f w') : Wc P n (.region id l.toArray true) Q f w := fun a ha => by
  refine wp_region_plan pl hm hsel hB hl hrefl htrans (h { w with drawn := w.drawn + 1 } ⟨rfl, rfl, rfl, Nat.le_refl _, fun _ _ => rfl⟩ ?_ a ha)
  intro i o ho
  rw [List.all_eq_true] at hd
  exact hd o (List.mem_of_getElem? (by simpa using ho))
/-- All but one block stay. -/
def RB (B : Nat) (w w' : World) : Prop := ∀ p : Addr, p.block ≠ B → w'.cell? p = w.cell? p
theorem RB.refl (B : Nat) : ∀ w, RB B w w := fun _ _ _ => rfl
theorem RB.trans (B : Nat) : ∀ a b c, RB B a b → RB B b c → RB B a c := fun _ _ _ h k p hp => (k p hp).trans (h p hp)
section
variable {n : Nat} {ops : Array Oper} {S : Nat → Bool} {R : World → World → Prop} {Q : LPost} {rest : List (Nat × Nat)} {f : Env} {w w0 : World} {X : List Nat} {L : List Ent} {o : Op} {t : TypeId} {p : String} {af : Array Edge}
theorem Wm.nil (h : Q .normal f w) : Wm P n ops S R Q [] f w := fun _ a ha => ⟨f, ha, h⟩
theorem Wm.step {i k : Nat} {d : Tmp} {v : Value} (hk : k ≠ 2) (hi : ops[i]? = some ⟨some d, o, t, p, af, none⟩) (h : ∀ ρ, Val f ρ → ∀ w', (k = 0 ∨ (k = 3 ∧ R w w') ∨ w' = w) → (execOp ρ ⟨some d, o, t, p, af, none⟩).run P w' = .ok (.value v) w')
    (kk : Wm P n ops S R Q rest ((d, v) :: f) w) : Wm P n ops S R Q ((i, k) :: rest) f w := fun hd a ha => by
  unfold wpPl
  rw [if_neg hk]
  simp only [hi]
  rw [if_pos (by rfl)]
  have hdl : d < n := by have := hd _ _ hi; simpa [dstIn, Nat.blt_eq] using this
  exact ⟨v, fun w' hw' => h _ ha.val w' hw', kk hd _ (ha.put hdl v)⟩
theorem Wm.pure {i k : Nat} {d : Tmp} {v : Value} (hk : k ≠ 2) (hi : ops[i]? = some ⟨some d, o, t, p, af, none⟩) (h : PR P f o v) (kk : Wm P n ops S R Q rest ((d, v) :: f) w) : Wm P n ops S R Q ((i, k) :: rest) f w :=
  Wm.step hk hi (fun ρ hρ w' _ => h ρ hρ _ _ _ _ _ _) kk
theorem Wm.load {i : Nat} {d : Tmp} {T : TypeId} {x : Operand} {j m b off : Nat} {cs : List Value} {T' : TypeId} {v : Value} (hi : ops[i]? = some ⟨some d, .load T x, t, p, af, none⟩) (st : St X w0 w L) (hT : tyA P T = some (false, m)) (hx : evO f x = some (.pointer (some ⟨b, off, none⟩))) (hj : L[j]? = some (b, cs, T')) (hv : cs[off]? = some v)
    (kk : Wm P n ops S R Q rest ((d, v) :: f) w) : Wm P n ops S R Q ((i, 1) :: rest) f w :=
  Wm.step (by decide) hi (fun ρ hρ w' hw' => by
    rcases hw' with h | ⟨h, _⟩ | h
    · cases h
    · cases h
    · subst h; exact exec_load hρ hx (run_load1 hT (st.cell hj hv))) kk
theorem Wm.loadC {i : Nat} {d : Tmp} {T : TypeId} {x : Operand} {m b off : Nat} {v : Value} (hi : ops[i]? = some ⟨some d, .load T x, t, p, af, none⟩) (hT : tyA P T = some (false, m)) (hx : evO f x = some (.pointer (some ⟨b, off, none⟩))) (hv : w.cell? ⟨b, off, none⟩ = some v)
    (kk : Wm P n ops S R Q rest ((d, v) :: f) w) : Wm P n ops S R Q ((i, 1) :: rest) f w :=
  Wm.step (by decide) hi (fun ρ hρ w' hw' => by
    rcases hw' with h | ⟨h, _⟩ | h
    · cases h
    · cases h
    · subst h; exact exec_load hρ hx (run_load1 hT hv)) kk
/-- A load of a block that the region's stores leave alone. -/
theorem Wm.loadR {i B : Nat} {d : Tmp} {T : TypeId} {x : Operand} {j j' m b off : Nat} {cs csB : List Value} {T' TB : TypeId} {v : Value} (hi : ops[i]? = some ⟨some d, .load T x, t, p, af, none⟩) (st : St X w0 w L) (hT : tyA P T = some (false, m)) (hx : evO f x = some (.pointer (some ⟨b, off, none⟩))) (hj : L[j]? = some (b, cs, T')) (hB : L[j']? = some (B, csB, TB)) (hne : j ≠ j') (hv : cs[off]? = some v)
    (kk : Wm P n ops S (RB B) Q rest ((d, v) :: f) w) : Wm P n ops S (RB B) Q ((i, 3) :: rest) f w := by
  have hbB : b ≠ B := by
    obtain ⟨h1, e1⟩ := List.getElem?_eq_some_iff.1 hj
    obtain ⟨h2, e2⟩ := List.getElem?_eq_some_iff.1 hB
    rcases Nat.lt_or_gt_of_ne hne with h | h
    · have := List.pairwise_iff_getElem.1 st.apart j j' h1 h2 h; rw [e1, e2] at this; exact this
    · have := List.pairwise_iff_getElem.1 st.apart j' j h2 h1 h; rw [e1, e2] at this; exact fun q => this q.symm
  refine Wm.step (by decide) hi (fun ρ hρ w' hw' => ?_) kk
  have hc : w'.cell? ⟨b, off, none⟩ = some v := by
    rcases hw' with h | ⟨_, h⟩ | h
    · cases h
    · rw [h _ hbB]; exact st.cell hj hv
    · subst h; exact st.cell hj hv
  exact exec_load hρ hx (run_load1 hT hc)
theorem Wm.store {i : Nat} {T : TypeId} {x y : Operand} {j b off : Nat} {a : Bool} {cs cs' : List Value} {T' : TypeId} {v : Value} (hi : ops[i]? = some ⟨none, .store T x y, t, p, af, none⟩) (st : St X w0 w L) (hR : ∀ w', RB b w w' → R w w') (hT : tyA P T = some (a, 1)) (hx : evO f x = some (.pointer (some ⟨b, off, none⟩))) (hy : evO f y = some (v)) (hv : v.oneCell' = true) (hj : L[j]? = some (b, cs, T')) (ho : off < cs.length) (hs : cs.set off v = cs') (hS : S i = true)
    (k : ∀ w', St X w0 w' (L.set j (b, cs', T')) → Wm P n ops S R Q rest f w') : Wm P n ops S R Q ((i, 2) :: rest) f w := fun hd ac ha => by
  have hc := st.cell hj (List.getElem?_eq_getElem ho)
  unfold wpPl
  rw [if_pos rfl]
  unfold mOp
  simp only [hi]
  rw [if_pos (by rfl)]
  have hx := ha.val _ _ hx
  have hy := ha.val _ _ hy
  have e : (execOp ac.eval ⟨none, .store T x y, t, p, af, none⟩).run P w = .ok .skip (w.setCell ⟨b, off, none⟩ v) := by
    simp [execOp, hx, hy, Instr.storeAt, Instr.sureAddr, run_storeVar1 hT hv hc (st.free hj)]
  rw [e]
  refine ⟨?_, k _ (st.put hj hs) hd _ ha⟩
  rw [hS, if_pos rfl]
  refine hR _ fun q hq => ?_
  unfold World.cell?
  rw [Below.heap_setCell _ _ _ _ hq]
end
end Go.Proofs.YtabekcodjcbolaaGreat
