/-
  Regions that draw their order, whose operations read, write, make memory and call: a tree of orders. Nothing here speaks of one program.
-/
import Derived.Test.YtagghfllgafmgaaApp
namespace Go.Proofs.Ytagghfllgafmgaa
set_option linter.unusedVariables false
set_option linter.unusedSimpArgs false
open Go.RowKit
variable {P : Program}
section
variable {ops : Array Oper} {md : Region.Mode}
/-- What comes of an operation: the world is left as it was, or, for one of S, R tells how it turns. -/
def tUp (S : Bool) (R : World → World → Prop) (o : Oper) (K : Act → World → Prop) (a : Act) (w : World) : Result Next → Prop
  | .ok (.value u) w' => (if S then R w w' else w' = w) ∧ K (a.put o.dst u) w'
  | .ok .skip w' => (if S then R w w' else w' = w) ∧ K (a.put o.dst undef) w'
  | .ok (.enter f args) w' => S = true ∧ Calls P f args w' (fun e w'' => ∃ u, e = .returned u ∧ R w w'' ∧ K (a.put o.dst u) w'')
  | .ok (.row row args) w' => S = true ∧ Rows P row args w' (fun u w'' => R w w'' ∧ K (a.put o.dst u) w'')
  | _ => False
def tOp (P : Program) (ops : Array Oper) (S : Nat → Bool) (R : World → World → Prop) (i : Nat) (K : Act → World → Prop) (a : Act) (w : World) : Prop :=
  match ops[i]? with
  | none => False
  | some o => if Region.wanted o (yielded ops a.tmps) then tUp (P := P) (S i) R o K a w ((execOp a.eval o).run P w) else K (a.put o.dst undef) w
theorem tUp_mono {S : Bool} {R : World → World → Prop} {o : Oper} {K K' : Act → World → Prop} {a : Act} {w : World} {r : Result Next} (h : ∀ a w, K a w → K' a w) (hh : tUp (P := P) S R o K a w r) : tUp (P := P) S R o K' a w r := by
  cases r with
  | ok n w' =>
    cases n <;> simp only [tUp] at hh ⊢
    case value u => exact ⟨hh.1, h _ _ hh.2⟩
    case skip => exact ⟨hh.1, h _ _ hh.2⟩
    case enter f args => exact ⟨hh.1, hh.2.mono fun e w'' ⟨u, h1, h2, h3⟩ => ⟨u, h1, h2, h _ _ h3⟩⟩
    case row row args => exact ⟨hh.1, hh.2.mono fun u w'' ⟨h2, h3⟩ => ⟨h2, h _ _ h3⟩⟩
  | halt x w' => exact hh
theorem tOp_mono {S : Nat → Bool} {R : World → World → Prop} {i : Nat} {K K' : Act → World → Prop} {a : Act} {w : World} (h : ∀ a w, K a w → K' a w) (hh : tOp P ops S R i K a w) : tOp P ops S R i K' a w := by
  unfold tOp at *
  split at hh
  · exact hh
  · split at hh
    · rename_i hw; rw [if_pos hw]; exact tUp_mono h hh
    · rename_i hw; rw [if_neg hw]; exact h _ _ hh
theorem wpOp_of_tOp {S : Nat → Bool} {R : World → World → Prop} {i : Nat} {K K' : Act → World → Prop} {Q' : Exit → Act → World → Prop} {a : Act} {w : World} (h : ∀ a w, K a w → K' a w) (hh : tOp P ops S R i K a w) : wpOp P ops Q' i K' a w := by
  unfold tOp at hh
  unfold wpOp
  split
  · rename_i ho; simp only [ho] at hh
  · rename_i o ho
    simp only [ho] at hh
    split
    · rename_i hw
      rw [if_pos hw] at hh
      refine .inl ?_
      unfold Oper.wp
      generalize (execOp a.eval o).run P w = r at *
      cases r with
      | ok n w' =>
        cases n <;> simp only [tUp] at hh <;> simp only [Oper.upon]
        case value u => exact h _ _ hh.2
        case skip => exact h _ _ hh.2
        case enter f args =>
          refine hh.2.mono fun e w'' ⟨u, h1, _, h3⟩ => ?_
          subst h1
          exact h _ _ h3
        case row row args => exact hh.2.mono fun u w'' ⟨_, h3⟩ => h _ _ h3
      | halt x w' => exact hh.elim
    · rename_i hw; rw [if_neg hw] at hh; exact h _ _ hh
def wpX (P : Program) (md : Region.Mode) (ops : Array Oper) (S : Nat → Bool) (R : World → World → Prop) (Q : Act → World → Prop) : Nat → Array Bool → Act → World → Prop
  | 0, listed, a, w => Region.ready md ops listed = [] ∧ Q a w
  | fuel + 1, listed, a, w => (Region.ready md ops listed = [] → Q a w) ∧ ∀ i ∈ Region.ready md ops listed, tOp P ops S R i (wpX P md ops S R Q fuel (listed.setIfInBounds i true)) a w
theorem wpAny_of_wpX {S : Nat → Bool} {R : World → World → Prop} {Q : Act → World → Prop} {Q' : Exit → Act → World → Prop} (hQ : ∀ a w, Q a w → Q' .normal a w) : ∀ (fuel : Nat) (listed : Array Bool) (a : Act) (w : World), wpX P md ops S R Q fuel listed a w → wpAny P md ops Q' fuel listed a w
  | 0, _, _, _, h => ⟨h.1, hQ _ _ h.2⟩
  | fuel + 1, _, _, _, h => ⟨fun h0 => hQ _ _ (h.1 h0), fun i hi => wpOp_of_tOp (fun a' w' => wpAny_of_wpX hQ fuel _ a' w') (h.2 i hi)⟩
def YieldsT (P : Program) (ops : Array Oper) (C : World → Prop) (o : Oper) (v : Value) (a : Act) : Prop :=
  (Region.wanted o (yielded ops a.tmps) = true ∧ ∀ w, C w → (execOp a.eval o).run P w = .ok (.value v) w) ∨ (Region.wanted o (yielded ops a.tmps) = false ∧ v = undef)
theorem YieldsT.of_same {C : World → Prop} {o : Oper} {v : Value} {a a' : Act} (hy : YieldsT P ops C o v a) (he : execOp a'.eval o = execOp a.eval o) (hw : Region.wanted o (yielded ops a'.tmps) = Region.wanted o (yielded ops a.tmps)) : YieldsT P ops C o v a' := by
  unfold YieldsT at *
  rw [he, hw]; exact hy
theorem YieldsT.tOp {S : Nat → Bool} {R : World → World → Prop} {C : World → Prop} {i : Nat} {o : Oper} {v : Value} {a : Act} {w : World} {K : Act → World → Prop} (hi : ops[i]? = some o) (hS : S i = false) (hC : C w) (hy : YieldsT P ops C o v a) (h : K (a.put o.dst v) w) : tOp P ops S R i K a w := by
  unfold Go.Proofs.Ytagghfllgafmgaa.tOp
  simp only [hi]
  rcases hy with ⟨hw, hv⟩ | ⟨hw, rfl⟩
  · rw [if_pos hw, hv w hC]; exact ⟨by rw [hS]; rfl, h⟩
  · rw [if_neg (by rw [hw]; simp)]; exact h
theorem tOp_put {S : Nat → Bool} {R : World → World → Prop} {C : World → Prop} {j : Nat} {oi oj : Oper} {v : Value} (hj : ops[j]? = some oj) (hap : oi.apart ops oj = true) (hsi : ∀ cs b, oi.op ≠ .select cs b) (hsj : ∀ cs b, oj.op ≠ .select cs b)
    {K : Act → World → Prop} {a : Act} {w : World} (hC : C w) (hR : S j = true → ∀ w', R w w' → C w') (hy : YieldsT P ops C oi v a) (h : tOp P ops S R j K (a.put oi.dst v) w) :
    tOp P ops S R j (fun a' w' => C w' ∧ YieldsT P ops C oi v a' ∧ K (a'.put oi.dst v) w') a w := by
  obtain ⟨h1, h2, h3⟩ := Oper.apart_spec hap
  have keep : ∀ u, YieldsT P ops C oi v (a.put oj.dst u) := fun u => hy.of_same (execOp_put oi hsi a oj.dst u h3) (wanted_put oi a oj.dst u h3)
  have cc : ∀ w', (if S j then R w w' else w' = w) → C w' := by
    intro w' h
    cases hs : S j with
    | true => rw [hs] at h; exact hR hs w' h
    | false => rw [hs] at h; simp at h; rw [h]; exact hC
  unfold Go.Proofs.Ytagghfllgafmgaa.tOp at *
  simp only [hj] at *
  rw [wanted_put oj a oi.dst v h1] at h
  split
  · rename_i hw
    rw [if_pos hw, execOp_put oj hsj a oi.dst v h1] at h
    generalize (execOp a.eval oj).run P w = r at *
    cases r with
    | ok n w' =>
      cases n <;> simp only [tUp] at h ⊢
      case value u => exact ⟨h.1, cc _ h.1, keep u, by rw [← Act.put_comm a v u h2]; exact h.2⟩
      case skip => exact ⟨h.1, cc _ h.1, keep _, by rw [← Act.put_comm a v undef h2]; exact h.2⟩
      case enter f args => exact ⟨h.1, h.2.mono fun e w'' ⟨u, e1, e2, e3⟩ => ⟨u, e1, e2, hR h.1 _ e2, keep u, by rw [← Act.put_comm a v u h2]; exact e3⟩⟩
      case row row args => exact ⟨h.1, h.2.mono fun u w'' ⟨e2, e3⟩ => ⟨e2, hR h.1 _ e2, keep u, by rw [← Act.put_comm a v u h2]; exact e3⟩⟩
    | halt x w' => exact h
  · rename_i hw
    rw [if_neg hw] at h
    exact ⟨hC, keep _, by rw [← Act.put_comm a v undef h2]; exact h⟩
theorem wpX_first {S : Nat → Bool} {R : World → World → Prop} {C : World → Prop} {Q : Act → World → Prop} {i : Nat} {oi : Oper} {v : Value} (hi : ops[i]? = some oi) (hS : S i = false) (hsel : ∀ (j : Nat) (o : Oper) cs b, ops[j]? = some o → o.op ≠ .select cs b)
    (hR : ∀ j oj, ops[j]? = some oj → S j = true → (∀ e ∈ oj.after, Region.binds md e = true → e.on ≠ i) → ∀ w w', C w → R w w' → C w') :
    ∀ (fuel : Nat) (listed : Array Bool) (a : Act) (w : World), C w →
      (∀ j oj, ops[j]? = some oj → j ≠ i → listed.getD j true = false → (∀ e ∈ oj.after, Region.binds md e = true → e.on ≠ i) → oi.apart ops oj = true) →
      i ∈ Region.ready md ops listed → YieldsT P ops C oi v a →
      wpX P md ops S R Q fuel (listed.setIfInBounds i true) (a.put oi.dst v) w → wpX P md ops S R Q (fuel + 1) listed a w := by
  intro fuel
  induction fuel with
  | zero =>
    intro listed a w hC _ hr hy H
    refine ⟨fun h => (by rw [h] at hr; cases hr), fun j hj => ?_⟩
    by_cases hji : j = i
    · subst hji; exact hy.tOp hi hS hC H
    · have := ready_mono hj hji
      rw [H.1] at this
      cases this
  | succ fuel ih =>
    intro listed a w hC hfree hr hy H
    refine ⟨fun h => (by rw [h] at hr; cases hr), fun j hj => ?_⟩
    by_cases hji : j = i
    · subst hji; exact hy.tOp hi hS hC H
    · have h1 := H.2 j (ready_mono hj hji)
      obtain ⟨hjun, oj, hoj, hall⟩ := mem_ready.1 hj
      have hnot : ∀ e ∈ oj.after, Region.binds md e = true → e.on ≠ i := fun e he hb heq => by
        have h1 := hall e he hb
        have h0 := (mem_ready.1 hr).1
        rw [heq] at h1
        rcases Nat.lt_or_ge i listed.size with h' | h'
        · simp [h'] at h0 h1; rw [h0] at h1; cases h1
        · simp [Array.getElem?_eq_none h'] at h1
      have h2 := tOp_put hoj (hfree j oj hoj hji hjun hnot) (fun cs b => hsel i oi cs b hi) (fun cs b => hsel j oj cs b hoj) hC (fun hs w' hw' => hR j oj hoj hs hnot w w' hC hw') hy h1
      have hfree' : ∀ k ok, ops[k]? = some ok → k ≠ i → (listed.setIfInBounds j true).getD k true = false →
          (∀ e ∈ ok.after, Region.binds md e = true → e.on ≠ i) → oi.apart ops ok = true := fun k ok hk hki hun hno => by
        refine hfree k ok hk hki ?_ hno
        by_cases hjk : j = k
        · subst hjk; exact hjun
        · rw [getD_set_ne true hjk] at hun; exact hun
      refine tOp_mono (fun a' w' h3 => ih (listed.setIfInBounds j true) a' w' h3.1 hfree' (ready_mono hr (Ne.symm hji)) h3.2.1 ?_) h2
      rw [Array.setIfInBounds_comm _ _ hji]
      exact h3.2.2
/-- A tree of orders. st i 0: its value is the same in every world; st i 1: in this world, and every one of S waits for it; st i 3: in every world that R allows; st i 2: one of S, and nothing else may come up, but what alt has told; alt i x y: i may come up now (x), or what y begins with. -/
inductive PT where
  | nil : PT
  | st (i k : Nat) (r : PT) : PT
  | alt (i : Nat) (x y : PT) : PT
def PT.len : PT → Nat
  | .nil => 0
  | .st _ _ r => r.len + 1
  | .alt _ _ y => y.len
def planT (md : Region.Mode) (ops : Array Oper) (S : Nat → Bool) : PT → List Nat → Array Bool → Bool
  | .nil, _, listed => (Region.ready md ops listed).isEmpty
  | .st i k r, ex, listed => (bif k == 2 then (Region.ready md ops listed).contains i && ((Region.ready md ops listed).all fun j => j == i || ex.contains j) else
      (Region.ready md ops listed).contains i && (Region.free md ops listed i && (!S i && (bif k == 1 then (List.range ops.size).all (fun j => !S j || Region.waitsFor md ops j i) else (k == 0 || k == 3))))) && planT md ops S r [] (listed.setIfInBounds i true)
  | .alt i x y, ex, listed => decide (x.len + 1 = y.len) && (planT md ops S x [] (listed.setIfInBounds i true) && planT md ops S y (i :: ex) listed)
def wpT (P : Program) (ops : Array Oper) (S : Nat → Bool) (R : World → World → Prop) (Q : Act → World → Prop) : PT → Act → World → Prop
  | .nil, a, w => Q a w
  | .st i k r, a, w =>
    if k = 2 then tOp P ops S R i (wpT P ops S R Q r) a w
    else match ops[i]? with
      | none => False
      | some o => if Region.wanted o (yielded ops a.tmps) = true then ∃ v, (∀ w', (k = 0 ∨ (k = 3 ∧ R w w') ∨ w' = w) → (execOp a.eval o).run P w' = .ok (.value v) w') ∧ wpT P ops S R Q r (a.put o.dst v) w
        else wpT P ops S R Q r (a.put o.dst undef) w
  | .alt i x y, a, w => tOp P ops S R i (wpT P ops S R Q x) a w ∧ wpT P ops S R Q y a w
theorem wpX_of_tree {S : Nat → Bool} {R : World → World → Prop} {Q : Act → World → Prop} (hsel : Region.noSelect ops = true) (hrefl : ∀ w, R w w) (htrans : ∀ a b c, R a b → R b c → R a c) :
    ∀ (t : PT) (ex : List Nat) (listed : Array Bool) (a : Act) (w : World), planT md ops S t ex listed = true → wpT P ops S R Q t a w →
      (∀ i ∈ Region.ready md ops listed, i ∈ ex → ∀ f, t.len = f + 1 → tOp P ops S R i (wpX P md ops S R Q f (listed.setIfInBounds i true)) a w) → wpX P md ops S R Q t.len listed a w
  | .nil, ex, listed, a, w, hB, h, _ => ⟨by simpa [planT] using hB, h⟩
  | .st i k r, ex, listed, a, w, hB, h, hex => by
    unfold planT at hB
    rw [Bool.and_eq_true] at hB
    obtain ⟨h1, hB'⟩ := hB
    have IH : ∀ a' w', wpT P ops S R Q r a' w' → wpX P md ops S R Q r.len (listed.setIfInBounds i true) a' w' := fun a' w' h' => wpX_of_tree hsel hrefl htrans r [] (listed.setIfInBounds i true) a' w' hB' h' (fun _ _ hm => by cases hm)
    unfold wpT at h
    by_cases hk : k = 2
    · rw [if_pos hk] at h
      rw [show (k == 2) = true by simp [hk], cond_true, Bool.and_eq_true, List.all_eq_true] at h1
      have hin : i ∈ Region.ready md ops listed := by simpa using h1.1
      refine ⟨fun h0 => (by rw [h0] at hin; cases hin), fun j hj => ?_⟩
      have hj2 := h1.2 j hj
      rw [Bool.or_eq_true] at hj2
      rcases hj2 with e | e
      · obtain rfl : j = i := by simpa using e
        exact tOp_mono IH h
      · exact hex j hj (by simpa using e) r.len rfl
    · rw [if_neg hk] at h
      rw [show (k == 2) = false by simp [hk], cond_false] at h1
      simp only [Bool.and_eq_true, Bool.not_eq_true'] at h1
      obtain ⟨hr, hf, hS, hw⟩ := h1
      have hr' : i ∈ Region.ready md ops listed := by simpa using hr
      split at h
      · exact h.elim
      · rename_i o ho
        have hstep : ∃ v, YieldsT P ops (fun w' => k = 0 ∨ (k = 3 ∧ R w w') ∨ w' = w) o v a ∧ wpT P ops S R Q r (a.put o.dst v) w := by
          split at h
          · rename_i hwt
            obtain ⟨v, h2, h3⟩ := h
            exact ⟨v, .inl ⟨hwt, h2⟩, h3⟩
          · rename_i hwt
            exact ⟨undef, .inr ⟨by simpa using hwt, rfl⟩, h⟩
        obtain ⟨v, hy, hK⟩ := hstep
        refine wpX_first (C := fun w' => k = 0 ∨ (k = 3 ∧ R w w') ∨ w' = w) ho hS (Region.noSelect_spec hsel) ?_ _ _ _ _ (.inr (.inr rfl)) (Region.free_spec ho hf) hr' hy (IH _ _ hK)
        intro j oj hoj hSj hno w1 w2 hC hRw
        by_cases hk0 : k = 0
        · exact .inl hk0
        · by_cases hk3 : k = 3
          · rcases hC with h0 | ⟨_, h3⟩ | h0
            · exact absurd h0 hk0
            · exact .inr (.inl ⟨hk3, htrans _ _ _ h3 hRw⟩)
            · subst h0; exact .inr (.inl ⟨hk3, hRw⟩)
          · exfalso
            by_cases hk1 : k = 1
            · rw [show (k == 1) = true by simp [hk1], cond_true, List.all_eq_true] at hw
              have hjl : j < ops.size := (Array.getElem?_eq_some_iff.1 hoj).1
              have := hw j (by simpa using hjl)
              rw [hSj, Bool.not_true, Bool.false_or] at this
              obtain ⟨o2, ho2, e, he, hb, hon⟩ := Region.waitsFor_spec this
              obtain rfl : oj = o2 := Option.some.inj (hoj.symm.trans ho2)
              exact hno e he hb hon
            · rw [show (k == 1) = false by simp [hk1], cond_false] at hw
              simp [hk0, hk3] at hw
  | .alt i x y, ex, listed, a, w, hB, h, hex => by
    unfold planT at hB
    simp only [Bool.and_eq_true, decide_eq_true_eq] at hB
    obtain ⟨hl, hx, hy⟩ := hB
    unfold wpT at h
    have IHx : ∀ a' w', wpT P ops S R Q x a' w' → wpX P md ops S R Q x.len (listed.setIfInBounds i true) a' w' := fun a' w' h' => wpX_of_tree hsel hrefl htrans x [] (listed.setIfInBounds i true) a' w' hx h' (fun _ _ hm => by cases hm)
    refine wpX_of_tree (t := y) hsel hrefl htrans (ex := i :: ex) listed a w hy h.2 fun j hj hm f hf => ?_
    rcases List.mem_cons.1 hm with e | hm
    · subst e
      have : f = x.len := by omega
      subst this
      exact tOp_mono IHx h.1
    · exact hex j hj hm f hf
end
theorem wp_region_tree {id : Nat} {Q : Exit → Act → World → Prop} {a : Act} {w : World} {l : List Oper} {S : Nat → Bool} {R : World → World → Prop} (t : PT) (hm : P.follows .mixedOrders = true) (hsel : Region.noSelect l.toArray = true)
    (hB : planT .any l.toArray S t [] (Array.replicate l.toArray.size false) = true) (hl : t.len = l.length) (hrefl : ∀ w, R w w) (htrans : ∀ a b c, R a b → R b c → R a c)
    (h : wpT P l.toArray S R (fun a w => Q .normal a w) t a { w with drawn := w.drawn + 1 }) : (Code.region id l.toArray true).wp P Q a w := by
  refine wp_region_any hm ?_
  have := wpAny_of_wpX (Q' := Q) (fun a w h => h) _ _ _ _ (wpX_of_tree (md := .any) hsel hrefl htrans t [] _ a _ hB h (fun _ _ hm => by cases hm))
  rw [hl] at this
  simpa using this
/-! ### what the other blocks do meanwhile -/
/-- Below the size of w0 (but for X), and the blocks Ks: as they were. -/
def RK (X : List Nat) (w0 : World) (Ks : List Nat) (w w' : World) : Prop := (∀ k, (k < w0.heap.size ∧ k ∉ X) ∨ k ∈ Ks → w'.heap[k]? = w.heap[k]?)
theorem RK.refl (X : List Nat) (w0 : World) (Ks : List Nat) : ∀ w, RK X w0 Ks w w := fun _ _ _ => rfl
theorem RK.trans (X : List Nat) (w0 : World) (Ks : List Nat) : ∀ a b c, RK X w0 Ks a b → RK X w0 Ks b c → RK X w0 Ks a c := fun _ _ _ h h' k hk => (h' k hk).trans (h k hk)
theorem RK.of {X Ks : List Nat} {w0 w w' : World} {L L' : List Ent} (st : St X w0 w L) (st' : St X w0 w' L') (h : ∀ k, k ∈ Ks → ∃ e, e ∈ L ∧ e ∈ L' ∧ e.1 = k) : RK X w0 Ks w w' := by
  intro k hk
  rcases hk with ⟨h1, h2⟩ | hk
  · rw [st'.fr.block k h1 h2, st.fr.block k h1 h2]
  · obtain ⟨e, h1, h2, rfl⟩ := h k hk
    rw [(st'.ents e h2).2.2, (st.ents e h1).2.2]
theorem RK.cell {X Ks : List Nat} {w0 w w' : World} (h : RK X w0 Ks w w') {b off : Nat} (hb : (b < w0.heap.size ∧ b ∉ X) ∨ b ∈ Ks) : w'.cell? ⟨b, off, none⟩ = w.cell? ⟨b, off, none⟩ := World.cell?_of_block (h b hb)
theorem ksN {L L' : List Ent} : ∀ k, k ∈ ([] : List Nat) → ∃ e, e ∈ L ∧ e ∈ L' ∧ e.1 = k := fun _ h => by cases h
theorem ksC {L L' : List Ent} {b i j : Nat} {Ks : List Nat} {e : Ent} (h1 : L[i]? = some e) (h2 : L'[j]? = some e) (he : e.1 = b) (t : ∀ k, k ∈ Ks → ∃ e, e ∈ L ∧ e ∈ L' ∧ e.1 = k) : ∀ k, k ∈ b :: Ks → ∃ e, e ∈ L ∧ e ∈ L' ∧ e.1 = k := by
  intro k hk
  rcases List.mem_cons.1 hk with rfl | hk
  · exact ⟨e, List.mem_of_getElem? h1, List.mem_of_getElem? h2, he⟩
  · exact t k hk
def WT (P : Program) (n : Nat) (ops : Array Oper) (S : Nat → Bool) (R : World → World → Prop) (Q : LPost) (t : PT) (f : Env) (w : World) : Prop :=
  (∀ (i : Nat) (o : Oper), ops[i]? = some o → dstIn n o = true) → ∀ a, Agr n a f → wpT P ops S R (fun a w => ofL n Q .normal a w) t a w
/-- A region over a tree of orders, whose ends are joined: what is known there is told as a function of a ghost. -/
theorem Wc.tree {n id : Nat} {γ : Type} {l : List Oper} {Q : LPost} {f : Env} {w w0 : World} {S : Nat → Bool} {X : List Nat} {Ks : List Nat} (U : γ → Env) (J : γ → World → Prop) (t : PT) (hm : P.follows .mixedOrders = true) (hsel : Region.noSelect l.toArray = true)
    (hB : planT .any l.toArray S t [] (Array.replicate l.toArray.size false) = true) (hl : t.len = l.length) (hd : l.all (dstIn n) = true)
    (h : ∀ w', Below w.heap.size w w' → WT P n l.toArray S (RK X w0 Ks) (fun e f w => ∃ g, subE f (U g) ∧ J g w) t f w')
    (k : ∀ g w', J g w' → Q .normal (U g) w') : Wc P n (.region id l.toArray true) Q f w := fun a ha => by
  refine wp_region_tree t hm hsel hB hl (RK.refl X w0 Ks) (RK.trans X w0 Ks) ?_
  have hall : ∀ (i : Nat) (o : Oper), l.toArray[i]? = some o → dstIn n o = true := by
    intro i o ho
    rw [List.all_eq_true] at hd
    exact hd o (List.mem_of_getElem? (by simpa using ho))
  have h' := h { w with drawn := w.drawn + 1 } ⟨rfl, rfl, rfl, Nat.le_refl _, fun _ _ => rfl⟩ hall a ha
  have hmono : ∀ (t : PT) (a : Act) (w : World), wpT P l.toArray S (RK X w0 Ks) (fun a w => ofL n (fun e f w => ∃ g, subE f (U g) ∧ J g w) .normal a w) t a w → wpT P l.toArray S (RK X w0 Ks) (fun a w => ofL n Q .normal a w) t a w := by
    intro t
    induction t with
    | nil => rintro a w ⟨f', ha', g, hs, hJ⟩; exact ⟨U g, ha'.sub hs, k g w hJ⟩
    | st i k' r ih =>
      intro a w h
      unfold wpT at h ⊢
      split at h
      · rename_i hk; rw [if_pos hk]; exact tOp_mono ih h
      · rename_i hk
        rw [if_neg hk]
        split at h
        · exact h
        · split at h
          · rename_i hw; rw [if_pos hw]; obtain ⟨v, h1, h2⟩ := h; exact ⟨v, h1, ih _ _ h2⟩
          · rename_i hw; rw [if_neg hw]; exact ih _ _ h
    | alt i x y ihx ihy =>
      intro a w h
      unfold wpT at h ⊢
      exact ⟨tOp_mono ihx h.1, ihy _ _ h.2⟩
  exact hmono t a _ h'
theorem Wc.tree1 {n id : Nat} {l : List Oper} {Q : LPost} {f : Env} {w w0 : World} {S : Nat → Bool} {X : List Nat} {Ks : List Nat} (t : PT) (hm : P.follows .mixedOrders = true) (hsel : Region.noSelect l.toArray = true)
    (hB : planT .any l.toArray S t [] (Array.replicate l.toArray.size false) = true) (hl : t.len = l.length) (hd : l.all (dstIn n) = true)
    (h : ∀ w', Below w.heap.size w w' → WT P n l.toArray S (RK X w0 Ks) Q t f w') : Wc P n (.region id l.toArray true) Q f w := fun a ha => by
  refine wp_region_tree t hm hsel hB hl (RK.refl X w0 Ks) (RK.trans X w0 Ks) ?_
  refine h { w with drawn := w.drawn + 1 } ⟨rfl, rfl, rfl, Nat.le_refl _, fun _ _ => rfl⟩ (fun i o ho => ?_) a ha
  rw [List.all_eq_true] at hd
  exact hd o (List.mem_of_getElem? (by simpa using ho))
section
variable {n : Nat} {ops : Array Oper} {S : Nat → Bool} {R : World → World → Prop} {Q : LPost} {r x y : PT} {f : Env} {w w0 : World} {X Ks : List Nat} {L : List Ent} {o : Op} {t : TypeId} {p : String} {af : Array Edge}
theorem WT.nil (h : Q .normal f w) : WT P n ops S R Q .nil f w := fun _ a ha => ⟨f, ha, h⟩
theorem WT.alt {i : Nat} (h1 : WT P n ops S R Q (.st i 2 x) f w) (h2 : WT P n ops S R Q y f w) : WT P n ops S R Q (.alt i x y) f w := fun hd a ha => by
  have h1 := h1 hd a ha
  unfold wpT at h1
  rw [if_pos rfl] at h1
  exact ⟨h1, h2 hd a ha⟩
theorem WT.step {i k : Nat} {d : Tmp} {v : Value} (hk : k ≠ 2) (hi : ops[i]? = some ⟨some d, o, t, p, af, none⟩) (h : ∀ ρ, Val f ρ → ∀ w', (k = 0 ∨ (k = 3 ∧ R w w') ∨ w' = w) → (execOp ρ ⟨some d, o, t, p, af, none⟩).run P w' = .ok (.value v) w')
    (kk : WT P n ops S R Q r ((d, v) :: f) w) : WT P n ops S R Q (.st i k r) f w := fun hd a ha => by
  unfold wpT
  rw [if_neg hk]
  simp only [hi]
  rw [if_pos (by rfl)]
  have hdl : d < n := by have := hd _ _ hi; simpa [dstIn, Nat.blt_eq] using this
  exact ⟨v, fun w' hw' => h _ ha.val w' hw', kk hd _ (ha.put hdl v)⟩
theorem WT.pure {i : Nat} {d : Tmp} {v : Value} (hi : ops[i]? = some ⟨some d, o, t, p, af, none⟩) (h : PR P f o v) (kk : WT P n ops S R Q r ((d, v) :: f) w) : WT P n ops S R Q (.st i 0 r) f w :=
  WT.step (by decide) hi (fun ρ hρ w' _ => h ρ hρ _ _ _ _ _ _) kk
theorem WT.lift {t : PT} {f f' : Env} (h : subE f f') (k : WT P n ops S R Q t f' w) : WT P n ops S R Q t f w := fun hd a ha => k hd a (ha.sub h)
theorem WT.splitB {t : PT} {gd : Nat} {b : Bool} (hv : lk f gd = some (.bool b)) (k1 : b = true → WT P n ops S R Q t ((gd, .bool true) :: f) w) (k2 : b = false → WT P n ops S R Q t ((gd, .bool false) :: f) w) : WT P n ops S R Q t f w := by
  cases b with
  | true => exact WT.lift (subE.same hv) (k1 rfl)
  | false => exact WT.lift (subE.same hv) (k2 rfl)
theorem WT.split {t : PT} {gd : Nat} {q : Prop} [Decidable q] (hv : lk f gd = some (.bool (decide q))) (k1 : q → WT P n ops S R Q t ((gd, .bool true) :: f) w) (k2 : ¬ q → WT P n ops S R Q t ((gd, .bool false) :: f) w) : WT P n ops S R Q t f w :=
  WT.splitB hv (fun h => k1 (of_decide_eq_true h)) (fun h => k2 (of_decide_eq_false h))
theorem WT.splitN {t : PT} {gd : Nat} {q : Prop} [Decidable q] (hv : lk f gd = some (.bool (!decide q))) (k1 : ¬ q → WT P n ops S R Q t ((gd, .bool true) :: f) w) (k2 : q → WT P n ops S R Q t ((gd, .bool false) :: f) w) : WT P n ops S R Q t f w :=
  WT.splitB hv (fun h => k1 (by simpa using h)) (fun h => k2 (by simpa using h))
theorem WT.pureG {i j gd : Nat} {want : Bool} {d : Tmp} {v : Value} (hi : ops[i]? = some ⟨some d, o, t, p, af, some (j, want)⟩) (hj : (ops[j]?).bind (·.dst) = some gd) (hv : lk f gd = some (.bool want)) (h : PR P f o v) (kk : WT P n ops S R Q r ((d, v) :: f) w) : WT P n ops S R Q (.st i 0 r) f w := fun hd a ha => by
  unfold wpT
  rw [if_neg (by decide)]
  simp only [hi]
  have hw : Region.wanted ⟨some d, o, t, p, af, some (j, want)⟩ (yielded ops a.tmps) = true := by simp [Region.wanted, ha.yields hj hv]
  rw [if_pos hw]
  have hdl : d < n := by have := hd _ _ hi; simpa [dstIn, Nat.blt_eq] using this
  exact ⟨v, fun w' _ => h _ ha.val _ _ _ _ _ _, kk hd _ (ha.put hdl v)⟩
theorem WT.off {i k j gd : Nat} {b want : Bool} {d : Tmp} (hk : k ≠ 2) (hi : ops[i]? = some ⟨some d, o, t, p, af, some (j, want)⟩) (hj : (ops[j]?).bind (·.dst) = some gd) (hv : lk f gd = some (.bool b)) (hb : b = !want) (kk : WT P n ops S R Q r ((d, undef) :: f) w) : WT P n ops S R Q (.st i k r) f w := fun hd a ha => by
  unfold wpT
  rw [if_neg hk]
  simp only [hi]
  have hw : Region.wanted ⟨some d, o, t, p, af, some (j, want)⟩ (yielded ops a.tmps) = false := by
    simp only [Region.wanted, ha.yields hj hv, hb]; cases want <;> rfl
  rw [if_neg (by rw [hw]; simp)]
  have hdl : d < n := by have := hd _ _ hi; simpa [dstIn, Nat.blt_eq] using this
  exact kk hd _ (ha.put hdl undef)
theorem WT.offU {i k j gd : Nat} {want : Bool} {d : Tmp} (hk : k ≠ 2) (hi : ops[i]? = some ⟨some d, o, t, p, af, some (j, want)⟩) (hj : (ops[j]?).bind (·.dst) = some gd) (hv : lk f gd = some undef) (kk : WT P n ops S R Q r ((d, undef) :: f) w) : WT P n ops S R Q (.st i k r) f w := fun hd a ha => by
  unfold wpT
  rw [if_neg hk]
  simp only [hi]
  have hw : Region.wanted ⟨some d, o, t, p, af, some (j, want)⟩ (yielded ops a.tmps) = false := by
    simp [Region.wanted, yielded, hj, ha.2.2 _ _ hv, undef]
  rw [if_neg (by rw [hw]; simp)]
  have hdl : d < n := by have := hd _ _ hi; simpa [dstIn, Nat.blt_eq] using this
  exact kk hd _ (ha.put hdl undef)
theorem WT.off2 {i j gd : Nat} {b want : Bool} {d : Tmp} (hi : ops[i]? = some ⟨some d, o, t, p, af, some (j, want)⟩) (hj : (ops[j]?).bind (·.dst) = some gd) (hv : lk f gd = some (.bool b)) (hb : b = !want) (kk : WT P n ops S R Q r ((d, undef) :: f) w) : WT P n ops S R Q (.st i 2 r) f w := fun hd a ha => by
  unfold wpT
  rw [if_pos rfl]
  unfold tOp
  simp only [hi]
  have hw : Region.wanted ⟨some d, o, t, p, af, some (j, want)⟩ (yielded ops a.tmps) = false := by
    simp only [Region.wanted, ha.yields hj hv, hb]; cases want <;> rfl
  rw [if_neg (by rw [hw]; simp)]
  have hdl : d < n := by have := hd _ _ hi; simpa [dstIn, Nat.blt_eq] using this
  exact kk hd _ (ha.put hdl undef)
theorem WT.offU2 {i j gd : Nat} {want : Bool} {d : Tmp} (hi : ops[i]? = some ⟨some d, o, t, p, af, some (j, want)⟩) (hj : (ops[j]?).bind (·.dst) = some gd) (hv : lk f gd = some undef) (kk : WT P n ops S R Q r ((d, undef) :: f) w) : WT P n ops S R Q (.st i 2 r) f w := fun hd a ha => by
  unfold wpT
  rw [if_pos rfl]
  unfold tOp
  simp only [hi]
  have hw : Region.wanted ⟨some d, o, t, p, af, some (j, want)⟩ (yielded ops a.tmps) = false := by
    simp [Region.wanted, yielded, hj, ha.2.2 _ _ hv, undef]
  rw [if_neg (by rw [hw]; simp)]
  have hdl : d < n := by have := hd _ _ hi; simpa [dstIn, Nat.blt_eq] using this
  exact kk hd _ (ha.put hdl undef)
/-- a load in every world that R allows -/
theorem WT.ld {i b off : Nat} {d : Tmp} {T : TypeId} {x : Operand} {v : Value} (hi : ops[i]? = some ⟨some d, .load T x, t, p, af, none⟩) (hx : evO f x = some (.pointer (some ⟨b, off, none⟩))) (h : ∀ w', RK X w0 Ks w w' → (loadVar T ⟨b, off, none⟩).run P w' = .ok v w')
    (kk : WT P n ops S (RK X w0 Ks) Q r ((d, v) :: f) w) : WT P n ops S (RK X w0 Ks) Q (.st i 3 r) f w :=
  WT.step (by decide) hi (fun ρ hρ w' hw' => by
    rcases hw' with h0 | ⟨_, h0⟩ | h0
    · cases h0
    · exact exec_load hρ hx (h w' h0)
    · subst h0; exact exec_load hρ hx (h _ (RK.refl _ _ _ _))) kk
theorem WT.load {i : Nat} {d : Tmp} {T : TypeId} {x : Operand} {j m b off : Nat} {cs : List Value} {T' : TypeId} {v : Value} (hi : ops[i]? = some ⟨some d, .load T x, t, p, af, none⟩) (hK : b ∈ Ks) (st : St X w0 w L) (hT : tyA P T = some (false, m)) (hx : evO f x = some (.pointer (some ⟨b, off, none⟩))) (hj : L[j]? = some (b, cs, T')) (hv : cs[off]? = some v)
    (kk : WT P n ops S (RK X w0 Ks) Q r ((d, v) :: f) w) : WT P n ops S (RK X w0 Ks) Q (.st i 3 r) f w :=
  WT.ld hi hx (fun w' h => run_load1 hT (by rw [h.cell (.inr hK)]; exact st.cell hj hv)) kk
theorem WT.loadA {i : Nat} {d : Tmp} {T : TypeId} {x : Operand} {j m b off : Nat} {cs vs : List Value} {T' : TypeId} (hi : ops[i]? = some ⟨some d, .load T x, t, p, af, none⟩) (hK : b ∈ Ks) (st : St X w0 w L) (hT : tyA P T = some (true, m)) (hx : evO f x = some (.pointer (some ⟨b, off, none⟩))) (hj : L[j]? = some (b, cs, T')) (hv : (cs.drop off).take m = vs) (hl : vs.length = m)
    (kk : WT P n ops S (RK X w0 Ks) Q r ((d, .agg vs.toArray) :: f) w) : WT P n ops S (RK X w0 Ks) Q (.st i 3 r) f w :=
  WT.ld hi hx (fun w' h => run_loadA hT hl (fun j' u hu => by rw [h.cell (.inr hK)]; exact st.cell hj (get_of_sub hv j' u hu))) kk
theorem WT.loadC {i : Nat} {d : Tmp} {T : TypeId} {x : Operand} {m b off : Nat} {v : Value} (hi : ops[i]? = some ⟨some d, .load T x, t, p, af, none⟩) (hb : b < w0.heap.size) (hX : b ∉ X) (hT : tyA P T = some (false, m)) (hx : evO f x = some (.pointer (some ⟨b, off, none⟩))) (hv : w.cell? ⟨b, off, none⟩ = some v)
    (kk : WT P n ops S (RK X w0 Ks) Q r ((d, v) :: f) w) : WT P n ops S (RK X w0 Ks) Q (.st i 3 r) f w :=
  WT.ld hi hx (fun w' h => run_load1 hT (by rw [h.cell (.inl ⟨hb, hX⟩)]; exact hv)) kk
theorem WT.loadAC {i : Nat} {d : Tmp} {T : TypeId} {x : Operand} {m b off : Nat} {vs : List Value} (hi : ops[i]? = some ⟨some d, .load T x, t, p, af, none⟩) (hb : b < w0.heap.size) (hX : b ∉ X) (hT : tyA P T = some (true, m)) (hx : evO f x = some (.pointer (some ⟨b, off, none⟩))) (hl : vs.length = m) (hc : ∀ j u, vs[j]? = some u → w.cell? ⟨b, off + j, none⟩ = some u)
    (kk : WT P n ops S (RK X w0 Ks) Q r ((d, .agg vs.toArray) :: f) w) : WT P n ops S (RK X w0 Ks) Q (.st i 3 r) f w :=
  WT.ld hi hx (fun w' h => run_loadA hT hl (fun j' u hu => by rw [h.cell (.inl ⟨hb, hX⟩)]; exact hc j' u hu)) kk
theorem WT.ld1 {i b off : Nat} {d : Tmp} {T : TypeId} {x : Operand} {v : Value} (hi : ops[i]? = some ⟨some d, .load T x, t, p, af, none⟩) (hx : evO f x = some (.pointer (some ⟨b, off, none⟩))) (h : (loadVar T ⟨b, off, none⟩).run P w = .ok v w)
    (kk : WT P n ops S R Q r ((d, v) :: f) w) : WT P n ops S R Q (.st i 1 r) f w :=
  WT.step (by decide) hi (fun ρ hρ w' hw' => by
    rcases hw' with h0 | ⟨h0, _⟩ | h0
    · cases h0
    · cases h0
    · subst h0; exact exec_load hρ hx h) kk
theorem WT.load1 {i : Nat} {d : Tmp} {T : TypeId} {x : Operand} {j m b off : Nat} {cs : List Value} {T' : TypeId} {v : Value} (hi : ops[i]? = some ⟨some d, .load T x, t, p, af, none⟩) (st : St X w0 w L) (hT : tyA P T = some (false, m)) (hx : evO f x = some (.pointer (some ⟨b, off, none⟩))) (hj : L[j]? = some (b, cs, T')) (hv : cs[off]? = some v)
    (kk : WT P n ops S R Q r ((d, v) :: f) w) : WT P n ops S R Q (.st i 1 r) f w := WT.ld1 hi hx (run_load1 hT (st.cell hj hv)) kk
theorem WT.loadA1 {i : Nat} {d : Tmp} {T : TypeId} {x : Operand} {j m b off : Nat} {cs vs : List Value} {T' : TypeId} (hi : ops[i]? = some ⟨some d, .load T x, t, p, af, none⟩) (st : St X w0 w L) (hT : tyA P T = some (true, m)) (hx : evO f x = some (.pointer (some ⟨b, off, none⟩))) (hj : L[j]? = some (b, cs, T')) (hv : (cs.drop off).take m = vs) (hl : vs.length = m)
    (kk : WT P n ops S R Q r ((d, .agg vs.toArray) :: f) w) : WT P n ops S R Q (.st i 1 r) f w := WT.ld1 hi hx (run_loadA hT hl (fun j' u hu => st.cell hj (get_of_sub hv j' u hu))) kk
theorem WT.loadC1 {i : Nat} {d : Tmp} {T : TypeId} {x : Operand} {m b off : Nat} {v : Value} (hi : ops[i]? = some ⟨some d, .load T x, t, p, af, none⟩) (hT : tyA P T = some (false, m)) (hx : evO f x = some (.pointer (some ⟨b, off, none⟩))) (hv : w.cell? ⟨b, off, none⟩ = some v)
    (kk : WT P n ops S R Q r ((d, v) :: f) w) : WT P n ops S R Q (.st i 1 r) f w := WT.ld1 hi hx (run_load1 hT hv) kk
theorem WT.loadAC1 {i : Nat} {d : Tmp} {T : TypeId} {x : Operand} {m b off : Nat} {vs : List Value} (hi : ops[i]? = some ⟨some d, .load T x, t, p, af, none⟩) (hT : tyA P T = some (true, m)) (hx : evO f x = some (.pointer (some ⟨b, off, none⟩))) (hl : vs.length = m) (hc : ∀ j u, vs[j]? = some u → w.cell? ⟨b, off + j, none⟩ = some u)
    (kk : WT P n ops S R Q r ((d, .agg vs.toArray) :: f) w) : WT P n ops S R Q (.st i 1 r) f w := WT.ld1 hi hx (run_loadA hT hl hc) kk
/-- an operation of S: as in a region that does not draw -/
theorem WT.s {i : Nat} {o : Oper} (hi : ops[i]? = some o) (hS : S i = true) (h : Wl P n ops (fun e f' w' => e = .normal ∧ R w w' ∧ WT P n ops S R Q r f' w') [o] f w) : WT P n ops S R Q (.st i 2 r) f w := fun hd a ha => by
  have h := h (by simp [hd _ _ hi]) a ha
  unfold wpT
  rw [if_pos rfl]
  unfold wpList at h
  unfold tOp
  simp only [hi]
  have fin : ∀ a' w', wpList P ops (ofL n fun e f' w' => e = .normal ∧ R w w' ∧ WT P n ops S R Q r f' w') [] a' w' → R w w' ∧ wpT P ops S R (fun a w => ofL n Q .normal a w) r a' w' := by
    rintro a' w' ⟨f', ha', _, h1, h2⟩
    exact ⟨h1, h2 hd a' ha'⟩
  split
  · rename_i hw
    rw [if_pos hw] at h
    rcases h with h | ⟨_, ⟨_, _, _, _, h0, _⟩⟩
    · unfold Oper.wp at h
      generalize (execOp a.eval o).run P w = q at *
      cases q with
      | ok nx w' =>
        cases nx <;> simp only [Oper.upon] at h <;> simp only [tUp]
        case value u => obtain ⟨h1, h2⟩ := fin _ _ h; exact ⟨by rw [hS]; exact h1, h2⟩
        case skip => obtain ⟨h1, h2⟩ := fin _ _ h; exact ⟨by rw [hS]; exact h1, h2⟩
        case defer d =>
          obtain ⟨f', ⟨_, hdf, _⟩, _⟩ := h
          cases hod : o.dst <;> simp [Act.put, hod] at hdf
        case enter g args =>
          refine ⟨hS, h.mono fun e w'' he => ?_⟩
          cases e with
          | returned v => obtain ⟨h1, h2⟩ := fin _ _ he; exact ⟨v, rfl, h1, h2⟩
          | panicked ch => obtain ⟨_, _, h0, _⟩ := he; cases h0
          | outgrown => obtain ⟨_, _, _, _, h0, _⟩ := he; cases h0
        case row g args => exact ⟨hS, h.mono fun u w'' he => fin _ _ he⟩
        all_goals exact h.elim
      | halt x w' =>
        cases x <;> simp only [Oper.upon] at h
        all_goals first | exact h.elim | (obtain ⟨_, _, h0, _⟩ := h; cases h0)
    · cases h0
  · rename_i hw
    rw [if_neg hw] at h
    exact (fin _ _ h).2
end
end Go.Proofs.Ytagghfllgafmgaa
