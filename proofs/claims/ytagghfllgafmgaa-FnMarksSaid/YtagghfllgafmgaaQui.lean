/-
  Regions that draw their order, whose operations read, compute, and call what leaves all old memory as it is: one walk in the order of the text. Nothing here speaks of one program.
-/
import Derived.Test.YtagghfllgafmgaaMem
import Derived.StillTail
namespace Go.Proofs.Ytagghfllgafmgaa
set_option linter.unusedVariables false
set_option linter.unusedSimpArgs false
open Go.RowKit
variable {P : Program}

def Cl (w : World) : World → Prop := fun w' => Below w.heap.size w w'
def Wq (P : Program) (n : Nat) (ops : Array Oper) (C : World → Prop) (Q : Env → Prop) (l : List Oper) (f : Env) : Prop := l.all (dstIn n) = true → ∀ a, Agr n a f → wpQuiet P ops C (fun a => ∃ f', Agr n a f' ∧ Q f') l a
theorem wpQuiet_mono {ops : Array Oper} {C : World → Prop} {Q Q' : Act → Prop} (h : ∀ a, Q a → Q' a) : ∀ (l : List Oper) (a : Act), wpQuiet P ops C Q l a → wpQuiet P ops C Q' l a
  | [], a, q => h a q
  | o :: rest, a, q => by
    unfold wpQuiet at *
    split
    · rename_i hw; rw [if_pos hw] at q; exact Oper.quiet_mono (fun a => wpQuiet_mono h rest a) q
    · rename_i hw; rw [if_neg hw] at q; exact wpQuiet_mono h rest _ q
theorem Wc.quiet {n id : Nat} {l : List Oper} {Q : LPost} {f : Env} {w : World} (hm : P.follows .mixedOrders = true) (hB : Region.lexB .any l.toArray = true) (hd : l.all (dstIn n) = true)
    (h : Wq P n l.toArray (Cl w) (fun f' => ∀ w', Below w.heap.size w w' → Q .normal f' w') l f) : Wc P n (.region id l.toArray true) Q f w := fun a ha => by
  refine wp_region_quiet (C := Cl w) hm hB ⟨rfl, rfl, rfl, Nat.le_refl _, fun _ _ => rfl⟩ ?_
  refine wpQuiet_mono ?_ _ _ (by simpa using h hd a ha)
  rintro a ⟨f', ha', h'⟩ w' hw'
  exact ⟨f', ha', h' w' hw'⟩
section
variable {n : Nat} {ops : Array Oper} {C : World → Prop} {Q : Env → Prop} {rest : List Oper} {f : Env} {w w0 : World} {X : List Nat} {L : List Ent} {o : Op} {t : TypeId} {p : String} {af : Array Edge}
theorem Wq.nil (h : Q f) : Wq P n ops C Q [] f := fun _ _ ha => ⟨f, ha, h⟩
theorem Wq.one {d : Tmp} {v : Value} (h : ∀ ρ, Val f ρ → ∀ w, C w → Oper.quietUpon P C w v ((execOp ρ ⟨some d, o, t, p, af, none⟩).run P w)) (k : Wq P n ops C Q rest ((d, v) :: f)) : Wq P n ops C Q (⟨some d, o, t, p, af, none⟩ :: rest) f := fun hd a ha => by
  unfold wpQuiet
  rw [if_pos (show Region.wanted ⟨some d, o, t, p, af, none⟩ _ = true from rfl)]
  exact ⟨v, fun w hw => h _ ha.val w hw, k (dst_lt hd).2 _ (ha.put (dst_lt hd).1 v)⟩
theorem Wq.pure {d : Tmp} {v : Value} (h : PR P f o v) (k : Wq P n ops C Q rest ((d, v) :: f)) : Wq P n ops C Q (⟨some d, o, t, p, af, none⟩ :: rest) f :=
  Wq.one (fun ρ hρ w _ => by rw [h ρ hρ]; exact ⟨rfl, rfl⟩) k
theorem Wq.on {d : Option Tmp} {j gd : Nat} {want : Bool} (hj : (ops[j]?).bind (·.dst) = some gd) (hv : lk f gd = some (.bool want)) (k : Wq P n ops C Q (⟨d, o, t, p, af, none⟩ :: rest) f) : Wq P n ops C Q (⟨d, o, t, p, af, some (j, want)⟩ :: rest) f := fun hd a ha => by
  have k := k hd a ha
  unfold wpQuiet at *
  have hw : Region.wanted ⟨d, o, t, p, af, some (j, want)⟩ (yielded ops a.tmps) = true := by simp [Region.wanted, ha.yields hj hv]
  rw [if_pos (by rfl)] at k
  rw [if_pos hw]
  exact k
theorem Wq.off {d : Tmp} {j gd : Nat} {b want : Bool} (hj : (ops[j]?).bind (·.dst) = some gd) (hv : lk f gd = some (.bool b)) (hb : b = !want) (k : Wq P n ops C Q rest ((d, undef) :: f)) : Wq P n ops C Q (⟨some d, o, t, p, af, some (j, want)⟩ :: rest) f := fun hd a ha => by
  unfold wpQuiet
  have hw : Region.wanted ⟨some d, o, t, p, af, some (j, want)⟩ (yielded ops a.tmps) = false := by
    simp only [Region.wanted, ha.yields hj hv, hb]; cases want <;> rfl
  rw [if_neg (by rw [hw]; simp)]
  exact k (dst_lt hd).2 _ (ha.put (dst_lt hd).1 undef)
theorem Wq.offU {d : Tmp} {j gd : Nat} {want : Bool} (hj : (ops[j]?).bind (·.dst) = some gd) (hv : lk f gd = some undef) (k : Wq P n ops C Q rest ((d, undef) :: f)) : Wq P n ops C Q (⟨some d, o, t, p, af, some (j, want)⟩ :: rest) f := fun hd a ha => by
  unfold wpQuiet
  have hw : Region.wanted ⟨some d, o, t, p, af, some (j, want)⟩ (yielded ops a.tmps) = false := by
    simp [Region.wanted, yielded, hj, ha.2.2 _ _ hv, undef]
  rw [if_neg (by rw [hw]; simp)]
  exact k (dst_lt hd).2 _ (ha.put (dst_lt hd).1 undef)
theorem Wq.lift {l : List Oper} {f f' : Env} (h : subE f f') (k : Wq P n ops C Q l f') : Wq P n ops C Q l f := fun hd a ha => k hd a (ha.sub h)
theorem Wq.splitB {d : Tmp} {j gd : Nat} {b want : Bool} (hj : (ops[j]?).bind (·.dst) = some gd) (hv : lk f gd = some (.bool b))
    (k1 : b = want → Wq P n ops C Q (⟨some d, o, t, p, af, none⟩ :: rest) ((gd, .bool want) :: f)) (k2 : b = (!want) → Wq P n ops C Q rest ((d, undef) :: (gd, .bool (!want)) :: f)) : Wq P n ops C Q (⟨some d, o, t, p, af, some (j, want)⟩ :: rest) f := by
  by_cases h : b = want
  · exact Wq.on hj (by rw [hv, h]) (Wq.lift (subE.same (by rw [hv, h])) (k1 h))
  · have hb : b = !want := by cases b <;> cases want <;> simp_all
    refine Wq.off hj hv hb (Wq.lift ?_ (k2 hb))
    intro t v ht
    rw [lk_cons] at ht ⊢
    split at ht
    · rename_i e; rw [if_pos e]; exact ht
    · rename_i e
      rw [if_neg e]
      exact subE.same (by rw [hv, hb]) t v ht
theorem Wq.splitT {d : Tmp} {j gd : Nat} {q : Prop} [Decidable q] (hj : (ops[j]?).bind (·.dst) = some gd) (hv : lk f gd = some (.bool (decide q)))
    (k1 : q → Wq P n ops C Q (⟨some d, o, t, p, af, none⟩ :: rest) ((gd, .bool true) :: f)) (k2 : ¬ q → Wq P n ops C Q rest ((d, undef) :: (gd, .bool false) :: f)) : Wq P n ops C Q (⟨some d, o, t, p, af, some (j, true)⟩ :: rest) f :=
  Wq.splitB hj hv (fun h => k1 (of_decide_eq_true h)) (fun h => k2 (of_decide_eq_false h))
theorem Wq.splitF {d : Tmp} {j gd : Nat} {q : Prop} [Decidable q] (hj : (ops[j]?).bind (·.dst) = some gd) (hv : lk f gd = some (.bool (decide q)))
    (k1 : ¬ q → Wq P n ops C Q (⟨some d, o, t, p, af, none⟩ :: rest) ((gd, .bool false) :: f)) (k2 : q → Wq P n ops C Q rest ((d, undef) :: (gd, .bool true) :: f)) : Wq P n ops C Q (⟨some d, o, t, p, af, some (j, false)⟩ :: rest) f :=
  Wq.splitB hj hv (fun h => k1 (of_decide_eq_false h)) (fun h => k2 (of_decide_eq_true h))
theorem Wq.value {d : Tmp} {v : Value} (h : ∀ ρ, Val f ρ → ∀ w', Cl w w' → (execOp ρ ⟨some d, o, t, p, af, none⟩).run P w' = .ok (.value v) w') (k : Wq P n ops (Cl w) Q rest ((d, v) :: f)) : Wq P n ops (Cl w) Q (⟨some d, o, t, p, af, none⟩ :: rest) f :=
  Wq.one (fun ρ hρ w' hw => by rw [h ρ hρ w' hw]; exact ⟨rfl, rfl⟩) k
theorem Wq.load {d : Tmp} {T : TypeId} {x : Operand} {i m b off : Nat} {cs : List Value} {T' : TypeId} {v : Value} (st : St X w0 w L) (hT : tyA P T = some (false, m)) (hx : evO f x = some (.pointer (some ⟨b, off, none⟩))) (hi : L[i]? = some (b, cs, T')) (hv : cs[off]? = some v)
    (k : Wq P n ops (Cl w) Q rest ((d, v) :: f)) : Wq P n ops (Cl w) Q (⟨some d, .load T x, t, p, af, none⟩ :: rest) f :=
  Wq.value (fun _ hρ _ hw => exec_load hρ hx (run_load1 hT ((st.call hw).cell hi hv))) k
theorem Wq.loadC {d : Tmp} {T : TypeId} {x : Operand} {m b off : Nat} {v : Value} (hT : tyA P T = some (false, m)) (hx : evO f x = some (.pointer (some ⟨b, off, none⟩))) (hv : w.cell? ⟨b, off, none⟩ = some v)
    (k : Wq P n ops (Cl w) Q rest ((d, v) :: f)) : Wq P n ops (Cl w) Q (⟨some d, .load T x, t, p, af, none⟩ :: rest) f :=
  Wq.value (fun _ hρ _ (hw : Below _ _ _) => exec_load hρ hx (run_load1 hT (by rw [hw.cell (p := ⟨b, off, none⟩) (World.block_lt_of_cell? w ⟨b, off, none⟩ hv)]; exact hv))) k
theorem Wq.loadA {d : Tmp} {T : TypeId} {x : Operand} {i m b off : Nat} {cs vs : List Value} {T' : TypeId} (st : St X w0 w L) (hT : tyA P T = some (true, m)) (hx : evO f x = some (.pointer (some ⟨b, off, none⟩))) (hi : L[i]? = some (b, cs, T')) (hv : (cs.drop off).take m = vs) (hl : vs.length = m)
    (k : Wq P n ops (Cl w) Q rest ((d, .agg vs.toArray) :: f)) : Wq P n ops (Cl w) Q (⟨some d, .load T x, t, p, af, none⟩ :: rest) f :=
  Wq.value (fun _ hρ _ hw => exec_load hρ hx (run_loadA hT hl (fun j u hu => (st.call hw).cell hi (get_of_sub hv j u hu)))) k
theorem Wq.loadAC {d : Tmp} {T : TypeId} {x : Operand} {m b off : Nat} {vs : List Value} (hT : tyA P T = some (true, m)) (hx : evO f x = some (.pointer (some ⟨b, off, none⟩))) (hl : vs.length = m) (hc : ∀ j u, vs[j]? = some u → w.cell? ⟨b, off + j, none⟩ = some u)
    (k : Wq P n ops (Cl w) Q rest ((d, .agg vs.toArray) :: f)) : Wq P n ops (Cl w) Q (⟨some d, .load T x, t, p, af, none⟩ :: rest) f :=
  Wq.value (fun _ hρ _ (hw : Below _ _ _) => exec_load hρ hx (run_loadA hT hl (fun j u hu => by
    have h1 := hc j u hu
    rw [hw.cell (p := ⟨b, off + j, none⟩) (World.block_lt_of_cell? w ⟨b, off + j, none⟩ h1)]; exact h1))) k
theorem Wq.callV {d : Tmp} {c : FuncId} {as : List Operand} {ts : Array TypeId} {vs : List Value} {v : Value} (hc : ∀ w', Below w.heap.size w w' → CE P c vs w' (RetV w' v)) (ha : evL f as = some vs)
    (k : Wq P n ops (Cl w) Q rest ((d, v) :: f)) : Wq P n ops (Cl w) Q (⟨some d, .call ⟨.value (.func c), as.toArray, ts⟩, t, p, af, none⟩ :: rest) f := by
  refine Wq.one (fun ρ hρ w' hw => ?_) k
  have hw' : Below w.heap.size w w' := hw
  have h := hc w' hw'
  have e : (#[] ++ vs.toArray ++ #[] : Array Value) = vs.toArray := by simp
  rw [exec_call ha hρ, e, run_enter h.1]
  exact ⟨rfl, h.2.mono fun e w'' ⟨he, hb⟩ => ⟨he, hw'.trans (hb.mono hw'.size)⟩⟩
theorem Wq.callFV {d : Tmp} {c : FuncId} {x : Operand} {as : List Operand} {cap vs : List Value} {ts : Array TypeId} {v : Value} (hx : evO f x = some (.func (.func c) #[] cap.toArray)) (hc : ∀ w', Below w.heap.size w w' → CE P c (vs ++ cap) w' (RetV w' v)) (ha : evL f as = some vs)
    (k : Wq P n ops (Cl w) Q rest ((d, v) :: f)) : Wq P n ops (Cl w) Q (⟨some d, .call ⟨.value x, as.toArray, ts⟩, t, p, af, none⟩ :: rest) f := by
  refine Wq.one (fun ρ hρ w' hw => ?_) k
  have hw' : Below w.heap.size w w' := hw
  have h := hc w' hw'
  have e : (execOp ρ ⟨some d, .call ⟨.value x, as.toArray, ts⟩, t, p, af, none⟩).run P w' = (callFunc c (vs ++ cap).toArray).run P w' := by
    have h1 := hρ _ _ hx
    have h2 := hρ.list ha
    simp [execOp, resolve, h1, Deferred.ofValue, invoke, h2]
  rw [e, run_enter h.1]
  exact ⟨rfl, h.2.mono fun e w'' ⟨he, hb⟩ => ⟨he, hw'.trans (hb.mono hw'.size)⟩⟩
end

/-! ### cells that are read only -/
/-- From offset o on block b reads as vs. -/
def RdA (w : World) (b o : Nat) (vs : List Value) : Prop := b < w.heap.size ∧ ∀ j u, vs[j]? = some u → w.cell? ⟨b, o + j, none⟩ = some u
theorem RdA.below {w w' : World} {b o : Nat} {vs : List Value} (h : RdA w b o vs) (hb : Below w.heap.size w w') : RdA w' b o vs :=
  ⟨Nat.lt_of_lt_of_le h.1 hb.size, fun j u hu => by rw [hb.cell (p := ⟨b, o + j, none⟩) h.1]; exact h.2 j u hu⟩
theorem RdA.st {w0 w : World} {L : List Ent} {b o : Nat} {vs : List Value} (h : RdA w0 b o vs) (st : St [] w0 w L) : RdA w b o vs := h.below st.below
theorem RdA.at_ {w : World} {b o j o' : Nat} {u : Value} {vs : List Value} (h : RdA w b o vs) (hu : vs[j]? = some u) (ho : o + j = o') : w.cell? ⟨b, o', none⟩ = some u := by subst ho; exact h.2 j u hu
theorem RdA.sub {w : World} {b o j n o' : Nat} {vs us : List Value} (h : RdA w b o vs) (hs : (vs.drop j).take n = us) (ho : o + j = o') : ∀ i u, us[i]? = some u → w.cell? ⟨b, o' + i, none⟩ = some u := by
  intro i u hu
  subst ho
  rw [Nat.add_assoc]
  exact h.2 _ _ (get_of_sub hs i u hu)
theorem Rd.at_ {w : World} {sz n c : Nat} {A : Option Addr} {vs : List Value} (h : Rd w sz n (.slice A n c) vs) (hn : 0 < n) : ∃ b o, A = some ⟨b, o, none⟩ ∧ RdA w b o vs := by
  obtain ⟨_, A', c', e, _, h2⟩ := h
  cases e
  obtain ⟨b, o, rfl, hb, hc⟩ := h2 hn
  exact ⟨b, o, rfl, hb, hc⟩
theorem St.rdA {X : List Nat} {w0 w : World} {L : List Ent} {i b off : Nat} {cs vs : List Value} {T : TypeId} {n : Nat} (h : St X w0 w L) (hi : L[i]? = some (b, cs, T)) (hv : (cs.drop off).take n = vs) : RdA w b off vs :=
  ⟨(h.ents _ (List.mem_of_getElem? hi)).2.1, fun j u hu => h.cell hi (get_of_sub hv j u hu)⟩

/-! ### a quiet head in any order, then a tail whose order is forced -/
section
variable {ops : Array Oper} {md : Region.Mode} {C : World → Prop}
def wpHeadQ (P : Program) (md : Region.Mode) (ops : Array Oper) (C : World → Prop) (n : Nat) (L : Array Bool → Act → Prop) : Nat → Array Bool → Act → Prop
  | 0, listed, a => L listed a
  | g + 1, listed, a => Region.ready md ops listed ≠ [] ∧ ∀ i ∈ Region.ready md ops listed, i < n ∧ qOp P ops C i (wpHeadQ P md ops C n L g (listed.setIfInBounds i true)) a
theorem wpAny_of_headQ {n g : Nat} {L : Array Bool → Act → Prop} {Q' : Exit → Act → World → Prop} (hL : ∀ listed a w, C w → L listed a → wpAny P md ops Q' g listed a w) :
    ∀ (f : Nat) (listed : Array Bool) (a : Act) (w : World), C w → wpHeadQ P md ops C n L f listed a → wpAny P md ops Q' (f + g) listed a w
  | 0, listed, a, w, hw, h => by rw [Nat.zero_add]; exact hL _ _ _ hw h
  | f + 1, listed, a, w, hw, h => by
    rw [show f + 1 + g = (f + g) + 1 by omega]
    exact ⟨fun h0 => absurd h0 h.1, fun i hi => wpOp_of_qOp hw (fun a' w' hw' h' => wpAny_of_headQ hL f _ a' w' hw' h') (h.2 i hi).2⟩
theorem wpHeadQ_first {n i : Nat} {oi : Oper} {v : Value} {L : Array Bool → Act → Prop} (hi : ops[i]? = some oi) (hsel : ∀ (j : Nat) (o : Oper) cs b, ops[j]? = some o → o.op ≠ .select cs b)
    (hs : Region.sinkB md ops n = true) (hc : Region.chainB md ops n = true) (hn : n < ops.size) (hin : i < n)
    (hdone : ∀ listed a, L listed a → ∀ j ∈ Region.ready md ops listed, n ≤ j) :
    ∀ (f : Nat) (listed : Array Bool) (a : Act), HeadInv md ops n listed →
      (∀ j oj, ops[j]? = some oj → j ≠ i → listed.getD j true = false → (∀ e ∈ oj.after, Region.binds md e = true → e.on ≠ i) → oi.apart ops oj = true) →
      i ∈ Region.ready md ops listed → YieldsIn P ops C oi v a →
      wpHeadQ P md ops C n L f (listed.setIfInBounds i true) (a.put oi.dst v) → wpHeadQ P md ops C n L (f + 1) listed a := by
  intro f
  induction f with
  | zero =>
    intro listed a inv _ hr hy H
    have hun := (mem_ready.1 hr).1
    refine ⟨fun h => (by rw [h] at hr; cases hr), fun j hj => ?_⟩
    have hjn : j < n := by
      rcases Nat.lt_or_ge j n with h | h
      · exact h
      · exact absurd hj (tail_waits hs hc hn inv _ i rfl hin hun j h)
    refine ⟨hjn, ?_⟩
    by_cases hji : j = i
    · subst hji; exact hy.qOp hi H
    · have := hdone _ _ H j (ready_mono hj hji)
      omega
  | succ f ih =>
    intro listed a inv hfree hr hy H
    have hun := (mem_ready.1 hr).1
    refine ⟨fun h => (by rw [h] at hr; cases hr), fun j hj => ?_⟩
    have hjn : j < n := by
      rcases Nat.lt_or_ge j n with h | h
      · exact h
      · exact absurd hj (tail_waits hs hc hn inv _ i rfl hin hun j h)
    refine ⟨hjn, ?_⟩
    by_cases hji : j = i
    · subst hji; exact hy.qOp hi H
    · have h1 := (H.2 j (ready_mono hj hji)).2
      obtain ⟨hjun, oj, hoj, hall⟩ := mem_ready.1 hj
      have hnot : ∀ e ∈ oj.after, Region.binds md e = true → e.on ≠ i := fun e he hb heq => by
        have h1 := hall e he hb
        rw [heq, getD_both hun] at h1
        cases h1
      have h2 := qOp_put hoj (hfree j oj hoj hji hjun hnot) (fun cs b => hsel i oi cs b hi) (fun cs b => hsel j oj cs b hoj) hy h1
      have hfree' : ∀ k ok, ops[k]? = some ok → k ≠ i → (listed.setIfInBounds j true).getD k true = false →
          (∀ e ∈ ok.after, Region.binds md e = true → e.on ≠ i) → oi.apart ops ok = true := fun k ok hk hki hun hno => by
        refine hfree k ok hk hki ?_ hno
        by_cases hjk : j = k
        · subst hjk; exact hjun
        · rw [getD_set_ne true hjk] at hun; exact hun
      refine qOp_mono (fun a' h3 => ih (listed.setIfInBounds j true) a' (inv.set hj hjn) hfree' (ready_mono hr (Ne.symm hji)) h3.1 ?_) h2
      rw [Array.setIfInBounds_comm _ _ hji]
      exact h3.2
theorem wpHeadQ_lex {n g : Nat} {Lq : Act → Prop} (hsel : Region.noSelect ops = true) (hs : Region.sinkB md ops n = true) (hc : Region.chainB md ops n = true) (hn : n < ops.size) :
    ∀ (l : List Oper) (k : Nat) (listed : Array Bool) (a : Act), (∀ j, j < l.length → l[j]? = ops[k + j]?) → k + l.length = n → HeadInv md ops n listed →
    Region.lexHead md ops g l.length k listed = true → wpQuiet P ops C Lq l a →
    wpHeadQ P md ops C n (fun listed' a' => Region.seqB md ops g n listed' = true ∧ Lq a') l.length listed a
  | [], k, listed, a, _, hk, _, hB, h => by
    have : k = n := by simpa using hk
    subst this
    exact ⟨by simpa [Region.lexHead] using hB, h⟩
  | o :: l, k, listed, a, hl, hk, inv, hB, h => by
    have h0 : ops[k]? = some o := by simpa using (hl 0 (by simp)).symm
    simp only [List.length_cons, Region.lexHead, Bool.and_eq_true] at hB
    obtain ⟨⟨hr, hf⟩, hB'⟩ := hB
    have hkn : k < n := by simp only [List.length_cons] at hk; omega
    have hr' : k ∈ Region.ready md ops listed := by simpa using hr
    have hst : qOp P ops C k (wpQuiet P ops C Lq l) a := by unfold qOp; simp only [h0]; exact h
    obtain ⟨v, hy, hK⟩ := yieldsIn_of_qOp h0 hst
    exact wpHeadQ_first h0 (Region.noSelect_spec hsel) hs hc hn hkn (fun listed' a' hL => seqB_ready hL.1) l.length listed a inv (Region.free_spec h0 hf) hr' hy
      (wpHeadQ_lex hsel hs hc hn l (k + 1) _ _ (fun j hj => by have := hl (j + 1) (by simp; omega); simpa [Nat.add_assoc, Nat.add_comm 1 j] using this) (by simp only [List.length_cons] at hk; omega) (inv.set hr' hkn) hB' hK)
theorem wp_region_quiet_tail {id : Nat} {Q : Exit → Act → World → Prop} {a : Act} {w : World} {l : List Oper} (n : Nat) (hm : P.follows .mixedOrders = true) (hB : Region.lexTailB .any l.toArray n = true) (hC : C { w with drawn := w.drawn + 1 })
    (h : wpQuiet P l.toArray C (fun a' => ∀ w', C w' → wpList P l.toArray Q (l.drop n) a' w') (l.take n) a) : (Code.region id l.toArray true).wp P Q a w := by
  simp only [Region.lexTailB, Bool.and_eq_true, decide_eq_true_eq] at hB
  obtain ⟨⟨⟨⟨hsel, hn⟩, hs⟩, hc⟩, hlex⟩ := hB
  have hn' : n < l.length := by simpa using hn
  have htl : (l.take n).length = n := by simp; omega
  have hdl : (l.drop n).length = l.toArray.size - n := by simp
  have inv0 : HeadInv .any l.toArray n (Array.replicate l.toArray.size false) :=
    ⟨by simp, fun j oj _ hl => (by rw [getD_replicate_false] at hl; cases hl), fun t _ ht => getD_in (by simpa using ht) (getD_replicate_false _ _)⟩
  have H := wpHeadQ_lex (md := .any) (g := l.toArray.size - n) hsel hs hc hn (l.take n) 0 _ a (fun j hj => by
    have hj' : j < n := by rw [htl] at hj; exact hj
    simp [hj']) (by simpa using htl) inv0 (by rw [htl]; exact hlex) h
  refine wp_region_any hm ?_
  have := wpAny_of_headQ (Q' := Q) (g := l.toArray.size - n) (fun listed a' w' hw' hL => by
    have := wpAny_of_seq (md := .any) (Q' := Q) (l.drop n) n listed a' w' (fun j => by simp [List.getElem?_drop]) (by rw [hdl]; exact hL.1) (hL.2 w' hw')
    rwa [hdl] at this) _ _ _ _ hC H
  rw [htl, show n + (l.toArray.size - n) = l.toArray.size by omega] at this
  exact this
end
theorem Wc.quietTail {n id : Nat} {l : List Oper} {Q : LPost} {f : Env} {w : World} (m : Nat) (hm : P.follows .mixedOrders = true) (hB : Region.lexTailB .any l.toArray m = true) (hd : l.all (dstIn n) = true)
    (h : Wq P n l.toArray (Cl w) (fun f' => ∀ w', Below w.heap.size w w' → Wl P n l.toArray Q (l.drop m) f' w') (l.take m) f) : Wc P n (.region id l.toArray true) Q f w := fun a ha => by
  have hd1 : (l.take m).all (dstIn n) = true := by
    rw [List.all_eq_true] at hd ⊢
    exact fun x hx => hd x (List.mem_of_mem_take hx)
  have hd2 : (l.drop m).all (dstIn n) = true := by
    rw [List.all_eq_true] at hd ⊢
    exact fun x hx => hd x (List.mem_of_mem_drop hx)
  refine wp_region_quiet_tail (C := Cl w) m hm hB ⟨rfl, rfl, rfl, Nat.le_refl _, fun _ _ => rfl⟩ ?_
  refine wpQuiet_mono ?_ _ _ (by simpa using h hd1 a ha)
  rintro a ⟨f', ha', h'⟩ w' hw'
  exact h' w' hw' hd2 a ha'
end Go.Proofs.Ytagghfllgafmgaa
