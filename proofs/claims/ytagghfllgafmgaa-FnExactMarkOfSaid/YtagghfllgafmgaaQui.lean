/-
  Regions that draw their order, whose operations read, compute, and call what leaves all old memory as it is: one walk in the order of the text. Nothing here speaks of one program.
-/
import Derived.Test.YtagghfllgafmgaaMem
namespace Go.Proofs.Ytagghfllgafmgaa
set_option linter.unusedVariables false
set_option linter.unusedSimpArgs false
open Go.RowKit
variable {P : Program}

def Cl (w : World) : World → Prop := fun w' => Below w.heap.size w w'
def Wq (P : Program) (n : Nat) (ops : Array Oper) (C : World → Prop) (Q : Env → Prop) (l : List Oper) (f : Env) : Prop := l.all (dstIn n) = true → ∀ a, Agr n a f → wpQuiet P ops C (fun a => ∃ f', Agr n a f' ∧ Q f') l a
theorem wpQuiet_mono {ops : Array Oper} {C : World → Prop} {Q Q' : Act → Prop} (h : ∀ a, Q a → Q' a) : ∀ (l : List Oper) (a : Act), wpQuiet P ops C Q l a → wpQuiet P ops C Q' l a
  | [], a, q => h a q
  | o :: rest, a, q => by
    unfold wpQuiet at *
    split
    · rename_i hw; rw [if_pos hw] at q; exact Oper.quiet_mono (fun a => wpQuiet_mono h rest a) q
    · rename_i hw; rw [if_neg hw] at q; exact wpQuiet_mono h rest _ q
theorem Wc.quiet {n id : Nat} {l : List Oper} {Q : LPost} {f : Env} {w : World} (hm : P.follows .mixedOrders = true) (hB : Region.lexB .any l.toArray = true) (hd : l.all (dstIn n) = true)
    (h : Wq P n l.toArray (Cl w) (fun f' => ∀ w', Below w.heap.size w w' → Q .normal f' w') l f) : Wc P n (.region id l.toArray true) Q f w := fun a ha => by
  refine wp_region_quiet (C := Cl w) hm hB ⟨rfl, rfl, rfl, Nat.le_refl _, fun _ _ => rfl⟩ ?_
  refine wpQuiet_mono ?_ _ _ (by simpa using h hd a ha)
  rintro a ⟨f', ha', h'⟩ w' hw'
  exact ⟨f', ha', h' w' hw'⟩
section
variable {n : Nat} {ops : Array Oper} {C : World → Prop} {Q : Env → Prop} {rest : List Oper} {f : Env} {w w0 : World} {X : List Nat} {L : List Ent} {o : Op} {t : TypeId} {p : String} {af : Array Edge}
theorem Wq.nil (h : Q f) : Wq P n ops C Q [] f := fun _ _ ha => ⟨f, ha, h⟩
theorem Wq.one {d : Tmp} {v : Value} (h : ∀ ρ, Val f ρ → ∀ w, C w → Oper.quietUpon P C w v ((execOp ρ ⟨some d, o, t, p, af, none⟩).run P w)) (k : Wq P n ops C Q rest ((d, v) :: f)) : Wq P n ops C Q (⟨some d, o, t, p, af, none⟩ :: rest) f := fun hd a ha => by
  unfold wpQuiet
  rw [if_pos (show Region.wanted ⟨some d, o, t, p, af, none⟩ _ = true from rfl)]
  exact ⟨v, fun w hw => h _ ha.val w hw, k (dst_lt hd).2 _ (ha.put (dst_lt hd).1 v)⟩
theorem Wq.pure {d : Tmp} {v : Value} (h : PR P f o v) (k : Wq P n ops C Q rest ((d, v) :: f)) : Wq P n ops C Q (⟨some d, o, t, p, af, none⟩ :: rest) f :=
  Wq.one (fun ρ hρ w _ => by rw [h ρ hρ]; exact ⟨rfl, rfl⟩) k
theorem Wq.on {d : Option Tmp} {j gd : Nat} {want : Bool} (hj : (ops[j]?).bind (·.dst) = some gd) (hv : lk f gd = some (.bool want)) (k : Wq P n ops C Q (⟨d, o, t, p, af, none⟩ :: rest) f) : Wq P n ops C Q (⟨d, o, t, p, af, some (j, want)⟩ :: rest) f := fun hd a ha => by
  have k := k hd a ha
  unfold wpQuiet at *
  have hw : Region.wanted ⟨d, o, t, p, af, some (j, want)⟩ (yielded ops a.tmps) = true := by simp [Region.wanted, ha.yields hj hv]
  rw [if_pos (by rfl)] at k
  rw [if_pos hw]
  exact k
theorem Wq.off {d : Tmp} {j gd : Nat} {b want : Bool} (hj : (ops[j]?).bind (·.dst) = some gd) (hv : lk f gd = some (.bool b)) (hb : b = !want) (k : Wq P n ops C Q rest ((d, undef) :: f)) : Wq P n ops C Q (⟨some d, o, t, p, af, some (j, want)⟩ :: rest) f := fun hd a ha => by
  unfold wpQuiet
  have hw : Region.wanted ⟨some d, o, t, p, af, some (j, want)⟩ (yielded ops a.tmps) = false := by
    simp only [Region.wanted, ha.yields hj hv, hb]; cases want <;> rfl
  rw [if_neg (by rw [hw]; simp)]
  exact k (dst_lt hd).2 _ (ha.put (dst_lt hd).1 undef)
theorem Wq.offU {d : Tmp} {j gd : Nat} {want : Bool} (hj : (ops[j]?).bind (·.dst) = some gd) (hv : lk f gd = some undef) (k : Wq P n ops C Q rest ((d, undef) :: f)) : Wq P n ops C Q (⟨some d, o, t, p, af, some (j, want)⟩ :: rest) f := fun hd a ha => by
  unfold wpQuiet
  have hw : Region.wanted ⟨some d, o, t, p, af, some (j, want)⟩ (yielded ops a.tmps) = false := by
    simp [Region.wanted, yielded, hj, ha.2.2 _ _ hv, undef]
  rw [if_neg (by rw [hw]; simp)]
  exact k (dst_lt hd).2 _ (ha.put (dst_lt hd).1 undef)
theorem Wq.lift {l : List Oper} {f f' : Env} (h : subE f f') (k : Wq P n ops C Q l f') : Wq P n ops C Q l f := fun hd a ha => k hd a (ha.sub h)
theorem Wq.splitB {d : Tmp} {j gd : Nat} {b want : Bool} (hj : (ops[j]?).bind (·.dst) = some gd) (hv : lk f gd = some (.bool b))
    (k1 : b = want → Wq P n ops C Q (⟨some d, o, t, p, af, none⟩ :: rest) ((gd, .bool want) :: f)) (k2 : b = (!want) → Wq P n ops C Q rest ((d, undef) :: (gd, .bool (!want)) :: f)) : Wq P n ops C Q (⟨some d, o, t, p, af, some (j, want)⟩ :: rest) f := by
  by_cases h : b = want
  · exact Wq.on hj (by rw [hv, h]) (Wq.lift (subE.same (by rw [hv, h])) (k1 h))
  · have hb : b = !want := by cases b <;> cases want <;> simp_all
    refine Wq.off hj hv hb (Wq.lift ?_ (k2 hb))
    intro t v ht
    rw [lk_cons] at ht ⊢
    split at ht
    · rename_i e; rw [if_pos e]; exact ht
    · rename_i e
      rw [if_neg e]
      exact subE.same (by rw [hv, hb]) t v ht
theorem Wq.splitT {d : Tmp} {j gd : Nat} {q : Prop} [Decidable q] (hj : (ops[j]?).bind (·.dst) = some gd) (hv : lk f gd = some (.bool (decide q)))
    (k1 : q → Wq P n ops C Q (⟨some d, o, t, p, af, none⟩ :: rest) ((gd, .bool true) :: f)) (k2 : ¬ q → Wq P n ops C Q rest ((d, undef) :: (gd, .bool false) :: f)) : Wq P n ops C Q (⟨some d, o, t, p, af, some (j, true)⟩ :: rest) f :=
  Wq.splitB hj hv (fun h => k1 (of_decide_eq_true h)) (fun h => k2 (of_decide_eq_false h))
theorem Wq.splitF {d : Tmp} {j gd : Nat} {q : Prop} [Decidable q] (hj : (ops[j]?).bind (·.dst) = some gd) (hv : lk f gd = some (.bool (decide q)))
    (k1 : ¬ q → Wq P n ops C Q (⟨some d, o, t, p, af, none⟩ :: rest) ((gd, .bool false) :: f)) (k2 : q → Wq P n ops C Q rest ((d, undef) :: (gd, .bool true) :: f)) : Wq P n ops C Q (⟨some d, o, t, p, af, some (j, false)⟩ :: rest) f :=
  Wq.splitB hj hv (fun h => k1 (of_decide_eq_false h)) (fun h => k2 (of_decide_eq_true h))
theorem Wq.value {d : Tmp} {v : Value} (h : ∀ ρ, Val f ρ → ∀ w', Cl w w' → (execOp ρ ⟨some d, o, t, p, af, none⟩).run P w' = .ok (.value v) w') (k : Wq P n ops (Cl w) Q rest ((d, v) :: f)) : Wq P n ops (Cl w) Q (⟨some d, o, t, p, af, none⟩ :: rest) f :=
  Wq.one (fun ρ hρ w' hw => by rw [h ρ hρ w' hw]; exact ⟨rfl, rfl⟩) k
theorem Wq.load {d : Tmp} {T : TypeId} {x : Operand} {i m b off : Nat} {cs : List Value} {T' : TypeId} {v : Value} (st : St X w0 w L) (hT : tyA P T = some (false, m)) (hx : evO f x = some (.pointer (some ⟨b, off, none⟩))) (hi : L[i]? = some (b, cs, T')) (hv : cs[off]? = some v)
    (k : Wq P n ops (Cl w) Q rest ((d, v) :: f)) : Wq P n ops (Cl w) Q (⟨some d, .load T x, t, p, af, none⟩ :: rest) f :=
  Wq.value (fun _ hρ _ hw => exec_load hρ hx (run_load1 hT ((st.call hw).cell hi hv))) k
theorem Wq.loadC {d : Tmp} {T : TypeId} {x : Operand} {m b off : Nat} {v : Value} (hT : tyA P T = some (false, m)) (hx : evO f x = some (.pointer (some ⟨b, off, none⟩))) (hv : w.cell? ⟨b, off, none⟩ = some v)
    (k : Wq P n ops (Cl w) Q rest ((d, v) :: f)) : Wq P n ops (Cl w) Q (⟨some d, .load T x, t, p, af, none⟩ :: rest) f :=
  Wq.value (fun _ hρ _ (hw : Below _ _ _) => exec_load hρ hx (run_load1 hT (by rw [hw.cell (p := ⟨b, off, none⟩) (World.block_lt_of_cell? w ⟨b, off, none⟩ hv)]; exact hv))) k
theorem Wq.loadA {d : Tmp} {T : TypeId} {x : Operand} {i m b off : Nat} {cs vs : List Value} {T' : TypeId} (st : St X w0 w L) (hT : tyA P T = some (true, m)) (hx : evO f x = some (.pointer (some ⟨b, off, none⟩))) (hi : L[i]? = some (b, cs, T')) (hv : (cs.drop off).take m = vs) (hl : vs.length = m)
    (k : Wq P n ops (Cl w) Q rest ((d, .agg vs.toArray) :: f)) : Wq P n ops (Cl w) Q (⟨some d, .load T x, t, p, af, none⟩ :: rest) f :=
  Wq.value (fun _ hρ _ hw => exec_load hρ hx (run_loadA hT hl (fun j u hu => (st.call hw).cell hi (get_of_sub hv j u hu)))) k
theorem Wq.loadAC {d : Tmp} {T : TypeId} {x : Operand} {m b off : Nat} {vs : List Value} (hT : tyA P T = some (true, m)) (hx : evO f x = some (.pointer (some ⟨b, off, none⟩))) (hl : vs.length = m) (hc : ∀ j u, vs[j]? = some u → w.cell? ⟨b, off + j, none⟩ = some u)
    (k : Wq P n ops (Cl w) Q rest ((d, .agg vs.toArray) :: f)) : Wq P n ops (Cl w) Q (⟨some d, .load T x, t, p, af, none⟩ :: rest) f :=
  Wq.value (fun _ hρ _ (hw : Below _ _ _) => exec_load hρ hx (run_loadA hT hl (fun j u hu => by
    have h1 := hc j u hu
    rw [hw.cell (p := ⟨b, off + j, none⟩) (World.block_lt_of_cell? w ⟨b, off + j, none⟩ h1)]; exact h1))) k
theorem Wq.callV {d : Tmp} {c : FuncId} {as : List Operand} {ts : Array TypeId} {vs : List Value} {v : Value} (hc : ∀ w', Below w.heap.size w w' → CE P c vs w' (RetV w' v)) (ha : evL f as = some vs)
    (k : Wq P n ops (Cl w) Q rest ((d, v) :: f)) : Wq P n ops (Cl w) Q (⟨some d, .call ⟨.value (.func c), as.toArray, ts⟩, t, p, af, none⟩ :: rest) f := by
  refine Wq.one (fun ρ hρ w' hw => ?_) k
  have hw' : Below w.heap.size w w' := hw
  have h := hc w' hw'
  have e : (#[] ++ vs.toArray ++ #[] : Array Value) = vs.toArray := by simp
  rw [exec_call ha hρ, e, run_enter h.1]
  exact ⟨rfl, h.2.mono fun e w'' ⟨he, hb⟩ => ⟨he, hw'.trans (hb.mono hw'.size)⟩⟩
theorem Wq.callFV {d : Tmp} {c : FuncId} {x : Operand} {as : List Operand} {cap vs : List Value} {ts : Array TypeId} {v : Value} (hx : evO f x = some (.func (.func c) #[] cap.toArray)) (hc : ∀ w', Below w.heap.size w w' → CE P c (vs ++ cap) w' (RetV w' v)) (ha : evL f as = some vs)
    (k : Wq P n ops (Cl w) Q rest ((d, v) :: f)) : Wq P n ops (Cl w) Q (⟨some d, .call ⟨.value x, as.toArray, ts⟩, t, p, af, none⟩ :: rest) f := by
  refine Wq.one (fun ρ hρ w' hw => ?_) k
  have hw' : Below w.heap.size w w' := hw
  have h := hc w' hw'
  have e : (execOp ρ ⟨some d, .call ⟨.value x, as.toArray, ts⟩, t, p, af, none⟩).run P w' = (callFunc c (vs ++ cap).toArray).run P w' := by
    have h1 := hρ _ _ hx
    have h2 := hρ.list ha
    simp [execOp, resolve, h1, Deferred.ofValue, invoke, h2]
  rw [e, run_enter h.1]
  exact ⟨rfl, h.2.mono fun e w'' ⟨he, hb⟩ => ⟨he, hw'.trans (hb.mono hw'.size)⟩⟩
end

/-! ### cells that are read only -/
/-- From offset o on block b reads as vs. -/
def RdA (w : World) (b o : Nat) (vs : List Value) : Prop := b < w.heap.size ∧ ∀ j u, vs[j]? = some u → w.cell? ⟨b, o + j, none⟩ = some u
theorem RdA.below {w w' : World} {b o : Nat} {vs : List Value} (h : RdA w b o vs) (hb : Below w.heap.size w w') : RdA w' b o vs :=
  ⟨Nat.lt_of_lt_of_le h.1 hb.size, fun j u hu => by rw [hb.cell (p := ⟨b, o + j, none⟩) h.1]; exact h.2 j u hu⟩
theorem RdA.st {w0 w : World} {L : List Ent} {b o : Nat} {vs : List Value} (h : RdA w0 b o vs) (st : St [] w0 w L) : RdA w b o vs := h.below st.below
theorem RdA.at_ {w : World} {b o j o' : Nat} {u : Value} {vs : List Value} (h : RdA w b o vs) (hu : vs[j]? = some u) (ho : o + j = o') : w.cell? ⟨b, o', none⟩ = some u := by subst ho; exact h.2 j u hu
theorem RdA.sub {w : World} {b o j n o' : Nat} {vs us : List Value} (h : RdA w b o vs) (hs : (vs.drop j).take n = us) (ho : o + j = o') : ∀ i u, us[i]? = some u → w.cell? ⟨b, o' + i, none⟩ = some u := by
  intro i u hu
  subst ho
  rw [Nat.add_assoc]
  exact h.2 _ _ (get_of_sub hs i u hu)
theorem Rd.at_ {w : World} {sz n c : Nat} {A : Option Addr} {vs : List Value} (h : Rd w sz n (.slice A n c) vs) (hn : 0 < n) : ∃ b o, A = some ⟨b, o, none⟩ ∧ RdA w b o vs := by
  obtain ⟨_, A', c', e, _, h2⟩ := h
  cases e
  obtain ⟨b, o, rfl, hb, hc⟩ := h2 hn
  exact ⟨b, o, rfl, hb, hc⟩
theorem St.rdA {X : List Nat} {w0 w : World} {L : List Ent} {i b off : Nat} {cs vs : List Value} {T : TypeId} {n : Nat} (h : St X w0 w L) (hi : L[i]? = some (b, cs, T)) (hv : (cs.drop off).take n = vs) : RdA w b off vs :=
  ⟨(h.ents _ (List.mem_of_getElem? hi)).2.1, fun j u hu => h.cell hi (get_of_sub hv j u hu)⟩
end Go.Proofs.Ytagghfllgafmgaa
