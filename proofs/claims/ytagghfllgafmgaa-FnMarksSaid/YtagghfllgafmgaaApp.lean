/-
  Slices that grow, blocks that are lent, entries in another order. Nothing here speaks of one program.
-/
import Derived.Test.YtagghfllgafmgaaSl
import Derived.Deep.AppendSrc
namespace Go.Proofs.Ytagghfllgafmgaa
set_option linter.unusedVariables false
set_option linter.unusedSimpArgs false
open Go.RowKit
variable {P : Program}

/-! ### entries in another order, some of them left away -/
theorem St.pick {X : List Nat} {w0 w : World} {L L' : List Ent} (is : List Nat) (st : St X w0 w L) (hn : is.Nodup) (h : is.map (fun i => L[i]?) = L'.map some) : St X w0 w L' := by
  have hlen : is.length = L'.length := by have := congrArg List.length h; simpa using this
  have key : ∀ (q : Nat) (hq : q < L'.length), ∃ hi : is[q]'(by omega) < L.length, L[is[q]'(by omega)] = L'[q] := by
    intro q hq
    have := congrArg (fun l => l[q]?) h
    simp only [List.getElem?_map] at this
    rw [List.getElem?_eq_getElem (by omega), List.getElem?_eq_getElem hq] at this
    simp only [Option.map_some, Option.some.injEq] at this
    have hlt : is[q]'(by omega) < L.length := by
      rcases Nat.lt_or_ge (is[q]'(by omega)) L.length with h' | h'
      · exact h'
      · rw [List.getElem?_eq_none h'] at this; cases this
    refine ⟨hlt, ?_⟩
    rw [List.getElem?_eq_getElem hlt] at this
    exact Option.some.inj this
  refine ⟨st.fr, ?_, ?_⟩
  · intro e he
    obtain ⟨q, hq, rfl⟩ := List.getElem_of_mem he
    obtain ⟨hi, h1⟩ := key q hq
    rw [← h1]
    exact st.ents _ (List.getElem_mem hi)
  · rw [List.pairwise_iff_getElem]
    intro p q hp hq hpq
    obtain ⟨h1, e1⟩ := key p hp
    obtain ⟨h2, e2⟩ := key q hq
    rw [← e1, ← e2]
    have hne : is[p]'(by omega) ≠ is[q]'(by omega) := List.pairwise_iff_getElem.1 hn p q (by omega) (by omega) hpq
    rcases Nat.lt_or_ge (is[p]'(by omega)) (is[q]'(by omega)) with hlt | hge
    · exact List.pairwise_iff_getElem.1 st.apart _ _ h1 h2 hlt
    · exact fun e => List.pairwise_iff_getElem.1 st.apart _ _ h2 h1 (by omega) e.symm

/-! ### blocks that are lent to a call, and new ones that it makes -/
def dropFrom (is : List Nat) : Nat → List Ent → List Ent
  | _, [] => []
  | k, e :: L => bif is.elem k then dropFrom is (k + 1) L else e :: dropFrom is (k + 1) L
theorem dropFrom_sub (is : List Nat) : ∀ (k : Nat) (L : List Ent), (dropFrom is k L).Sublist L
  | _, [] => List.Sublist.slnil
  | k, e :: L => by
    unfold dropFrom
    cases is.elem k with
    | true => exact (dropFrom_sub is (k + 1) L).cons e
    | false => exact (dropFrom_sub is (k + 1) L).cons_cons e
theorem dropFrom_mem (is : List Nat) : ∀ (k : Nat) (L : List Ent) (e : Ent), e ∈ dropFrom is k L → ∃ j, L[j]? = some e ∧ is.elem (k + j) = false
  | _, [], e, h => by cases h
  | k, e' :: L, e, h => by
    unfold dropFrom at h
    cases hk : is.elem k with
    | true =>
      rw [hk] at h
      obtain ⟨j, h1, h2⟩ := dropFrom_mem is (k + 1) L e h
      exact ⟨j + 1, by simpa using h1, by rw [← h2]; congr 1; omega⟩
    | false =>
      rw [hk] at h
      rcases List.mem_cons.1 h with rfl | h
      · exact ⟨0, rfl, hk⟩
      · obtain ⟨j, h1, h2⟩ := dropFrom_mem is (k + 1) L e h
        exact ⟨j + 1, by simpa using h1, by rw [← h2]; congr 1; omega⟩
/-- Behind a call to which the blocks at the indices is were lent: its own entries first (new ones, then the lent ones), and the others as they were. -/
theorem St.lent {X Bs : List Nat} {w0 w w' : World} {L M : List Ent} (is : List Nat) (st : St X w0 w L) (h : St Bs w w' M) (hB : is.map (fun i => (L[i]?).map (·.1)) = Bs.map some) : St X w0 w' (M ++ dropFrom is 0 L) := by
  have hmemB : ∀ b, b ∈ Bs → ∃ i e, i ∈ is ∧ L[i]? = some e ∧ e.1 = b := by
    intro b hb
    have h1 : some b ∈ is.map (fun i => (L[i]?).map (·.1)) := by rw [hB]; exact List.mem_map.2 ⟨b, hb, rfl⟩
    obtain ⟨i, hi, h2⟩ := List.mem_map.1 h1
    cases hL : L[i]? with
    | none => rw [hL] at h2; cases h2
    | some e =>
      rw [hL] at h2
      exact ⟨i, e, hi, hL, by simpa using h2⟩
  have hsz := h.fr.size
  have hfr : Fr X w0 w' := by
    refine ⟨h.fr.os.trans st.fr.os, h.fr.tape.trans st.fr.tape, h.fr.output.trans st.fr.output, Nat.le_trans st.fr.size hsz, fun k hk hx => ?_⟩
    rw [h.fr.block k (Nat.lt_of_lt_of_le hk st.fr.size) ?_]
    · exact st.fr.block k hk hx
    · intro hkB
      obtain ⟨i, e, _, hi, he⟩ := hmemB k hkB
      rcases (st.ents e (List.mem_of_getElem? hi)).1 with h1 | h1
      · omega
      · rw [he] at h1; exact hx h1
  have hrest : ∀ e, e ∈ dropFrom is 0 L → e ∈ L ∧ e.1 ∉ Bs := by
    intro e he
    obtain ⟨j, hj, hjs⟩ := dropFrom_mem is 0 L e he
    refine ⟨List.mem_of_getElem? hj, fun hb => ?_⟩
    obtain ⟨i, e', hi, hL, he'⟩ := hmemB e.1 hb
    rw [Nat.zero_add] at hjs
    have hij : i ≠ j := fun q => by
      subst q
      have : is.elem i = true := by simpa using hi
      rw [this] at hjs; cases hjs
    have hil : i < L.length := by
      rcases Nat.lt_or_ge i L.length with h' | h'
      · exact h'
      · rw [List.getElem?_eq_none h'] at hL; cases hL
    have hjl : j < L.length := by
      rcases Nat.lt_or_ge j L.length with h' | h'
      · exact h'
      · rw [List.getElem?_eq_none h'] at hj; cases hj
    rw [List.getElem?_eq_getElem hil] at hL
    rw [List.getElem?_eq_getElem hjl] at hj
    have e1 : L[i] = e' := Option.some.inj hL
    have e2 : L[j] = e := Option.some.inj hj
    rcases Nat.lt_or_ge i j with hlt | hge
    · have := List.pairwise_iff_getElem.1 st.apart i j hil hjl hlt
      rw [e1, e2] at this; exact this he'
    · have := List.pairwise_iff_getElem.1 st.apart j i hjl hil (by omega)
      rw [e1, e2] at this; exact this he'.symm
  refine ⟨hfr, fun e he => ?_, ?_⟩
  · rcases List.mem_append.1 he with he | he
    · obtain ⟨h1, h2, h3⟩ := h.ents e he
      refine ⟨?_, h2, h3⟩
      rcases h1 with h1 | h1
      · exact .inl (Nat.le_trans st.fr.size h1)
      · obtain ⟨i, e', _, hi, he'⟩ := hmemB e.1 h1
        have := (st.ents e' (List.mem_of_getElem? hi)).1
        rw [he'] at this; exact this
    · obtain ⟨hm, hb⟩ := hrest e he
      obtain ⟨h1, h2, h3⟩ := st.ents e hm
      exact ⟨h1, Nat.lt_of_lt_of_le h2 hsz, by rw [h.fr.block _ h2 hb]; exact h3⟩
  · rw [List.pairwise_append]
    refine ⟨h.apart, st.apart.sublist (dropFrom_sub is 0 L), fun a ha b hb => ?_⟩
    obtain ⟨hm, hbB⟩ := hrest b hb
    have hblt := (st.ents b hm).2.1
    rcases (h.ents a ha).1 with h1 | h1
    · omega
    · exact fun e => hbB (e ▸ h1)
/-- A call to which blocks are lent: it hands back v and leaves them (and new ones) with these cells. -/
def RetX (w : World) (Bs : List Nat) (v : Value) (M : List Ent) : Ending → World → Prop := fun e w' => e = .returned v ∧ St Bs w w' M
theorem St.retX {w0 w : World} {Bs : List Nat} {L L' : List Ent} {v v' : Value} (st : St Bs w0 w L) (hv : v' = v) (hL : L = L') : RetX w0 Bs v L' (.returned v') w := ⟨by rw [hv], hL ▸ st⟩
section
variable {n₀ : Nat} {ops : Array Oper} {Q : LPost} {rest : List Oper} {f : Env} {w w0 : World} {X Bs : List Nat} {L M : List Ent} {t : TypeId} {p : String} {af : Array Edge}
theorem Wl.callX {d : Tmp} {k : FuncId} {as : List Operand} {ts : Array TypeId} {vs : List Value} {v : Value} (is : List Nat) (st : St X w0 w L) (hc : CE P k vs w (RetX w Bs v M)) (hB : is.map (fun i => (L[i]?).map (·.1)) = Bs.map some) (ha : evL f as = some vs)
    (kk : ∀ w', St X w0 w' (M ++ dropFrom is 0 L) → Wl P n₀ ops Q rest ((d, v) :: f) w') : Wl P n₀ ops Q (⟨some d, .call ⟨.value (.func k), as.toArray, ts⟩, t, p, af, none⟩ :: rest) f w :=
  Wl.call hc ha fun _ w' ⟨he, hs⟩ => ⟨_, he, kk w' (st.lent is hs hB)⟩
theorem Wl.callFX {d : Tmp} {k : FuncId} {x : Operand} {as : List Operand} {cap vs : List Value} {ts : Array TypeId} {v : Value} (is : List Nat) (st : St X w0 w L) (hc : CE P k (vs ++ cap) w (RetX w Bs v M)) (hB : is.map (fun i => (L[i]?).map (·.1)) = Bs.map some) (hx : evO f x = some (.func (.func k) #[] cap.toArray)) (ha : evL f as = some vs)
    (kk : ∀ w', St X w0 w' (M ++ dropFrom is 0 L) → Wl P n₀ ops Q rest ((d, v) :: f) w') : Wl P n₀ ops Q (⟨some d, .call ⟨.value x, as.toArray, ts⟩, t, p, af, none⟩ :: rest) f w :=
  Wl.callF hx hc ha fun _ w' ⟨he, hs⟩ => ⟨_, he, kk w' (st.lent is hs hB)⟩
end

/-! ### append -/
theorem zerosC_len {z : Array Value} {m s : Nat} (h : z.size = s) : (Builtin.zeroCells z m).toList.length = m * s := by rw [Array.length_toList, size_zeroCells, h]
section
variable {n₀ : Nat} {ops : Array Oper} {Q : LPost} {rest : List Oper} {f : Env} {w w0 : World} {X : List Nat} {L : List Ent} {t : TypeId} {p : String} {af : Array Edge}
theorem exec_append {x y : Operand} {T T2 : TypeId} {ρ : Operand → Value} {v u r : Value} {w w' : World} {d : Option Tmp} {g : Option (Nat × Bool)} (hx : ρ x = v) (hy : ρ y = u) (h : (Builtin.append_ #[T, T2] t #[v, u]).run P w = .ok r w') :
    (execOp ρ ⟨d, .call ⟨.builtin .append, #[x, y], #[T, T2]⟩, t, p, af, g⟩).run P w = .ok (.value r) w' := by
  simp [execOp, resolve, invoke, builtin, hx, hy, h]
/-- What is appended lies in a block of the call's own or is read only. -/
theorem Src.ofRdA {s n c b o : Nat} {T2 e' : TypeId} {vs : List Value} (hk : P.underlying T2 = some (.slice e')) (h : RdA w b o vs) (hl : vs.length = n * s) (h1 : ∀ u ∈ vs, u.oneCell' = true) : Src P s T2 (.slice (some ⟨b, o, none⟩) n c) n vs w :=
  Src.ofSlice w hk _ n c vs hl (fun j u hu => by
    have hadd : (⟨b, o, none⟩ : Addr).add j = ⟨b, o + j, none⟩ := by unfold Addr.add; split <;> simp_all
    rw [hadd]; exact h.2 j u hu) h1
theorem Src.ofRdS {s n c : Nat} {A : Option Addr} {T2 e' : TypeId} {vs : List Value} (hk : P.underlying T2 = some (.slice e')) (h : RdS w A n vs) (hA : n = 0 → A = none ∨ True) (hl : vs.length = n * s) (h1 : ∀ u ∈ vs, u.oneCell' = true) (h0 : 0 < n) : Src P s T2 (.slice A n c) n vs w := by
  obtain ⟨b, o, rfl, hr⟩ := h h0
  exact Src.ofRdA hk hr hl h1
theorem tyS_und {T e : TypeId} {s by_ : Nat} (h : tyS P T = some (e, s, by_)) : P.underlying T = some (.slice e) := by
  obtain ⟨_, hu, _⟩ := tyS_spec h; exact hu
theorem Wl.append {d : Tmp} {x y : Operand} {T T2 e : TypeId} {s by_ i b n c m : Nat} {z u : Value} {cs sp vs : List Value} (st : St X w0 w L) (hT : tyS P T = some (e, s, by_)) (hz : tyZ P e = some z) (hs : z.cells.size = s)
    (hx : evO f x = some (.slice (some ⟨b, 0, none⟩) n c)) (hi : L[i]? = some (b, cs ++ sp, e)) (hl : cs.length = n * s) (hsp : sp.length = (c - n) * s) (hnc : n ≤ c) (hy : evO f y = some u) (hsrc : Src P s T2 u m vs w) (hb : (n + m) * by_ ≤ 140737488355328) (hm : n + m ≤ 9223372036854775807)
    (k : ∀ b' c' sp' w', n + m ≤ c' → sp'.length = (c' - (n + m)) * s → St X w0 w' ((b', cs ++ vs ++ sp', e) :: dropFrom [i] 0 L) → Wl P n₀ ops Q rest ((d, .slice (some ⟨b', 0, none⟩) (n + m) c') :: f) w') :
    Wl P n₀ ops Q (⟨some d, .call ⟨.builtin .append, #[x, y], #[T, T2]⟩, t, p, af, none⟩ :: rest) f w := by
  obtain ⟨j, hu, hj, hjs, hjb⟩ := tyS_spec hT
  have hzz : j.zero = some z := by unfold tyZ at hz; rw [hj] at hz; exact hz
  have hvl := hsrc.newsLen
  by_cases hroom : n + m ≤ c
  · have hle : n * s + vs.length ≤ (cs ++ sp).length := by
      rw [List.length_append, hl, hsp, hvl, ← Nat.add_mul, ← Nat.add_mul]
      exact Nat.mul_le_mul_right s (by omega)
    obtain ⟨w', hr, st2⟩ := run_storeCells (P := P) vs (cs ++ sp) L w (n * s) 0 i st hi (by simpa using hle) hsrc.one
    rw [Nat.add_zero] at st2
    have hcs : cs.length = n * s := hl
    have e1 : (cs ++ sp).take (n * s) ++ vs ++ (cs ++ sp).drop (n * s + vs.length) = cs ++ vs ++ sp.drop vs.length := by
      rw [← hcs, List.take_left, ← List.drop_drop, List.drop_left]
    rw [e1] at st2
    have hil : i < L.length := by
      rcases Nat.lt_or_ge i L.length with h' | h'
      · exact h'
      · rw [List.getElem?_eq_none h'] at hi; cases hi
    have st3 : St X w0 w' ((b, cs ++ vs ++ sp.drop vs.length, e) :: dropFrom [i] 0 L) := by
      have hdrop : ∀ (q : Nat) (L : List Ent) (e' : Ent), dropFrom [i] q (L.set (i - q) e') = dropFrom [i] q L ∨ i < q := by
        intro q L e'
        induction L generalizing q with
        | nil => exact .inl rfl
        | cons a L ih =>
          by_cases hq : i = q
          · subst hq
            left
            rw [Nat.sub_self, List.set_cons_zero]
            simp [dropFrom]
          · by_cases hq2 : i < q
            · exact .inr hq2
            · left
              rw [show i - q = (i - (q + 1)) + 1 by omega, List.set_cons_succ]
              unfold dropFrom
              rcases ih (q + 1) with h | h
              · rw [h]
              · omega
      have hd : dropFrom [i] 0 (L.set i (b, cs ++ vs ++ sp.drop vs.length, e)) = dropFrom [i] 0 L := by
        rcases hdrop 0 L (b, cs ++ vs ++ sp.drop vs.length, e) with h | h
        · simpa using h
        · omega
      have hmem : (L.set i (b, cs ++ vs ++ sp.drop vs.length, e))[i]? = some (b, cs ++ vs ++ sp.drop vs.length, e) := by simp [hil]
      refine ⟨st2.fr, fun e' he' => ?_, ?_⟩
      · rcases List.mem_cons.1 he' with rfl | he'
        · exact st2.ents _ (List.mem_of_getElem? hmem)
        · rw [← hd] at he'
          exact st2.ents _ ((dropFrom_sub _ _ _).subset he')
      · rw [List.pairwise_cons]
        refine ⟨fun a ha => ?_, st.apart.sublist (dropFrom_sub _ _ _)⟩
        obtain ⟨q, hq, hqi⟩ := dropFrom_mem [i] 0 L a ha
        have hqi' : q ≠ i := fun e => by subst e; simp at hqi
        have hql : q < L.length := by
          rcases Nat.lt_or_ge q L.length with h' | h'
          · exact h'
          · rw [List.getElem?_eq_none h'] at hq; cases hq
        rw [List.getElem?_eq_getElem hql] at hq
        rw [List.getElem?_eq_getElem hil] at hi
        have e1 := Option.some.inj hq
        have e2 := Option.some.inj hi
        have hbb : b = L[i].1 := by rw [e2]
        rw [← e1, hbb]
        rcases Nat.lt_or_ge q i with hlt | hge
        · exact fun e => List.pairwise_iff_getElem.1 st.apart q i hql hil hlt e.symm
        · exact List.pairwise_iff_getElem.1 st.apart i q hil hql (by omega)
    have hrun : (Builtin.append_ #[T, T2] t #[.slice (some ⟨b, 0, none⟩) n c, u]).run P w = .ok (.slice (some ⟨b, 0, none⟩) (n + m) c) w' := by
      have hadd : (⟨b, 0, none⟩ : Addr).add (n * s) = ⟨b, n * s, none⟩ := by unfold Addr.add; split <;> simp_all
      have hcells := hsrc.cells
      rcases hsrc.kind with ⟨e', hk⟩ | hk <;> simp [Builtin.append_, run_und hu, run_und hk, run_size hj, hjs, hsrc.len, hroom, hcells, hadd, hr]
    refine Wl.run (fun ρ hρ => exec_append (hρ _ _ hx) (hρ _ _ hy) hrun) (k b c (sp.drop vs.length) w' hroom ?_ st3)
    rw [List.length_drop, hsp, hvl, ← Nat.sub_mul]
    congr 1
    omega
  · have hold : (Builtin.firstCells j.size n (.slice (some ⟨b, 0, none⟩) n c)).run P w.drew = .ok cs.toArray w.drew := by
      refine run_firstCells_some w.drew j.size n ⟨b, 0, none⟩ n c cs (by rw [hjs]; exact hl) (fun q v hv => ?_)
      have hadd : (⟨b, 0, none⟩ : Addr).add q = ⟨b, q, none⟩ := by unfold Addr.add; split <;> simp_all
      rw [hadd]
      refine (st.drew (w.drawn + 1)).cell hi ?_
      rw [List.getElem?_append_left (by
        rcases Nat.lt_or_ge q cs.length with h' | h'
        · exact h'
        · rw [List.getElem?_eq_none h'] at hv; cases hv)]
      exact hv
    have hg : c < n + m := by omega
    have hrun := run_append_grow_src (P := P) w T T2 t e j z hu hj hzz (some ⟨b, 0, none⟩) n c cs hold u m vs (by rw [hjs]; exact hsrc) hg (by omega) (growslice_fits hg (by rw [hjb]; exact hb))
    have hge := grownCap_ge w (n + m) c e
    have ez : ((cs ++ vs).toArray ++ Builtin.zeroCells z.cells (grownCap w (n + m) c e - (n + m))) = (cs ++ vs ++ (Builtin.zeroCells z.cells (grownCap w (n + m) c e - (n + m))).toList).toArray := by
      apply Array.ext'; simp
    rw [ez] at hrun
    have st2 := (st.drew (w.drawn + 1)).new (cs ++ vs ++ (Builtin.zeroCells z.cells (grownCap w (n + m) c e - (n + m))).toList) e
    refine Wl.run (fun ρ hρ => exec_append (hρ _ _ hx) (hρ _ _ hy) hrun) (k _ _ _ _ hge (zerosC_len hs) ?_)
    exact st2.sub ((dropFrom_sub [i] 0 L).cons_cons _)
/-- onto a slice without elements -/
theorem Wl.append0 {d : Tmp} {x y : Operand} {T T2 e : TypeId} {s by_ i b c m : Nat} {z u : Value} {sp vs : List Value} (st : St X w0 w L) (hT : tyS P T = some (e, s, by_)) (hz : tyZ P e = some z) (hs : z.cells.size = s)
    (hx : evO f x = some (.slice (some ⟨b, 0, none⟩) 0 c)) (hi : L[i]? = some (b, sp, e)) (hsp : sp.length = (c - 0) * s) (hy : evO f y = some u) (hsrc : Src P s T2 u m vs w) (hb : m * by_ ≤ 140737488355328) (hm : m ≤ 9223372036854775807)
    (k : ∀ b' c' sp' w', m ≤ c' → sp'.length = (c' - m) * s → St X w0 w' ((b', vs ++ sp', e) :: dropFrom [i] 0 L) → Wl P n₀ ops Q rest ((d, .slice (some ⟨b', 0, none⟩) m c') :: f) w') :
    Wl P n₀ ops Q (⟨some d, .call ⟨.builtin .append, #[x, y], #[T, T2]⟩, t, p, af, none⟩ :: rest) f w := by
  refine Wl.append (n := 0) (cs := []) (sp := sp) (vs := vs) (m := m) st hT hz hs hx hi (by simp) hsp (Nat.zero_le _) hy hsrc (by rw [Nat.zero_add]; exact hb) (by rw [Nat.zero_add]; exact hm) ?_
  intro b' c' sp' w' h1 h2 h3
  rw [Nat.zero_add] at h1 h2 ⊢
  exact k b' c' sp' w' h1 h2 h3
/-- onto no slice -/
theorem Wl.appendNil {d : Tmp} {x y : Operand} {T T2 e : TypeId} {s by_ m : Nat} {z u : Value} {vs : List Value} (st : St X w0 w L) (hT : tyS P T = some (e, s, by_)) (hz : tyZ P e = some z) (hs : z.cells.size = s)
    (hx : evO f x = some (.slice none 0 0)) (hy : evO f y = some u) (hsrc : Src P s T2 u m vs w) (hm0 : 0 < m) (hb : m * by_ ≤ 140737488355328) (hm : m ≤ 9223372036854775807)
    (k : ∀ b' c' sp' w', m ≤ c' → sp'.length = (c' - m) * s → St X w0 w' ((b', vs ++ sp', e) :: L) → Wl P n₀ ops Q rest ((d, .slice (some ⟨b', 0, none⟩) m c') :: f) w') :
    Wl P n₀ ops Q (⟨some d, .call ⟨.builtin .append, #[x, y], #[T, T2]⟩, t, p, af, none⟩ :: rest) f w := by
  obtain ⟨j, hu, hj, hjs, hjb⟩ := tyS_spec hT
  have hzz : j.zero = some z := by unfold tyZ at hz; rw [hj] at hz; exact hz
  have hg : 0 < 0 + m := by omega
  have hold : (Builtin.firstCells j.size 0 (.slice none 0 0)).run P w.drew = .ok ([] : List Value).toArray w.drew := run_firstCells_none (P := P) w.drew j.size 0 0 0
  have hrun := run_append_grow_src (P := P) w T T2 t e j z hu hj hzz none 0 0 [] hold u m vs (by rw [hjs]; exact hsrc) hg (by omega) (growslice_fits hg (by rw [hjb, Nat.zero_add]; exact hb))
  have hge := grownCap_ge w (0 + m) 0 e
  simp only [Nat.zero_add, List.nil_append] at hrun hge
  have ez : (vs.toArray ++ Builtin.zeroCells z.cells (grownCap w m 0 e - m)) = (vs ++ (Builtin.zeroCells z.cells (grownCap w m 0 e - m)).toList).toArray := by
    apply Array.ext'; simp
  rw [ez] at hrun
  exact Wl.run (fun ρ hρ => exec_append (hρ _ _ hx) (hρ _ _ hy) hrun) (k _ _ _ _ hge (zerosC_len hs) ((st.drew (w.drawn + 1)).new _ e))
end

/-! ### cells with room behind them -/
theorem app_get {cs sp : List Value} {i : Nat} {v : Value} (h : cs[i]? = some v) : (cs ++ sp)[i]? = some v := by
  rw [List.getElem?_append_left (by
    rcases Nat.lt_or_ge i cs.length with h' | h'
    · exact h'
    · rw [List.getElem?_eq_none h'] at h; cases h)]
  exact h
theorem app_set {cs cs' sp : List Value} {i : Nat} {v : Value} (hi : i < cs.length) (h : cs.set i v = cs') : (cs ++ sp).set i v = cs' ++ sp := by rw [List.set_append_left _ _ hi, h]
theorem app_sub {cs sp us : List Value} {i n : Nat} (h : (cs.drop i).take n = us) (hl : i + n ≤ cs.length) : ((cs ++ sp).drop i).take n = us := by
  rw [List.drop_append_of_le_length (by omega), List.take_append_of_le_length (by rw [List.length_drop]; omega), h]
theorem app_put {cs cs' sp us : List Value} {i n : Nat} (h : cs.take i ++ us ++ cs.drop (i + n) = cs') (hl : i + n ≤ cs.length) : (cs ++ sp).take i ++ us ++ (cs ++ sp).drop (i + n) = cs' ++ sp := by
  rw [List.take_append_of_le_length (by omega), List.drop_append_of_le_length hl, ← List.append_assoc, h]
theorem app_in {cs sp : List Value} {i : Nat} (h : i < cs.length) : i < (cs ++ sp).length := by rw [List.length_append]; omega
theorem app_tot {cs sp : List Value} {i : Nat} (h : i ≤ cs.length) : i ≤ (cs ++ sp).length := by rw [List.length_append]; omega
theorem RdA.pre {b o : Nat} {w : World} {cs sp : List Value} (h : RdA w b o (cs ++ sp)) : RdA w b o cs := ⟨h.1, fun j u hu => h.2 j u (app_get hu)⟩
/-! ### a slice over a block of its own, with room behind it -/
def RetG (w : World) (T : TypeId) (s n : Nat) (cs : List Value) : Ending → World → Prop := fun e w' => ∃ b c sp, e = .returned (.slice (some ⟨b, 0, none⟩) n c) ∧ n ≤ c ∧ sp.length = (c - n) * s ∧ Below w.heap.size w w' ∧ NewB w w' b (cs ++ sp) T
section
variable {n₀ : Nat} {ops : Array Oper} {Q : LPost} {rest : List Oper} {f : Env} {w w0 : World} {X : List Nat} {L : List Ent} {t : TypeId} {p : String} {af : Array Edge}
theorem Wl.callG {d : Tmp} {k : FuncId} {as : List Operand} {ts : Array TypeId} {vs : List Value} {T : TypeId} {s n : Nat} {us : List Value} (st : St X w0 w L) (hc : CE P k vs w (RetG w T s n us)) (ha : evL f as = some vs)
    (kk : ∀ b c sp w', n ≤ c → sp.length = (c - n) * s → St X w0 w' ((b, us ++ sp, T) :: L) → Wl P n₀ ops Q rest ((d, .slice (some ⟨b, 0, none⟩) n c) :: f) w') : Wl P n₀ ops Q (⟨some d, .call ⟨.value (.func k), as.toArray, ts⟩, t, p, af, none⟩ :: rest) f w :=
  Wl.call hc ha fun _ w' ⟨b, c, sp, he, h1, h2, hb, hn⟩ => ⟨_, he, kk b c sp w' h1 h2 (st.newB hb hn)⟩
end
theorem St.retG {w0 w : World} {L : List Ent} {i b n c s : Nat} {vs sp vs' : List Value} {T : TypeId} (st : St [] w0 w L) (hi : L[i]? = some (b, vs ++ sp, T)) (he : vs = vs') (hn : n ≤ c) (hsp : sp.length = (c - n) * s) : RetG w0 T s n vs' (.returned (.slice (some ⟨b, 0, none⟩) n c)) w := by
  subst he
  obtain ⟨h1, h2, h3⟩ := st.ents _ (List.mem_of_getElem? hi)
  refine ⟨b, c, sp, rfl, hn, hsp, st.below, ?_, h2, h3⟩
  rcases h1 with h1 | h1
  · exact h1
  · cases h1
theorem arrU_snoc {k : IntKind} {n : Nat} (c : Nat → Nat) (v : Nat) : arrU k n c ++ [.int k ((v : Nat) : Int)] = arrU k (n + 1) (upd c n v) := by
  unfold arrU
  rw [List.range_succ, List.map_append]
  congr 1
  · apply List.map_congr_left
    intro j hj
    rw [upd_ne (by have := List.mem_range.1 hj; omega)]
  · simp [upd]
theorem arrZ_snoc {k : IntKind} {n : Nat} (c : Nat → Int) (v : Int) : arrZ k n c ++ [.int k v] = arrZ k (n + 1) (upd c n v) := by
  unfold arrZ
  rw [List.range_succ, List.map_append]
  congr 1
  · apply List.map_congr_left
    intro j hj
    rw [upd_ne (by have := List.mem_range.1 hj; omega)]
  · simp [upd]
/-! ### cells of rows -/
theorem recV_getd {s : Nat} {g : Nat → List Value} (hg : ∀ i, (g i).length = s) {n i a b : Nat} {v : Value} (h : i < n) (hj : (g i)[a + b]? = some v) : (recV n g)[0 + i * s + a + b]? = some v := by
  rw [Nat.zero_add, Nat.add_assoc]; exact recV_get hg h hj
theorem recV_cell {s : Nat} {g : Nat → List Value} (hg : ∀ i, (g i).length = s) {n i j : Nat} {v : Value} (h : i < n) (hj : j < s) : (recV n g).set (i * s + j) v = recV n (fun r => if r = i then (g r).set j v else g r) := by
  have hl := recV_len hg n
  induction n with
  | zero => omega
  | succ n ih =>
    have hln := recV_len hg n
    rw [recV_succ, recV_succ]
    by_cases e : i = n
    · subst e
      rw [if_pos rfl, List.set_append_right _ _ (by omega), hln, Nat.add_sub_cancel_left]
      congr 1
      exact recV_congr fun j hj => by rw [if_neg (by omega)]
    · have hi : i < n := by omega
      have hm : i * s + s ≤ n * s := by rw [← Nat.succ_mul]; exact Nat.mul_le_mul_right s hi
      rw [if_neg (fun q => e q.symm), List.set_append_left _ _ (by omega), ih hi hln]
theorem recV_in {s : Nat} {g : Nat → List Value} (hg : ∀ i, (g i).length = s) {n i j : Nat} (h : i < n) (hj : j < s) : i * s + j < (recV n g).length := by
  rw [recV_len hg]
  have : i * s + s ≤ n * s := by rw [← Nat.succ_mul]; exact Nat.mul_le_mul_right s h
  omega
/-! ### bits of signed numbers -/
section
variable {f : Env} {x y : Operand} {T T2 : TypeId}
theorem wrap_i64 {r : Nat} (h : r < 9223372036854775808) : IntKind.i64.wrap (r : Int) = (r : Int) := wrap_fit (by simp only [fitI]; omega)
theorem PR.orI {a b : Nat} (hx : evO f x = some (.int .i64 (a : Int))) (hy : evO f y = some (.int .i64 (b : Int))) (hl : a < 9223372036854775808) (hb : b < 9223372036854775808) : PR P f (.binOp .or T x y T2) (.int .i64 ((a ||| b : Nat) : Int)) := run_bin (w := default) (fun w => by
  have e : (binOp .or T (.int .i64 (a : Int)) (.int .i64 (b : Int)) : Sem Value) = Op.intBits .or .i64 (a : Int) (b : Int) := by simp [binOp]
  have h2 : (a ||| b) < 9223372036854775808 := Nat.or_lt_two_pow (n := 63) hl hb
  have e2 : (BitVec.ofInt 64 (a : Int) ||| BitVec.ofInt 64 (b : Int)).toNat = (a ||| b) := by rw [BitVec.toNat_or, BitVec.ofInt_natCast, BitVec.ofInt_natCast, BitVec.toNat_ofNat, BitVec.toNat_ofNat, Nat.mod_eq_of_lt (by omega), Nat.mod_eq_of_lt (by omega)]
  rw [e]
  simp only [Op.intBits, Sem.run_pure]
  rw [show (BitVec.ofInt IntKind.i64.bits (a : Int) ||| BitVec.ofInt IntKind.i64.bits (b : Int)).toNat = (a ||| b) from e2, wrap_i64 h2]) hx hy
theorem PR.andI {a b : Nat} (hx : evO f x = some (.int .i64 (a : Int))) (hy : evO f y = some (.int .i64 (b : Int))) (hl : a < 9223372036854775808) (hb : b < 9223372036854775808) : PR P f (.binOp .and T x y T2) (.int .i64 ((a &&& b : Nat) : Int)) := run_bin (w := default) (fun w => by
  have e : (binOp .and T (.int .i64 (a : Int)) (.int .i64 (b : Int)) : Sem Value) = Op.intBits .and .i64 (a : Int) (b : Int) := by simp [binOp]
  have h2 : (a &&& b) < 9223372036854775808 := Nat.lt_of_le_of_lt Nat.and_le_left hl
  have e2 : (BitVec.ofInt 64 (a : Int) &&& BitVec.ofInt 64 (b : Int)).toNat = (a &&& b) := by rw [BitVec.toNat_and, BitVec.ofInt_natCast, BitVec.ofInt_natCast, BitVec.toNat_ofNat, BitVec.toNat_ofNat, Nat.mod_eq_of_lt (by omega), Nat.mod_eq_of_lt (by omega)]
  rw [e]
  simp only [Op.intBits, Sem.run_pure]
  rw [show (BitVec.ofInt IntKind.i64.bits (a : Int) &&& BitVec.ofInt IntKind.i64.bits (b : Int)).toNat = (a &&& b) from e2, wrap_i64 h2]) hx hy
theorem PR.xorI {a b : Nat} (hx : evO f x = some (.int .i64 (a : Int))) (hy : evO f y = some (.int .i64 (b : Int))) (hl : a < 9223372036854775808) (hb : b < 9223372036854775808) : PR P f (.binOp .xor T x y T2) (.int .i64 ((a ^^^ b : Nat) : Int)) := run_bin (w := default) (fun w => by
  have e : (binOp .xor T (.int .i64 (a : Int)) (.int .i64 (b : Int)) : Sem Value) = Op.intBits .xor .i64 (a : Int) (b : Int) := by simp [binOp]
  have h2 : (a ^^^ b) < 9223372036854775808 := Nat.xor_lt_two_pow (n := 63) hl hb
  have e2 : (BitVec.ofInt 64 (a : Int) ^^^ BitVec.ofInt 64 (b : Int)).toNat = (a ^^^ b) := by rw [BitVec.toNat_xor, BitVec.ofInt_natCast, BitVec.ofInt_natCast, BitVec.toNat_ofNat, BitVec.toNat_ofNat, Nat.mod_eq_of_lt (by omega), Nat.mod_eq_of_lt (by omega)]
  rw [e]
  simp only [Op.intBits, Sem.run_pure]
  rw [show (BitVec.ofInt IntKind.i64.bits (a : Int) ^^^ BitVec.ofInt IntKind.i64.bits (b : Int)).toNat = (a ^^^ b) from e2, wrap_i64 h2]) hx hy
theorem PR.andNotI {a b : Nat} (hx : evO f x = some (.int .i64 (a : Int))) (hy : evO f y = some (.int .i64 (b : Int))) (hl : a < 9223372036854775808) (hb : b < 9223372036854775808) : PR P f (.binOp .andNot T x y T2) (.int .i64 ((bdiff a b : Nat) : Int)) := run_bin (w := default) (fun w => by
  have e : (binOp .andNot T (.int .i64 (a : Int)) (.int .i64 (b : Int)) : Sem Value) = Op.intBits .andNot .i64 (a : Int) (b : Int) := by simp [binOp]
  have h2 : bdiff a b < 9223372036854775808 := Nat.lt_of_le_of_lt (bdiff_le a b) hl
  have e2 : (BitVec.ofInt 64 (a : Int) &&& ~~~BitVec.ofInt 64 (b : Int)).toNat = bdiff a b := by
    apply Nat.eq_of_testBit_eq
    intro i
    rw [bdiff_testBit, BitVec.testBit_toNat, BitVec.getLsbD_and, BitVec.getLsbD_not, ← BitVec.testBit_toNat, ← BitVec.testBit_toNat, BitVec.ofInt_natCast, BitVec.toNat_ofNat, BitVec.ofInt_natCast, BitVec.toNat_ofNat, Nat.mod_eq_of_lt (by omega), Nat.mod_eq_of_lt (by omega)]
    by_cases hi : i < 64
    · simp [hi]
    · have h0 : a.testBit i = false := Nat.testBit_lt_two_pow (Nat.lt_of_lt_of_le hl (Nat.pow_le_pow_right (n := 2) (i := 63) (j := i) (by decide) (by omega)))
      simp [hi, h0]
  rw [e]
  simp only [Op.intBits, Sem.run_pure]
  rw [show (BitVec.ofInt IntKind.i64.bits (a : Int) &&& ~~~BitVec.ofInt IntKind.i64.bits (b : Int)).toNat = bdiff a b from e2, wrap_i64 h2]) hx hy
end
/-! ### truths in a row; rows written out -/
def arrB (n : Nat) (q : Nat → Bool) : List Value := (List.range n).map fun j => .bool (q j)
theorem arrB_len {n : Nat} (q : Nat → Bool) : (arrB n q).length = n := by simp [arrB]
theorem arrB_get {n i : Nat} {q : Nat → Bool} (h : i < n) : (arrB n q)[i]? = some (.bool (q i)) := by simp [arrB, h]
theorem arrB_get0 {n i : Nat} {q : Nat → Bool} (h : i < n) : (arrB n q)[0 + i]? = some (.bool (q i)) := by rw [Nat.zero_add]; exact arrB_get h
theorem arrB_one {n : Nat} (q : Nat → Bool) : ∀ v, v ∈ arrB n q → v.oneCell' = true := by
  intro v hv; obtain ⟨j, _, rfl⟩ := List.mem_map.1 hv; rfl
theorem recV_one {n : Nat} {g : Nat → List Value} (h : ∀ i, ∀ v, v ∈ g i → v.oneCell' = true) : ∀ v, v ∈ recV n g → v.oneCell' = true := by
  intro v hv
  obtain ⟨i, _, hi⟩ := List.mem_flatMap.1 hv
  exact h i v hi
/-! ### slices of arrays -/
section
variable {f : Env} {x y z : Operand} {T : TypeId} {k : IntKind}
theorem PR.sliceArr {b off len s : Nat} {a : Bool} (hT : tyE P T = some (len, a, s)) (hx : evO f x = some (.pointer (some ⟨b, off, none⟩))) : PR P f (.slice T x none none none) (.slice (some ⟨b, off, none⟩) len len) := fun ρ hρ _ _ _ _ _ w => by
  have hx := hρ _ _ hx
  obtain ⟨e, hu, hn⟩ := tyE_spec hT
  have hs := (tyA_spec (w := w) hn).2
  simp only [execOp, hx, Option.map_none]
  simp [Instr.sliceAt, Instr.sureAddr, Instr.sliceBounds, run_und hu, hs]
  intro h0
  simp [Addr.add]
theorem PR.sliceArrM {b off len s lo m hi : Nat} {k2 : IntKind} {a : Bool} (hT : tyE P T = some (len, a, s)) (hx : evO f x = some (.pointer (some ⟨b, off, none⟩))) (hy : evO f y = some (.int k (lo : Int))) (hz : evO f z = some (.int k2 (hi : Int))) (hh : hi = lo + m) (hl : hi ≤ len) (h0 : 0 < m) :
    PR P f (.slice T x (some y) (some z) none) (.slice (some ⟨b, off + lo * s, none⟩) m (len - lo)) := fun ρ hρ _ _ _ _ _ w => by
  have hx := hρ _ _ hx
  have hy := hρ _ _ hy
  have hz := hρ _ _ hz
  obtain ⟨e, hu, hn⟩ := tyE_spec hT
  have hs := (tyA_spec (w := w) hn).2
  have e1 : (Instr.sliceBound (.int k2 (hi : Int)) len .sliceAlen).run P w = .ok hi w := by simp [Instr.sliceBound, asIntOf, hl]
  have e2 : (Instr.sliceBound (.int k (lo : Int)) hi .sliceB).run P w = .ok lo w := by simp [Instr.sliceBound, asIntOf, show lo ≤ hi by omega]
  have e3 : (Instr.sliceBounds false len len (some (.int k (lo : Int))) (some (.int k2 (hi : Int))) none).run P w = .ok (lo, hi, len) w := by simp [Instr.sliceBounds, e1, e2]
  have hadd : (⟨b, off, none⟩ : Addr).add (lo * s) = ⟨b, off + lo * s, none⟩ := by unfold Addr.add; split <;> simp_all
  simp only [execOp, hx, Option.map_some, Option.map_none, hy, hz]
  have hne : ¬ len = lo := by omega
  have hm : hi - lo = m := by omega
  simp [Instr.sliceAt, Instr.sureAddr, e3, run_und hu, hs, hne, hadd, hm]
end
/-- rows lo .. lo + m - 1 of rows -/
theorem recV_mid {s : Nat} {g : Nat → List Value} (hg : ∀ i, (g i).length = s) (lo : Nat) : ∀ (m n : Nat), lo + m ≤ n → ((recV n g).drop (lo * s)).take (m * s) = recV m (fun i => g (lo + i))
  | 0, n, _ => by simp [recV]
  | m + 1, n, h => by
    have ih := recV_mid hg lo m n (by omega)
    have hrow := recV_sub hg (show lo + m < n by omega)
    rw [Nat.succ_mul, List.take_add, ih, recV_succ]
    congr 1
    rw [← hrow, List.drop_drop, Nat.add_mul]
theorem RdA.mid {w : World} {b o lo m n s : Nat} {g : Nat → List Value} (hg : ∀ i, (g i).length = s) (h : RdA w b o (recV n g)) (hl : lo + m ≤ n) : RdA w b (o + lo * s) (recV m (fun i => g (lo + i))) := h.row (recV_mid hg lo m n hl)
/-! ### calls that lend blocks and make a slice -/
theorem St.lend {X : List Nat} {w0 w : World} {L L' : List Ent} (is : List Nat) (st : St X w0 w L) (hn : is.Nodup) (h : is.map (fun i => L[i]?) = L'.map some) : St (L'.map (·.1)) w w L' := by
  have st' := st.pick is hn h
  exact ⟨Fr.refl _ _, fun e he => ⟨.inr (List.mem_map.2 ⟨e, he, rfl⟩), (st'.ents e he).2⟩, st'.apart⟩
theorem St.nilapp {X : List Nat} {w0 w : World} {L : List Ent} {b : Nat} {cs : List Value} {T : TypeId} (st : St X w0 w ((b, cs, T) :: L)) : St X w0 w ((b, cs ++ [], T) :: L) := by rw [List.append_nil]; exact st
theorem St.nilat {X : List Nat} {w0 w : World} {L : List Ent} {i b : Nat} {cs : List Value} {T : TypeId} (st : St X w0 w L) (hi : L[i]? = some (b, cs, T)) : St X w0 w (L.set i (b, cs ++ [], T)) := by
  have e : L.set i (b, cs ++ [], T) = L := by
    rw [List.append_nil]
    apply List.ext_getElem?
    intro q
    rw [List.getElem?_set]
    split
    · rename_i e; subst e
      split
      · exact hi.symm
      · rename_i hge; rw [List.getElem?_eq_none (by omega)]
    · rfl
  rw [e]; exact st
def RetXG (w : World) (Bs : List Nat) (T : TypeId) (s n : Nat) (cs : List Value) (V : Nat → Nat → Value) (M : List Ent) : Ending → World → Prop := fun e w' => ∃ b c sp, n ≤ c ∧ sp.length = (c - n) * s ∧ RetX w Bs (V b c) ((b, cs ++ sp, T) :: M) e w'
section
variable {n₀ : Nat} {ops : Array Oper} {Q : LPost} {rest : List Oper} {f : Env} {w w0 : World} {X Bs : List Nat} {L M : List Ent} {t : TypeId} {p : String} {af : Array Edge}
theorem Wl.callXG {d : Tmp} {k : FuncId} {as : List Operand} {ts : Array TypeId} {vs us : List Value} {T : TypeId} {s n : Nat} {V : Nat → Nat → Value} (is : List Nat) (st : St X w0 w L) (hc : CE P k vs w (RetXG w Bs T s n us V M)) (hB : is.map (fun i => (L[i]?).map (·.1)) = Bs.map some) (ha : evL f as = some vs)
    (kk : ∀ b c sp w', n ≤ c → sp.length = (c - n) * s → St X w0 w' ((b, us ++ sp, T) :: (M ++ dropFrom is 0 L)) → Wl P n₀ ops Q rest ((d, V b c) :: f) w') : Wl P n₀ ops Q (⟨some d, .call ⟨.value (.func k), as.toArray, ts⟩, t, p, af, none⟩ :: rest) f w :=
  Wl.call hc ha fun _ w' ⟨b, c, sp, h1, h2, he, hs⟩ => ⟨_, he, kk b c sp w' h1 h2 (st.lent is hs hB)⟩
theorem Wl.callFXG {d : Tmp} {k : FuncId} {x : Operand} {as : List Operand} {ts : Array TypeId} {cap vs us : List Value} {T : TypeId} {s n : Nat} {V : Nat → Nat → Value} (is : List Nat) (st : St X w0 w L) (hc : CE P k (vs ++ cap) w (RetXG w Bs T s n us V M)) (hB : is.map (fun i => (L[i]?).map (·.1)) = Bs.map some) (hx : evO f x = some (.func (.func k) #[] cap.toArray)) (ha : evL f as = some vs)
    (kk : ∀ b c sp w', n ≤ c → sp.length = (c - n) * s → St X w0 w' ((b, us ++ sp, T) :: (M ++ dropFrom is 0 L)) → Wl P n₀ ops Q rest ((d, V b c) :: f) w') : Wl P n₀ ops Q (⟨some d, .call ⟨.value x, as.toArray, ts⟩, t, p, af, none⟩ :: rest) f w :=
  Wl.callF hx hc ha fun _ w' ⟨b, c, sp, h1, h2, he, hs⟩ => ⟨_, he, kk b c sp w' h1 h2 (st.lent is hs hB)⟩
theorem Wl.callPXG {d : Tmp} {k : FuncId} {x : Operand} {as : List Operand} {ts : Array TypeId} {cap vs us : List Value} {T : TypeId} {s n : Nat} {V : Nat → Nat → Value} (is : List Nat) (st : St X w0 w L) (hx : evO f x = some (.func (.func k) #[] cap.toArray)) (ha : evL f as = some vs) (hc : CE P k (vs ++ cap) w (RetXG w Bs T s n us V M)) (hB : is.map (fun i => (L[i]?).map (·.1)) = Bs.map some)
    (kk : ∀ b c sp w', n ≤ c → sp.length = (c - n) * s → St X w0 w' ((b, us ++ sp, T) :: (M ++ dropFrom is 0 L)) → Wl P n₀ ops Q rest ((d, V b c) :: f) w') : Wl P n₀ ops Q (⟨some d, .call ⟨.value x, as.toArray, ts⟩, t, p, af, none⟩ :: rest) f w := Wl.callFXG is st hc hB hx ha kk
end
/-- … where something is known to be. -/
def RetXE {γ : Type} (w : World) (Bs : List Nat) (F : γ → Prop) (V : γ → Value) (M : γ → List Ent) : Ending → World → Prop := fun e w' => ∃ g, F g ∧ RetX w Bs (V g) (M g) e w'
section
variable {P : Program} {n₀ : Nat} {ops : Array Oper} {Q : LPost} {rest : List Oper} {f : Env} {w w0 : World} {X Bs : List Nat} {L : List Ent} {t : TypeId} {p : String} {af : Array Edge}
theorem Wl.callXE {γ : Type} {F : γ → Prop} {V : γ → Value} {M : γ → List Ent} {d : Tmp} {k : FuncId} {as : List Operand} {ts : Array TypeId} {vs : List Value} (is : List Nat) (st : St X w0 w L) (hc : CE P k vs w (RetXE w Bs F V M)) (hB : is.map (fun i => (L[i]?).map (·.1)) = Bs.map some) (ha : evL f as = some vs)
    (kk : ∀ g, F g → ∀ w', St X w0 w' (M g ++ dropFrom is 0 L) → Wl P n₀ ops Q rest ((d, V g) :: f) w') : Wl P n₀ ops Q (⟨some d, .call ⟨.value (.func k), as.toArray, ts⟩, t, p, af, none⟩ :: rest) f w :=
  Wl.call hc ha fun _ w' ⟨g, hg, he, hs⟩ => ⟨_, he, kk g hg w' (st.lent is hs hB)⟩
end
theorem made_arrU {k : IntKind} {n : Nat} : recV n (fun _ => (Value.int k 0).cells.toList) = arrU k n (fun _ => 0) := by
  induction n with
  | zero => rfl
  | succ n ih => rw [recV_succ, ih]; unfold arrU; rw [List.range_succ, List.map_append]; rfl
theorem made_arrZ {k : IntKind} {n : Nat} : recV n (fun _ => (Value.int k 0).cells.toList) = arrZ k n (fun _ => 0) := by
  induction n with
  | zero => rfl
  | succ n ih => rw [recV_succ, ih]; unfold arrZ; rw [List.range_succ, List.map_append]; rfl
/-! ### what is picked out of a row -/
def flL (q : Nat → Bool) (k : Nat) : List Nat := (List.range k).filter q
theorem flL_t {q : Nat → Bool} {k : Nat} (h : q k = true) : flL q (k + 1) = flL q k ++ [k] := by unfold flL; rw [List.range_succ, List.filter_append]; simp [h]
theorem flL_f {q : Nat → Bool} {k : Nat} (h : q k = false) : flL q (k + 1) = flL q k := by unfold flL; rw [List.range_succ, List.filter_append]; simp [h]
theorem flL_lt {q : Nat → Bool} {k j : Nat} (h : j ∈ flL q k) : j < k := by unfold flL at h; simpa using (List.mem_filter.1 h).1
theorem flL_len (q : Nat → Bool) (k : Nat) : (flL q k).length ≤ k := by
  unfold flL; exact Nat.le_trans (List.length_filter_le _ _) (by simp)
/-- the j-th of them -/
def flA (q : Nat → Bool) (k : Nat) : Nat → Nat := fun j => (flL q k).getD j 0
def flN (q : Nat → Bool) (k : Nat) : Nat := (flL q k).length
theorem flN_le (q : Nat → Bool) (k : Nat) : flN q k ≤ k := flL_len q k
theorem flN_t {q : Nat → Bool} {k m : Nat} (hm : m = flN q k) (h : q k = true) : m + 1 = flN q (k + 1) := by unfold flN at *; rw [flL_t h, List.length_append, hm]; rfl
theorem flN_f {q : Nat → Bool} {k m : Nat} (hm : m = flN q k) (h : q k = false) : m = flN q (k + 1) := by unfold flN at *; rw [flL_f h, hm]
theorem flA_lt (q : Nat → Bool) (k j : Nat) (h : 0 < k) : flA q k j < k := by
  unfold flA
  by_cases hj : j < (flL q k).length
  · rw [List.getD_eq_getElem?_getD, List.getElem?_eq_getElem hj]; exact flL_lt (List.getElem_mem hj)
  · rw [List.getD_eq_getElem?_getD, List.getElem?_eq_none (by omega)]; exact h
theorem flA_t {α : Type} {q : Nat → Bool} {k m : Nat} {u : Nat → α} {g : Nat → α} (hm : m = flN q k) (hu : ∀ j, j < m → u j = g (flA q k j)) (h : q k = true) : ∀ j, j < m + 1 → upd u m (g k) j = g (flA q (k + 1) j) := by
  intro j hj
  unfold flN at hm
  unfold flA at *
  rw [flL_t h, List.getD_eq_getElem?_getD]
  by_cases e : j = m
  · subst e
    rw [upd_same, List.getElem?_append_right (by omega), hm, Nat.sub_self]; rfl
  · rw [upd_ne e, hu j (by omega), List.getElem?_append_left (by omega), List.getD_eq_getElem?_getD]
theorem flA_f {α : Type} {q : Nat → Bool} {k m : Nat} {u : Nat → α} {g : Nat → α} (hu : ∀ j, j < m → u j = g (flA q k j)) (h : q k = false) : ∀ j, j < m → u j = g (flA q (k + 1) j) := by
  unfold flA at *
  rw [flL_f h]; exact hu
theorem app_all {cs sp : List Value} {n : Nat} (h : cs.length = n) : ((cs ++ sp).drop 0).take n = cs := by rw [List.drop_zero, List.take_left' h]
theorem app_len {cs sp : List Value} {n m s c : Nat} (h : cs.length = n * s) (h2 : sp.length = (c - n) * s) (hc : n ≤ c) : (cs ++ sp).length = c * s := by rw [List.length_append, h, h2, ← Nat.add_mul]; congr 1; omega
theorem Src.ofRdS' {P : Program} {w : World} {s n c : Nat} {A : Option Addr} {T2 e' : TypeId} {vs : List Value} (hk : P.underlying T2 = some (.slice e')) (h : RdS w A n vs) (hl : vs.length = n * s) (h1 : ∀ u ∈ vs, u.oneCell' = true) : Src P s T2 (.slice A n c) n vs w := by
  by_cases h0 : 0 < n
  · exact Src.ofRdS hk h (fun _ => .inr trivial) hl h1 h0
  · obtain rfl : n = 0 := by omega
    obtain rfl : vs = [] := List.length_eq_zero_iff.1 (by omega)
    cases A with
    | none => exact Src.ofNil w hk c
    | some a => exact Src.ofSlice w hk a 0 c [] (by simp) (fun j u h => by simp at h) (by simp)
end Go.Proofs.Ytagghfllgafmgaa
