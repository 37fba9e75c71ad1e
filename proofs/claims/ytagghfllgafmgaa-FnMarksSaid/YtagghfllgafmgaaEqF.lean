/-
  Equality of whole structs and arrays whose cells are all whole numbers. Nothing here speaks of one program.
-/
import Derived.Test.YtagghfllgafmgaaRow
import Derived.DeepKeys
namespace Go.Proofs.Ytagghfllgafmgaa
set_option linter.unusedVariables false
set_option linter.unusedSimpArgs false
open Go.RowKit
variable {P : Program}
def toLit : Value → Lit
  | .int k n => .int k n
  | _ => .bool false
/-- No blank field anywhere. -/
def nbB (P : Program) : Nat → TypeId → Bool
  | 0, _ => true
  | d + 1, t => match P.underlying t with
    | some (.struct fs) => fs.all (fun f => f.name != "_") && fs.toList.all (fun f => nbB P d f.type)
    | some (.array _ e) => nbB P d e
    | _ => true
theorem fit_wf {k : IntKind} {n : Int} (h : fitI k n) : (Lit.int k n).wf = true := by
  cases k <;> simp only [fitI] at h <;> simp [Lit.wf, IntKind.min, IntKind.max, IntKind.signed, IntKind.bits] <;> omega
theorem Flat.append_inv {cs : List Value} {ka kb : List IntKind} (h : Flat cs (ka ++ kb)) : Flat (cs.take ka.length) ka ∧ Flat (cs.drop ka.length) kb := by
  obtain ⟨a, b, rfl, ha, hb⟩ := h.split
  rw [← ha.1, List.take_left, List.drop_left]
  exact ⟨ha, hb⟩
theorem keyFields {d : Nat} (IH : ∀ (t : TypeId) (ks : List IntKind), flatK P d t = some ks → ks.length = P.cellsOf t → nbB P d t = true → ∀ cs, Flat cs ks → P.keyLits d t cs = some (cs.map toLit)) (cs : List Value) :
    ∀ (fs : List Field) (o : Nat) (ks : List IntKind), flatF (flatK P d) P o fs = some ks → fs.all (fun f => nbB P d f.type) = true → Flat (cs.drop o) ks →
      ∃ r, fs.mapM (fun f => P.keyLits d f.type ((cs.drop f.offset).take (P.cellsOf f.type))) = some r ∧ r.flatten = (cs.drop o).map toLit
  | [], o, ks, h, _, hf => by
    simp only [flatF, Option.some.injEq] at h
    subst h
    exact ⟨[], rfl, by rw [hf.nil]; rfl⟩
  | f :: fs, o, ks, h, hn, hf => by
    unfold flatF at h
    split at h
    · rename_i k1 r1 h1 h2
      split at h
      · rename_i hc
        simp only [Option.some.injEq] at h
        subst h
        simp only [List.all_cons, Bool.and_eq_true] at hn
        obtain ⟨ha, hb⟩ := hf.append_inv
        rw [hc.2] at ha hb
        rw [List.drop_drop] at hb
        obtain ⟨r, hr, hfl⟩ := keyFields IH cs fs _ r1 h2 hn.2 (by rw [Nat.add_comm] at hb; rwa [Nat.add_comm] at hb)
        refine ⟨((cs.drop o).take (P.cellsOf f.type)).map toLit :: r, ?_, ?_⟩
        · rw [List.mapM_cons, hc.1, IH f.type k1 h1 hc.2 hn.1 _ ha, hr]; rfl
        · rw [List.flatten_cons, hfl, ← List.map_append, ← List.drop_drop, List.take_append_drop]
      · cases h
    · cases h
theorem keyItems {d : Nat} {e : TypeId} {k1 : List IntKind} (hs : ∀ cs, Flat cs k1 → P.keyLits d e cs = some (cs.map toLit)) (hl : k1.length = P.cellsOf e) (cs : List Value) :
    ∀ (m i : Nat), Flat (cs.drop (i * P.cellsOf e)) (List.replicate m k1).flatten → ∃ r, (List.range' i m).mapM (fun i => P.keyLits d e ((cs.drop (i * P.cellsOf e)).take (P.cellsOf e))) = some r ∧ r.flatten = (cs.drop (i * P.cellsOf e)).map toLit
  | 0, i, hf => ⟨[], rfl, by rw [Flat.nil (cs := cs.drop (i * P.cellsOf e)) (by simpa using hf)]; rfl⟩
  | m + 1, i, hf => by
    rw [List.replicate_succ, List.flatten_cons] at hf
    obtain ⟨ha, hb⟩ := hf.append_inv
    rw [hl] at ha hb
    rw [List.drop_drop, ← Nat.succ_mul] at hb
    obtain ⟨r, hr, hfl⟩ := keyItems hs hl cs m (i + 1) hb
    refine ⟨((cs.drop (i * P.cellsOf e)).take (P.cellsOf e)).map toLit :: r, ?_, ?_⟩
    · rw [List.range'_succ, List.mapM_cons, hs _ ha, hr]; rfl
    · rw [List.flatten_cons, hfl, ← List.map_append, Nat.succ_mul, ← List.drop_drop, List.take_append_drop]
theorem keyLits_flat : ∀ (d : Nat) (t : TypeId) (ks : List IntKind), flatK P d t = some ks → ks.length = P.cellsOf t → nbB P d t = true → ∀ cs, Flat cs ks → P.keyLits d t cs = some (cs.map toLit)
  | 0, _, _, h, _, _, _, _ => by cases h
  | d + 1, t, ks, h, hl, hn, cs, hf => by
    unfold flatK at h
    split at h
    · rename_i k hu
      simp only [Option.some.injEq] at h
      subst h
      obtain ⟨n, r, rfl, hfit, hr⟩ := hf.cons
      obtain rfl := hr.nil
      have hw := fit_wf hfit
      simp only [Program.keyLits, hu, true_and]
      rw [if_pos hw]
      rfl
    · rename_i fs hu
      simp only [nbB, hu, Bool.and_eq_true] at hn
      obtain ⟨r, hr, hfl⟩ := keyFields (fun t ks h1 h2 h3 cs h4 => keyLits_flat d t ks h1 h2 h3 cs h4) cs fs.toList 0 ks h hn.2 (by simpa using hf)
      simp only [Program.keyLits, hu]
      rw [if_pos ⟨by rw [hf.1, hl], hn.1⟩, hr, Option.map_some, hfl, List.drop_zero]
    · rename_i n e hu
      split at h
      · rename_i k1 hk1
        split at h
        · rename_i hc
          simp only [Option.some.injEq] at h
          subst h
          simp only [nbB, hu] at hn
          obtain ⟨r, hr, hfl⟩ := keyItems (fun cs h4 => keyLits_flat d e k1 hk1 hc hn cs h4) hc cs n 0 (by simpa using hf)
          simp only [Program.keyLits, hu]
          rw [if_pos (by rw [hf.1, hl]), List.range_eq_range', hr, Option.map_some, hfl, Nat.zero_mul, List.drop_zero]
        · cases h
      · cases h
    · cases h
theorem toLit_inj : ∀ {ks : List IntKind} {cs cs' : List Value}, Flat cs ks → Flat cs' ks → (cs.map toLit = cs'.map toLit ↔ cs = cs')
  | [], cs, cs', h, h' => by rw [h.nil, h'.nil]; simp
  | k :: ks, cs, cs', h, h' => by
    obtain ⟨a, r, rfl, _, hr⟩ := h.cons
    obtain ⟨b, r', rfl, _, hr'⟩ := h'.cons
    simp only [List.map_cons, List.cons.injEq, toLit, Lit.int.injEq, true_and, Value.int.injEq]
    rw [toLit_inj hr hr']
theorem Flat.nl : Flat [] [] := ⟨rfl, fun j k h => by simp at h⟩
theorem Flat.mk {k : IntKind} {n : Int} {cs : List Value} {ks : List IntKind} (h : fitI k n) (r : Flat cs ks) : Flat (.int k n :: cs) (k :: ks) := by
  refine ⟨by simp [r.1], fun j k' hj => ?_⟩
  cases j with
  | zero => simp only [List.getElem?_cons_zero, Option.some.injEq] at hj; subst hj; exact ⟨n, rfl, h⟩
  | succ j => simpa using r.2 j k' (by simpa using hj)
def eqB (P : Program) (T : TypeId) (ks : List IntKind) : Bool :=
  decide (flatK P 6 T = some ks) && (decide (ks.length = P.cellsOf T) && (nbB P 6 T && (P.keyTypeAt 8 T && ((!P.eqGuardType P.depth T) && match P.underlying T with | some (.struct _) | some (.array _ _) => true | _ => false))))
section
variable {f : Env} {x y : Operand} {T T2 : TypeId} {ks : List IntKind} {cs cs' : List Value}
theorem run_eqF {q : Prop} [Decidable q] (hT : eqB P T ks = true) (h : Flat cs ks) (h' : Flat cs' ks) (hq : cs = cs' ↔ q) (w : World) : (Op.equalIn Op.maxDepth T (.agg cs.toArray) (.agg cs'.toArray)).run P w = .ok (decide q) w := by
  unfold eqB at hT
  simp only [Bool.and_eq_true, decide_eq_true_eq] at hT
  obtain ⟨h1, h2, h3, h4, _, h5⟩ := hT
  have hfm : ∀ l : List Value, Flat l ks → (Value.agg l.toArray).formed P T = true := fun l hl => by
    simp only [Value.formed]
    split at h5 <;> first | (simp_all [hl.1]; done) | cases h5
  obtain ⟨r, hr, hiff⟩ := run_equalIn_deep (P := P) (Op.maxDepth - 8) 8 T h4 w 6 6 _ _ _ _ (hfm cs h) (hfm cs' h') (keyLits_flat 6 T ks h1 h2 h3 cs h) (keyLits_flat 6 T ks h1 h2 h3 cs' h')
  have e : Op.maxDepth - 8 + 8 = Op.maxDepth := rfl
  rw [e] at hr
  rw [hr]
  congr 1
  rw [Bool.eq_iff_iff, hiff, decide_eq_true_eq]
  exact (toLit_inj h h').trans hq
theorem eqF_guard (hT : eqB P T ks = true) (w : World) (op : BinOp) : (eqGuard op T x y (.agg cs.toArray) (.agg cs'.toArray)).run P w = .ok () w := by
  unfold eqB at hT
  simp only [Bool.and_eq_true, Bool.not_eq_true', decide_eq_true_eq] at hT
  obtain ⟨_, _, _, _, h5, _⟩ := hT
  unfold eqGuard
  cases op <;> simp [h5, run_program]
theorem PR.eqlF {q : Prop} [Decidable q] (hT : eqB P T ks = true) (hx : evO f x = some (.agg cs.toArray)) (hy : evO f y = some (.agg cs'.toArray)) (h : Flat cs ks) (h' : Flat cs' ks) (hq : cs = cs' ↔ q) : PR P f (.binOp .eql T x y T2) (.bool (decide q)) := fun ρ hρ _ _ _ _ _ w => by
  have hx := hρ _ _ hx
  have hy := hρ _ _ hy
  have e := run_eqF (P := P) hT h h' hq w
  have g := eqF_guard (P := P) (x := x) (y := y) (cs := cs) (cs' := cs') hT w .eql
  simp only [execOp, hx, hy, Sem.run_bind, g, Result.andThen_ok, binOp, Op.equal, e, Sem.run_pure]
theorem PR.neqF {q : Prop} [Decidable q] (hT : eqB P T ks = true) (hx : evO f x = some (.agg cs.toArray)) (hy : evO f y = some (.agg cs'.toArray)) (h : Flat cs ks) (h' : Flat cs' ks) (hq : cs = cs' ↔ q) : PR P f (.binOp .neq T x y T2) (.bool (!decide q)) := fun ρ hρ _ _ _ _ _ w => by
  have hx := hρ _ _ hx
  have hy := hρ _ _ hy
  have e := run_eqF (P := P) hT h h' hq w
  have g := eqF_guard (P := P) (x := x) (y := y) (cs := cs) (cs' := cs') hT w .neq
  simp only [execOp, hx, hy, Sem.run_bind, g, Result.andThen_ok, binOp, Op.equal, e, Sem.run_pure]
end
end Go.Proofs.Ytagghfllgafmgaa
