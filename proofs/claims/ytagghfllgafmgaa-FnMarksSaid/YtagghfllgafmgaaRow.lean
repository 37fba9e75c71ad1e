/-
  From a walked law to its row: how arguments are opened, and the row's end. Nothing here speaks of one program.
-/
import Derived.Test.YtagghfllgafmgaaSl
import Derived.ProofKit
import Derived.Deep.Slices
import Derived.OpenShut
namespace Go.Proofs.Ytagghfllgafmgaa
set_option linter.unusedVariables false
set_option linter.unusedSimpArgs false
open Go.RowKit Go.ChangeShapes Go.WideShapes Go.ChangeAt Go.Deep

section
variable {H : Type} {enc : TypeId × Value → H} {P : Program} {w : World} {base b0 : Nat} {sp : Nat → Bool} {held : Bool}

theorem wf_fit {k : IntKind} {n : Int} (h : (Lit.int k n).wf = true) : fitI k n := by
  cases k <;> simp [Lit.wf, IntKind.min, IntKind.max, IntKind.signed, IntKind.bits] at h <;> simp only [fitI] <;> omega

/-- The kinds of a type's cells, where all of them are whole numbers. -/
def flatF (fl : TypeId → Option (List IntKind)) (P : Program) : Nat → List Field → Option (List IntKind)
  | _, [] => some []
  | o, f :: fs => match fl f.type, flatF fl P (o + P.cellsOf f.type) fs with
    | some ks, some r => if f.offset = o ∧ ks.length = P.cellsOf f.type then some (ks ++ r) else none
    | _, _ => none
def flatK (P : Program) : Nat → TypeId → Option (List IntKind)
  | 0, _ => none
  | d + 1, t => match P.underlying t with
    | some (.int k) => some [k]
    | some (.struct fs) => flatF (flatK P d) P 0 fs.toList
    | some (.array n e) => match flatK P d e with
      | some ks => if ks.length = P.cellsOf e then some (List.replicate n ks).flatten else none
      | none => none
    | _ => none
def Flat (cs : List Value) (ks : List IntKind) : Prop := cs.length = ks.length ∧ ∀ (j : Nat) (k : IntKind), ks[j]? = some k → ∃ n : Int, cs[j]? = some (.int k n) ∧ fitI k n
theorem Flat.append {a b : List Value} {ka kb : List IntKind} (h1 : Flat a ka) (h2 : Flat b kb) : Flat (a ++ b) (ka ++ kb) := by
  refine ⟨by simp [h1.1, h2.1], fun j k hj => ?_⟩
  by_cases hl : j < ka.length
  · rw [List.getElem?_append_left hl] at hj
    rw [List.getElem?_append_left (by rw [h1.1]; exact hl)]
    exact h1.2 j k hj
  · rw [List.getElem?_append_right (by omega)] at hj
    rw [List.getElem?_append_right (by rw [h1.1]; omega), h1.1]
    exact h2.2 _ k hj
theorem flat_fields (fl : TypeId → Option (List IntKind)) (cs : List Value) : ∀ (fs : List Field) (o : Nat) (ks : List IntKind), flatF fl P o fs = some ks → o ≤ cs.length →
    (∀ f, f ∈ fs → ∀ k', fl f.type = some k' → Flat ((cs.drop f.offset).take (P.cellsOf f.type)) k') → o + ks.length = cs.length → Flat (cs.drop o) ks
  | [], o, ks, h, _, _, hl => by
    simp only [flatF, Option.some.injEq] at h
    subst h
    simp only [List.length_nil, Nat.add_zero] at hl
    rw [hl, List.drop_length]
    exact ⟨rfl, fun j k hj => by simp at hj⟩
  | f :: fs, o, ks, h, ho, hf, hl => by
    unfold flatF at h
    split at h
    · rename_i k1 r hk1 hr
      split at h
      · rename_i hc
        simp only [Option.some.injEq] at h
        subst h
        obtain ⟨hc1, hc2⟩ := hc
        simp only [List.length_append] at hl
        have h1 := hf f (by simp) k1 hk1
        rw [hc1] at h1
        have h2 := flat_fields fl cs fs (o + P.cellsOf f.type) r hr (by omega) (fun g hg => hf g (by simp [hg])) (by omega)
        have e : cs.drop o = (cs.drop o).take (P.cellsOf f.type) ++ cs.drop (o + P.cellsOf f.type) := by
          rw [← List.drop_drop, List.take_append_drop]
        rw [e]
        exact h1.append h2
      · cases h
    · cases h
theorem flat_array {cs : List Value} {ks : List IntKind} (s : Nat) (hk : ks.length = s) : ∀ (n i : Nat), (∀ j, j < n → Flat ((cs.drop ((i + j) * s)).take s) ks) → cs.length = (i + n) * s → Flat (cs.drop (i * s)) (List.replicate n ks).flatten
  | 0, i, _, hl => by
    rw [Nat.add_zero] at hl
    rw [← hl, List.drop_length]
    exact ⟨rfl, fun j k hj => by simp at hj⟩
  | n + 1, i, h, hl => by
    have h0 := h 0 (by omega)
    rw [Nat.add_zero] at h0
    have h1 := flat_array s hk n (i + 1) (fun j hj => by have := h (j + 1) (by omega); rwa [show i + (j + 1) = i + 1 + j by omega] at this) (by rw [hl]; congr 1; omega)
    have e : cs.drop (i * s) = (cs.drop (i * s)).take s ++ cs.drop ((i + 1) * s) := by
      rw [Nat.succ_mul, ← List.drop_drop, List.take_append_drop]
    rw [e, List.replicate_succ, List.flatten_cons]
    exact h0.append h1
theorem trod_flat : ∀ (d : Nat) (t : TypeId) (ks : List IntKind), flatK P d t = some ks → ks.length = P.cellsOf t → ∀ (fuel : Nat) (cs : List Value) (x : DataW H × List MemPlace), DataW.trod enc P w base sp held fuel t cs = some x → Flat cs ks
  | 0, _, _, h, _, _, _, _, _ => by cases h
  | d + 1, t, ks, h, hlen, fuel, cs, x, hx => by
    unfold flatK at h
    split at h
    · rename_i k hu
      simp only [Option.some.injEq] at h
      subst h
      obtain ⟨n, rfl, _, hw⟩ := DataW.trod_int hu hx
      refine ⟨rfl, fun j k' hj => ?_⟩
      cases j with
      | zero =>
        simp only [List.getElem?_cons_zero, Option.some.injEq] at hj
        subst hj
        exact ⟨n, rfl, wf_fit hw⟩
      | succ j => simp at hj
    · rename_i fs hu
      obtain ⟨xs, m, _, _, hcl, hxl, hf⟩ := DataW.trod_struct hu hx
      have := flat_fields (P := P) (flatK P d) cs fs.toList 0 ks h (by omega) (fun f hfm k' hk' => by
        obtain ⟨i, hi, rfl⟩ := List.getElem_of_mem hfm
        have hi' : fs[i]? = some (fs.toList[i]) := by simp
        have h1 := hf i _ hi'
        have hlx : i < xs.length := by rw [hxl]; simpa using hi
        rw [List.getElem?_eq_getElem hlx] at h1
        have hk'l : k'.length = P.cellsOf (fs.toList[i]).type := by
          have : ∀ (l : List Field) (o : Nat) (r : List IntKind), flatF (flatK P d) P o l = some r → ∀ g, g ∈ l → ∀ kk, flatK P d g.type = some kk → kk.length = P.cellsOf g.type := by
            intro l
            induction l with
            | nil => intro _ _ _ g hg; cases hg
            | cons a l ih =>
              intro o r hr g hg kk hkk
              unfold flatF at hr
              split at hr
              · rename_i k1 r1 hk1 hr1
                split at hr
                · rename_i hc
                  rcases List.mem_cons.1 hg with rfl | hg
                  · rw [hk1] at hkk; cases hkk; exact hc.2
                  · exact ih _ _ hr1 g hg kk hkk
                · cases hr
              · cases hr
          exact this fs.toList 0 ks h _ hfm k' hk'
        exact trod_flat d _ k' hk' hk'l _ _ _ h1) (by omega)
      rw [List.drop_zero] at this
      exact this
    · rename_i n e hu
      split at h
      · rename_i k1 hk1
        split at h
        · rename_i hc
          simp only [Option.some.injEq] at h
          subst h
          obtain ⟨xs, m, _, _, hcl, hxl, hf⟩ := DataW.trod_array hu hx
          have hl2 : cs.length = n * P.cellsOf e := by
            rw [hcl, ← hlen, List.length_flatten]
            simp [hc]
          have := flat_array (cs := cs) (ks := k1) (P.cellsOf e) hc n 0 (fun j hj => by
            rw [Nat.zero_add]
            have h1 := hf j hj
            rw [List.getElem?_eq_getElem (by rw [hxl]; exact hj)] at h1
            exact trod_flat d e k1 hk1 hc _ _ _ h1) (by rw [Nat.zero_add]; exact hl2)
          rw [Nat.zero_mul, List.drop_zero] at this
          exact this
        · cases h
      · cases h
    · cases h

theorem open_flat {t : TypeId} {v : Value} {dd : DataW H} {ps : List MemPlace} {ks : List IntKind} {r : Reach} (hk : flatK P 6 t = some ks) (hl : ks.length = P.cellsOf t) (ha : (tyA P t).map (·.1) = some true) (hv : Value.okWide P w r b0 t v) (h : DataW.Trod enc P w base sp held t v dd ps) : ∃ cs : List Value, v = .agg cs.toArray ∧ Flat cs ks := by
  obtain ⟨fuel, hf⟩ := h
  have hfl := trod_flat 6 t ks hk hl fuel _ _ hf
  have : ∃ cs : Array Value, v = .agg cs := by
    unfold tyA at ha
    cases hu : P.underlying t with
    | none => simp [hu] at ha
    | some d =>
      cases hi : P.info? t with
      | none => simp [hu, hi] at ha
      | some i =>
        simp only [hu, hi, Option.map_some, Option.some.injEq] at ha
        cases d <;> simp at ha
        · rename_i n e
          simp only [Value.okWide, hu] at hv
          obtain ⟨cs, h1, _⟩ := hv
          exact ⟨cs, h1⟩
        · obtain ⟨cs, h1, _⟩ := okWide_struct hu hv
          exact ⟨cs, h1⟩
  obtain ⟨cs, rfl⟩ := this
  exact ⟨cs.toList, by simp, hfl⟩
theorem open_num {t : TypeId} {v : Value} {dd : DataW H} {ps : List MemPlace} {k : IntKind} {r : Reach} (ht : P.underlying t = some (.int k)) (hv : Value.okWide P w r b0 t v) (h : DataW.Trod enc P w base sp held t v dd ps) : ∃ n : Int, v = .int k n ∧ fitI k n := by
  obtain ⟨n, rfl, _, _, hw⟩ := open_int ht hv h
  exact ⟨n, rfl, wf_fit hw⟩

/-- the j-th whole number of some cells -/
def numAt (cs : List Value) (j : Nat) : Int := match cs[j]? with | some (.int _ n) => n | _ => 0
theorem Flat.arrU {cs : List Value} {k : IntKind} {n : Nat} (hk : 0 < uB k) (h : Flat cs (List.replicate n k)) : ∃ c : Nat → Nat, cs = arrU k n c ∧ ∀ j, c j < uB k := by
  have key : ∀ j, j < n → ∃ m : Int, cs[j]? = some (.int k m) ∧ fitI k m := fun j hj => h.2 j k (by simp [hj])
  have hu : ∀ m : Int, fitI k m → 0 ≤ m ∧ m < uB k := by intro m hm; cases k <;> simp only [fitI, uB] at * <;> omega
  refine ⟨fun j => (numAt cs j).toNat, ?_, fun j => ?_⟩
  · apply List.ext_getElem?
    intro j
    by_cases hj : j < n
    · obtain ⟨m, hm, hf⟩ := key j hj
      rw [arrU_get hj, hm]
      have : ((numAt cs j).toNat : Int) = m := by
        have e : numAt cs j = m := by unfold numAt; rw [hm]
        have := (hu m hf).1
        rw [e]; omega
      rw [this]
    · rw [List.getElem?_eq_none (by rw [h.1]; simp; omega), List.getElem?_eq_none (by rw [arrU_len]; omega)]
  · by_cases hj : j < n
    · obtain ⟨m, hm, hf⟩ := key j hj
      have e : numAt cs j = m := by unfold numAt; rw [hm]
      have := hu m hf
      simp only [e]; omega
    · have e : numAt cs j = 0 := by unfold numAt; rw [List.getElem?_eq_none (by rw [h.1]; simp; omega)]
      simp only [e]; exact hk
theorem Flat.cons {cs : List Value} {k : IntKind} {ks : List IntKind} (h : Flat cs (k :: ks)) : ∃ (n : Int) (r : List Value), cs = .int k n :: r ∧ fitI k n ∧ Flat r ks := by
  obtain ⟨n, hn, hf⟩ := h.2 0 k rfl
  cases cs with
  | nil => simp at hn
  | cons a r =>
    simp only [List.getElem?_cons_zero, Option.some.injEq] at hn
    subst hn
    refine ⟨n, r, rfl, hf, by have := h.1; simpa using this, fun j k' hj => ?_⟩
    obtain ⟨m, hm, hf'⟩ := h.2 (j + 1) k' (by simpa using hj)
    exact ⟨m, by simpa using hm, hf'⟩
theorem Flat.split {cs : List Value} {ka kb : List IntKind} (h : Flat cs (ka ++ kb)) : ∃ a b, cs = a ++ b ∧ Flat a ka ∧ Flat b kb := by
  have hl : cs.length = ka.length + kb.length := by rw [h.1, List.length_append]
  refine ⟨cs.take ka.length, cs.drop ka.length, (List.take_append_drop _ _).symm, ⟨by rw [List.length_take]; omega, fun j k hj => ?_⟩, ⟨by rw [List.length_drop]; omega, fun j k hj => ?_⟩⟩
  · have hlt : j < ka.length := by
      rcases Nat.lt_or_ge j ka.length with h' | h'
      · exact h'
      · rw [List.getElem?_eq_none h'] at hj; cases hj
    obtain ⟨m, hm, hf⟩ := h.2 j k (by rw [List.getElem?_append_left hlt]; exact hj)
    exact ⟨m, by rw [List.getElem?_take, if_pos hlt]; exact hm, hf⟩
  · obtain ⟨m, hm, hf⟩ := h.2 (ka.length + j) k (by rw [List.getElem?_append_right (by omega), Nat.add_sub_cancel_left]; exact hj)
    exact ⟨m, by rw [List.getElem?_drop]; exact hm, hf⟩
theorem Flat.nil {cs : List Value} (h : Flat cs []) : cs = [] := List.length_eq_zero_iff.1 (by simpa using h.1)
theorem Flat.lay {cs : List Value} (h : Flat cs (.i8 :: List.replicate 64 .u8)) : ∃ (p : Int) (c : Nat → Nat), cs = layV p c ∧ (-128 ≤ p ∧ p ≤ 127) ∧ ∀ k, c k < 256 := by
  obtain ⟨p, r, rfl, hp, hr⟩ := h.cons
  obtain ⟨c, rfl, hc⟩ := hr.arrU (by decide)
  exact ⟨p, c, rfl, hp, hc⟩
theorem Flat.sch {cs : List Value} (h : Flat cs (.i8 :: .i8 :: (List.replicate 6 .u8 ++ List.replicate 6 .u8))) : ∃ (s p : Int) (a b : Nat → Nat), cs = schV s p a b ∧ (-128 ≤ s ∧ s ≤ 127) ∧ (-128 ≤ p ∧ p ≤ 127) ∧ (∀ k, a k < 256) ∧ ∀ k, b k < 256 := by
  obtain ⟨s, r, rfl, hs, hr⟩ := h.cons
  obtain ⟨p, r, rfl, hp, hr⟩ := hr.cons
  obtain ⟨x, y, rfl, hx, hy⟩ := hr.split
  obtain ⟨a, rfl, ha⟩ := hx.arrU (by decide)
  obtain ⟨b, rfl, hb⟩ := hy.arrU (by decide)
  exact ⟨s, p, a, b, rfl, hs, hp, ha, hb⟩
theorem nat_of_fit {k : IntKind} {n : Int} (hk : 0 < uB k) (h : fitI k n) : ∃ m : Nat, n = (m : Int) ∧ m < uB k := by
  refine ⟨n.toNat, ?_, ?_⟩ <;> (cases k <;> simp only [fitI, uB] at * <;> omega)

theorem open_sl {t e : TypeId} {v : Value} {dd : DataW H} {ps : List MemPlace} {ks : List IntKind} {r : Reach} (ht : P.underlying t = some (.slice e)) (hk : flatK P 6 e = some ks) (hl : ks.length = P.cellsOf e) (h0 : 0 < ks.length) (hv : Value.okWide P w r b0 t v) (h : DataW.Trod enc P w base sp held t v dd ps) :
    ∃ (A : Option Addr) (n c : Nat) (G : Nat → List Value), v = .slice A n c ∧ n ≤ 9223372036854775807 ∧ (∀ i, i < n → Flat (G i) ks) ∧ RdS w A n (recV n G) := by
  obtain ⟨a1, len, cap, rfl⟩ := okWide_slice ht hv
  obtain ⟨fuel, hf⟩ := h
  rcases open_slice ht hf with ⟨hcs, _⟩ | ⟨a, len', cap', m, n, D, Pl, hcs, hb, hl', hm, hmm, hx, hcell⟩
  · simp [Value.cells] at hcs
    obtain ⟨rfl, rfl, rfl⟩ := hcs
    exact ⟨none, 0, 0, fun _ => [], rfl, by omega, fun i hi => absurd hi (by omega), fun h => absurd h (by omega)⟩
  · simp [Value.cells] at hcs
    obtain ⟨rfl, rfl, rfl⟩ := hcs
    have hlm : len ≤ m := by rw [hmm]; split <;> omega
    obtain ⟨G, hG⟩ := choose_lt (α := List Value) (p := fun i cs' => w.cells? base (a.add (i * P.cellsOf e)) (P.cellsOf e) = some cs' ∧ DataW.trod enc P w base sp held n e cs' = some (D i, Pl i)) hcell
    have hflat : ∀ i, i < len → Flat (G i) ks := fun i hi => trod_flat 6 e ks hk hl n _ _ (hG i (by omega)).2
    refine ⟨some a, len, cap, G, rfl, by unfold maxLen at hm; omega, hflat, fun hn => ?_⟩
    have hcl : ∀ i j u, i < len → (G i)[j]? = some u → w.cell? ((a.add (i * P.cellsOf e)).add j) = some u := by
      intro i j u hi hu
      obtain ⟨_, h2, h3⟩ := World.cells?_some (hG i (by omega)).1
      have hj : j < P.cellsOf e := by
        rcases Nat.lt_or_ge j (P.cellsOf e) with h' | h'
        · exact h'
        · rw [List.getElem?_eq_none (by omega)] at hu; cases hu
      rw [h3 j hj]; exact hu
    have hne : 0 < (G 0).length := by rw [(hflat 0 hn).1]; exact h0
    have hc0 := hcl 0 0 _ hn (List.getElem?_eq_getElem hne)
    obtain ⟨ab, ao, spot⟩ := a
    have hspot : spot = none := by simpa [Addr.add] using World.cell?_spot hc0
    subst hspot
    have hadd : ∀ q : Nat, (⟨ab, ao, none⟩ : Addr).add q = ⟨ab, ao + q, none⟩ := fun q => by unfold Addr.add; split <;> simp_all
    rw [hadd, Addr.add] at hc0
    refine ⟨ab, ao, rfl, World.block_lt_of_cell? w _ (by simpa using hc0), fun q u hu => ?_⟩
    obtain ⟨i, j, hi, rfl, hj⟩ := recV_idx (s := P.cellsOf e) (fun i hi => by rw [(hflat i hi).1, hl]) hu
    have := hcl i j u hi hj
    rw [add_add, hadd] at this
    exact this
theorem numAt_of {cs : List Value} {j : Nat} {k : IntKind} {n : Int} (h : cs[j]? = some (.int k n)) : numAt cs j = n := by unfold numAt; rw [h]
theorem Flat.two {cs : List Value} {k1 k2 : IntKind} (h : Flat cs [k1, k2]) : cs = [.int k1 (numAt cs 0), .int k2 (numAt cs 1)] ∧ fitI k1 (numAt cs 0) ∧ fitI k2 (numAt cs 1) := by
  obtain ⟨a, r, rfl, ha, h⟩ := h.cons
  obtain ⟨b, r, rfl, hb, h⟩ := h.cons
  obtain rfl := h.nil
  exact ⟨rfl, ha, hb⟩
theorem Flat.one {cs : List Value} {k1 : IntKind} (h : Flat cs [k1]) : cs = [.int k1 (numAt cs 0)] ∧ fitI k1 (numAt cs 0) := by
  obtain ⟨a, r, rfl, ha, h⟩ := h.cons
  obtain rfl := h.nil
  exact ⟨rfl, ha⟩

/-! ### the row's end -/
theorem trodAll_below (hl : laidOutB P = true) {W W' : World} (hb : Below W.heap.size W W') : ∀ (ts : List TypeId) (vs : List Value) (ds : List (DataW H)) (ps : List MemPlace), ts.all (fun t => P.readableRec t && decide (t < P.types.size)) = true →
    DataW.TrodAll enc P W 0 (fun _ => true) true ts vs ds ps → (∀ x ∈ ps, x.block < W.heap.size) → DataW.TrodAll enc P W' 0 (fun b => decide (b < W.heap.size)) true ts vs ds ps
  | [], vs, ds, ps, _, h, _ => by
    cases vs <;> cases ds <;> simp [DataW.TrodAll] at h ⊢
    exact h
  | t :: ts, vs, ds, ps, ht, h, hlt => by
    obtain ⟨v, vs', d, ds', p, q, rfl, rfl, rfl, h1, h2⟩ := trodAll_cons h
    simp only [List.all_cons, Bool.and_eq_true, decide_eq_true_eq] at ht
    exact ⟨p, q, Below.trod hl ht.1.1 ht.1.2 h1 hb (fun x hx => hlt x (by simp [hx])), trodAll_below hl hb ts vs' ds' q ht.2 h2 (fun x hx => hlt x (by simp [hx])), rfl⟩
theorem post_law {f : Func} {s : ChangeSpec} {W W' : World} {args : Array Value} {ds gs : List (DataW H)} {before : List MemPlace} {tb : TypeId} (hl : laidOutB P = true)
    (hW : DataW.Whole enc P f.params.toList s.vars false W args.toList ds gs before) (hv : s.vars = []) (hrt : f.resultTypes = #[tb]) (htb : P.underlying tb = some .bool)
    (hts : f.params.toList.all (fun t => P.readableRec t && decide (t < P.types.size)) = true) (hs1 : (s.fn H (ds ++ gs)).results = [.lit (.bool true)]) (hs2 : (s.fn H (ds ++ gs)).args = ds) (hs3 : (s.fn H (ds ++ gs)).vars = []) (hb : Below W.heap.size W W') :
    s.post enc P f false true false false W args (.bool true) W' := by
  have hlt : ∀ p ∈ before, p.block < W.heap.size := fun p hp => hW.lt p hp
  have hW' := hW
  obtain ⟨pa, pv, hA, hV, rfl, _, _⟩ := hW
  rw [hv] at hV
  obtain ⟨rfl, rfl⟩ := trodVars_none hV
  rw [List.append_nil] at hW' hlt
  refine ⟨ds, [], pa, [], pa, [], hW', ?_, ?_, ?_, World.keptBut_mono (fun p hp => ⟨hp, .inr (.inl hp)⟩) (hb.frame (· ∈ pa)), fun h => by cases h⟩
  · rw [hs1, hrt]
    exact trodAll_mk1 (shut_bool htb _)
  · rw [hs2]
    exact trodAll_below hl hb _ _ _ _ hts hA hlt
  · rw [hs3, hv]
    rfl
end
end Go.Proofs.Ytagghfllgafmgaa
