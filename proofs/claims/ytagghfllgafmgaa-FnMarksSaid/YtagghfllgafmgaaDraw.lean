/-
  Plain laws: numbers and orders that are drawn by a seed; parts in another order; layers that are drawn; copies of rows.
-/
import Derived.Test.YtagghfllgafmgaaLays
import Derived.Test.YtagghfllgafmgaaMx
import Derived.Test.YtagghfllgafmgaaSel
namespace Go.Proofs.Ytagghfllgafmgaa
set_option linter.unusedVariables false
set_option linter.unusedSimpArgs false
open Go.RowKit
/-! ### numbers and orders -/
def lcg (x : Nat) : Nat := (((1664525 * x) % 4294967296) + 1013904223) % 4294967296
theorem lcg_lt (x : Nat) : lcg x < 4294967296 := Nat.mod_lt _ (by decide)
def drawK (x n : Nat) : Nat := (lcg x >>> 16) % n
theorem drawK_lt {x n : Nat} (h : 0 < n) : drawK x n < n := Nat.mod_lt _ h
def swp (o : Nat → Nat) (i k : Nat) : Nat → Nat := upd (upd o i (o k)) k (o i)
theorem swp_eq (o : Nat → Nat) (i k : Nat) : upd (upd o k (o i)) i (o k) = swp o i k := by
  funext r
  unfold swp
  by_cases h1 : r = i
  · subst h1
    by_cases h2 : r = k
    · subst h2; simp only [upd_same]
    · rw [upd_same, upd_ne h2, upd_same]
  · by_cases h2 : r = k
    · subst h2; rw [upd_same, upd_ne h1, upd_same]
    · rw [upd_ne h1, upd_ne h2, upd_ne h2, upd_ne h1]
theorem swp_congr {y o : Nat → Nat} {n i k : Nat} (h : ∀ j, j < n → y j = o j) (hi : i < n) (hk : k < n) : ∀ j, j < n → swp y i k j = swp o i k j := by
  intro j hj
  unfold swp
  by_cases h2 : j = k
  · subst h2; rw [upd_same, upd_same]; exact h i hi
  · rw [upd_ne h2, upd_ne h2]
    by_cases h1 : j = i
    · subst h1; rw [upd_same, upd_same]; exact h k hk
    · rw [upd_ne h1, upd_ne h1]; exact h j hj
theorem swp_lt {o : Nat → Nat} {n i k B : Nat} (h : ∀ j, j < n → o j < B) (hi : i < n) (hk : k < n) : ∀ j, j < n → swp o i k j < B := by
  intro j hj
  unfold swp
  by_cases h2 : j = k
  · subst h2; rw [upd_same]; exact h i hi
  · rw [upd_ne h2]
    by_cases h1 : j = i
    · subst h1; rw [upd_same]; exact h k hk
    · rw [upd_ne h1]; exact h j hj
/-- behind r rounds: the order and the seed -/
def ordS (n x : Nat) : Nat → (Nat → Nat) × Nat
  | 0 => (fun j => j, x)
  | r + 1 => (swp (ordS n x r).1 (n - 1 - r) (drawK (ordS n x r).2 (n - 1 - r + 1)), lcg (ordS n x r).2)
def ordO (n x r : Nat) : Nat → Nat := (ordS n x r).1
def ordX (n x r : Nat) : Nat := (ordS n x r).2
theorem ordX_lt {n x : Nat} (hx : x < 4294967296) : ∀ r, ordX n x r < 4294967296
  | 0 => hx
  | r + 1 => lcg_lt _
theorem ordO_succ (n x r : Nat) : ordO n x (r + 1) = swp (ordO n x r) (n - 1 - r) (drawK (ordX n x r) (n - 1 - r + 1)) := rfl
theorem ordX_succ (n x r : Nat) : ordX n x (r + 1) = lcg (ordX n x r) := rfl
theorem ordO_lt {n x : Nat} : ∀ r, r ≤ n - 1 → ∀ j, j < n → ordO n x r j < n
  | 0, _ => fun j hj => hj
  | r + 1, h => fun j hj => by
    rw [ordO_succ]
    have hd := drawK_lt (x := ordX n x r) (n := n - 1 - r + 1) (by omega)
    exact swp_lt (ordO_lt r (by omega)) (by omega) (by omega) j hj
theorem ord_next {n x r : Nat} {y : Nat → Nat} (hy : ∀ j, j < n → y j = ordO n x r j) (hr : r < n - 1) : ∀ j, j < n → swp y (n - 1 - r) (drawK (ordX n x r) (n - 1 - r + 1)) j = ordO n x (r + 1) j := by
  rw [ordO_succ]
  have hd := drawK_lt (x := ordX n x r) (n := n - 1 - r + 1) (by omega)
  exact swp_congr hy (by omega) (by omega)
/-- the whole order -/
def oOf (n x : Nat) : Nat → Nat := ordO n x (n - 1)
def xOf (n x : Nat) : Nat := ordX n x (n - 1)
theorem xOf_lt {n x : Nat} (hx : x < 4294967296) : xOf n x < 4294967296 := ordX_lt hx _
theorem oOf_lt {n x : Nat} : ∀ j, j < n → oOf n x j < n := ordO_lt _ (Nat.le_refl _)
theorem oOf_of {n x r : Nat} {y : Nat → Nat} (hy : ∀ j, j < n → y j = ordO n x r j) (hr : r = n - 1) : arrU .i8 n y = arrU .i8 n (oOf n x) := by subst hr; exact arrU_congr hy
theorem xOf_of {n x r : Nat} (hr : r = n - 1) : ordX n x r = xOf n x := by subst hr; rfl
theorem id_snoc {y : Nat → Nat} {k : Nat} (h : ∀ j, j < k → y j = j) : ∀ j, j < k + 1 → upd y k k j = j := by
  intro j hj
  unfold upd
  split
  · rename_i e; exact e.symm
  · exact h j (by omega)
/-! ### parts in another order -/
def rdF (v : Nat) (o : Nat → Nat) : Nat → Nat
  | 0 => 0
  | k + 1 => rdF v o k ||| ((((v >>> o k) &&& 1) <<< k) % 256)
theorem rdF_lt (v : Nat) (o : Nat → Nat) : ∀ k, rdF v o k < 256
  | 0 => by show 0 < 256; decide
  | k + 1 => or_lt_u8 (rdF_lt v o k) (Nat.mod_lt _ (by decide))
/-! ### layers drawn -/
def sdK (n x : Nat) : Nat → Nat
  | 0 => x
  | k + 1 => xOf n (sdK n x k)
theorem sdK_lt {n x : Nat} (hx : x < 4294967296) : ∀ k, sdK n x k < 4294967296
  | 0 => hx
  | k + 1 => xOf_lt (sdK_lt hx k)
/-- cell k of layer r -/
def dwC (f : Nat → Nat → Nat) (n x r k : Nat) : Nat := rdF (f k r) (oOf n (sdK n x k)) n
theorem dwC_lt (f : Nat → Nat → Nat) (n x r k : Nat) : dwC f n x r k < 256 := rdF_lt _ _ _
theorem dw_cell {m i r0 : Nat} {C D : Nat → Nat → Nat} {v : Nat} (h : ∀ r, r < m → ∀ j, j < i → C r j = D r j) : ∀ r, r < m → ∀ j, j < i → upd C r0 (upd (C r0) i v) r j = D r j := by
  intro r hr j hj
  by_cases e : r = r0
  · subst e; rw [upd_same, upd_ne (by omega)]; exact h r hr j hj
  · rw [upd_ne e]; exact h r hr j hj
theorem dw_row {i r0 : Nat} {C D : Nat → Nat → Nat} {v : Nat} (h : ∀ r, r < r0 → C r i = D r i) (hv : v = D r0 i) : ∀ r, r < r0 + 1 → upd C r0 (upd (C r0) i v) r i = D r i := by
  intro r hr
  by_cases e : r = r0
  · subst e; rw [upd_same, upd_same]; exact hv
  · rw [upd_ne e]; exact h r (by omega)
theorem dw_next {m i r0 : Nat} {C D : Nat → Nat → Nat} (h : ∀ r, r < m → ∀ j, j < i → C r j = D r j) (h2 : ∀ r, r < r0 → C r i = D r i) (hr : ¬ r0 < m) : ∀ r, r < m → ∀ j, j < i + 1 → C r j = D r j := by
  intro r hm j hj
  by_cases e : j = i
  · subst e; exact h2 r (by omega)
  · exact h r hm j (by omega)
/-- what add does to layers -/
def setP (P : Nat → Int) (n : Nat) (p : Int) : Nat → Int := fun r => if r < n then p else P r
def setC (C : Nat → Nat → Nat) (n k : Nat) (v : Nat → Nat) : Nat → Nat → Nat := fun r => if r < n then upd (C r) k (v r) else C r
theorem setP_0 (P : Nat → Int) (p : Int) : P = setP P 0 p := by funext r; unfold setP; rw [if_neg (by omega)]
theorem setC_0 (C : Nat → Nat → Nat) (k : Nat) (v : Nat → Nat) : C = setC C 0 k v := by funext r; unfold setC; rw [if_neg (by omega)]
theorem setP_upd (P : Nat → Int) (n : Nat) (p : Int) : upd (setP P n p) n p = setP P (n + 1) p := by
  funext r; unfold upd setP
  by_cases e : r = n
  · subst e; rw [if_pos rfl, if_pos (by omega)]
  · rw [if_neg e]
    by_cases h : r < n
    · rw [if_pos h, if_pos (by omega)]
    · rw [if_neg h, if_neg (by omega)]
theorem setC_upd (C : Nat → Nat → Nat) (n k : Nat) (v : Nat → Nat) : upd (setC C n k v) n (upd (setC C n k v n) k (v n)) = setC C (n + 1) k v := by
  funext r
  by_cases e : r = n
  · subst e; rw [upd_same]; unfold setC; rw [if_neg (by omega), if_pos (by omega)]
  · rw [upd_ne e]; unfold setC
    by_cases h : r < n
    · rw [if_pos h, if_pos (by omega)]
    · rw [if_neg h, if_neg (by omega)]
theorem setC_lt {C : Nat → Nat → Nat} {v : Nat → Nat} {B : Nat} (h : ∀ i k, C i k < B) (hv : ∀ i, v i < B) (n k : Nat) : ∀ i j, setC C n k v i j < B := by
  intro i j; unfold setC; split
  · exact upd_lt (h i) (hv i) j
  · exact h i j
theorem setC_next {m k : Nat} {C D : Nat → Nat → Nat} {v : Nat → Nat} (h : ∀ r, r < m → ∀ j, j < k → C r j = D r j) (hv : ∀ r, r < m → v r = D r k) : ∀ r, r < m → ∀ j, j < k + 1 → setC C m k v r j = D r j := by
  intro r hr j hj
  unfold setC
  rw [if_pos hr]
  by_cases e : j = k
  · subst e; rw [upd_same]; exact hv r hr
  · rw [upd_ne e]; exact h r hr j (by omega)
theorem setP_next {P : Nat → Int} {m : Nat} {p : Int} : ∀ r, r < m → setP P m p r = p := fun r hr => if_pos hr
/-! ### copies -/
section
variable {P : Program} {n₀ : Nat} {ops : Array Oper} {Q : LPost} {rest : List Oper} {f : Env} {w w0 : World} {X : List Nat} {L : List Ent} {t : TypeId} {p : String} {af : Array Edge}
theorem Wl.copy {d : Tmp} {x y : Operand} {T T2 e T' : TypeId} {s by_ i b off n c m : Nat} {u : Value} {cs cs' vs : List Value} (st : St X w0 w L) (hT : tyS P T = some (e, s, by_))
    (hx : evO f x = some (.slice (some ⟨b, off, none⟩) n c)) (hi : L[i]? = some (b, cs, T')) (hy : evO f y = some u) (hlen : ∀ w', (Builtin.lenOf u).run P w' = .ok m w') (hcells : (Builtin.firstCells s (Nat.min m n) u).run P w = .ok vs.toArray w)
    (hone : ∀ v, v ∈ vs → v.oneCell' = true) (ho : off + vs.length ≤ cs.length) (hs : cs.take off ++ vs ++ cs.drop (off + vs.length) = cs')
    (k : ∀ w', St X w0 w' (L.set i (b, cs', T')) → Wl P n₀ ops Q rest ((d, .int .i64 ((Nat.min m n : Nat) : Int)) :: f) w') :
    Wl P n₀ ops Q (⟨some d, .call ⟨.builtin .copy, #[x, y], #[T, T2]⟩, t, p, af, none⟩ :: rest) f w := by
  obtain ⟨j, hu, hj, hjs, _⟩ := tyS_spec hT
  obtain ⟨w', hr, st2⟩ := run_storeCells (P := P) vs cs L w off 0 i st hi (by simpa using ho) hone
  rw [Nat.add_zero, hs] at st2
  have hrun : (Builtin.copy_ #[T, T2] t #[.slice (some ⟨b, off, none⟩) n c, u]).run P w = .ok (goInt (Nat.min m n)) w' := by
    simp [Builtin.copy_, run_und hu, run_size hj, hjs, hlen, hcells, hr]
  refine Wl.run (fun ρ hρ => ?_) (k w' st2)
  have hx := hρ _ _ hx
  have hy := hρ _ _ hy
  simp [execOp, resolve, invoke, builtin, hx, hy, hrun, goInt]
end
section
variable {P : Program} {f : Env} {x y : Operand} {T : TypeId} {k : IntKind}
/-- s[lo:] -/
theorem PR.sliceFrom {b off n c lo s e by_ : Nat} (hT : tyS P T = some (e, s, by_)) (hx : evO f x = some (.slice (some ⟨b, off, none⟩) n c)) (hy : evO f y = some (.int k (lo : Int))) (hl : lo ≤ n) (hc : lo < c) : PR P f (.slice T x (some y) none none) (.slice (some ⟨b, off + lo * s, none⟩) (n - lo) (c - lo)) := fun ρ hρ _ _ _ _ _ w => by
  have hx := hρ _ _ hx
  have hy := hρ _ _ hy
  obtain ⟨j, hu, hj, hn, _⟩ := tyS_spec hT
  have e1 : (Instr.sliceBound (.int k (lo : Int)) n .sliceB).run P w = .ok lo w := by simp [Instr.sliceBound, asIntOf, hl]
  have e2 : (Instr.sliceBounds true n c (some (.int k (lo : Int))) none none).run P w = .ok (lo, n, c) w := by simp [Instr.sliceBounds, e1]
  have hadd : (⟨b, off, none⟩ : Addr).add (lo * s) = ⟨b, off + lo * s, none⟩ := by unfold Addr.add; split <;> simp_all
  have hne : ¬ c = lo := by omega
  simp only [execOp, hx, Option.map_some, Option.map_none, hy]
  simp [Instr.sliceAt, Instr.slice, run_und hu, e2, run_size hj, hn, hne, hadd]
end
/-- m rows, the first q of which are the same one -/
def repP (q : Nat) (p : Int) : Nat → Int := fun i => if i < q then p else 0
def repC (q : Nat) (c : Nat → Nat) : Nat → Nat → Nat := fun i => if i < q then c else fun _ => 0
theorem rep_copy {m q r : Nat} {p : Int} {c : Nat → Nat} (h : q + r ≤ m) (h2 : r ≤ q) : (layS m (repP q p) (repC q c)).take (q * 65) ++ layS r (repP q p) (repC q c) ++ (layS m (repP q p) (repC q c)).drop (q * 65 + (layS r (repP q p) (repC q c)).length) = layS m (repP (q + r) p) (repC (q + r) c) := by
  have hlen : (layS r (repP q p) (repC q c)).length = r * 65 := recV_len (layS_row _ _) r
  rw [hlen]
  apply List.ext_getElem?
  intro j
  have hl1 : (layS m (repP q p) (repC q c)).length = m * 65 := recV_len (layS_row _ _) m
  have hl2 : (layS m (repP (q + r) p) (repC (q + r) c)).length = m * 65 := recV_len (layS_row _ _) m
  have hcell : ∀ (n : Nat) (P : Nat → Int) (C : Nat → Nat → Nat) (j : Nat), j < n * 65 → (layS n P C)[j]? = (layR P C (j / 65))[j % 65]? := by
    intro n P C j hj
    have hi : j / 65 < n := by omega
    have hm : j % 65 < 65 := Nat.mod_lt _ (by decide)
    have hlt : j % 65 < (layR P C (j / 65)).length := by rw [layS_row]; exact hm
    have := recV_get (layS_row P C) hi (List.getElem?_eq_getElem hlt)
    rw [show j / 65 * 65 + j % 65 = j by omega] at this
    rw [List.getElem?_eq_getElem hlt]
    exact this
  have hrow : ∀ i, i < q + r → layR (repP q p) (repC q c) (if i < q then i else i - q) = layR (repP (q + r) p) (repC (q + r) c) i := by
    intro i hi
    unfold layR repP repC
    split
    · rename_i h'; simp only [h', hi, if_true]
    · rename_i h'; simp only [show i - q < q by omega, hi, if_true]
  have hm : q * 65 + r * 65 ≤ m * 65 := by rw [← Nat.add_mul]; exact Nat.mul_le_mul_right 65 h
  by_cases h1 : j < q * 65
  · rw [List.getElem?_append_left (by simp only [List.length_append, List.length_take]; omega), List.getElem?_append_left (by rw [List.length_take]; omega), List.getElem?_take, if_pos h1, hcell m _ _ j (by omega), hcell m _ _ j (by omega)]
    have := hrow (j / 65) (by omega)
    rw [if_pos (by omega)] at this
    rw [this]
  · by_cases h3 : j < q * 65 + r * 65
    · rw [List.getElem?_append_left (by simp only [List.length_append, List.length_take]; omega), List.getElem?_append_right (by rw [List.length_take]; omega), List.length_take, Nat.min_eq_left (by omega), hcell r _ _ _ (by omega), hcell m _ _ j (by omega)]
      have := hrow (j / 65) (by omega)
      rw [if_neg (by omega)] at this
      rw [← this, show (j - q * 65) / 65 = j / 65 - q by omega, show (j - q * 65) % 65 = j % 65 by omega]
    · by_cases h4 : j < m * 65
      · rw [List.getElem?_append_right (by simp only [List.length_append, List.length_take]; omega), List.getElem?_drop, List.length_append, List.length_take, Nat.min_eq_left (by omega), hlen, show q * 65 + r * 65 + (j - (q * 65 + r * 65)) = j by omega, hcell m _ _ j h4, hcell m _ _ j h4]
        unfold layR repP repC
        rw [if_neg (by omega), if_neg (by omega), if_neg (by omega), if_neg (by omega)]
      · rw [List.getElem?_eq_none (by simp only [List.length_append, List.length_take, List.length_drop]; omega), List.getElem?_eq_none (by omega)]
theorem cp_end {m q : Nat} {p : Int} {c : Nat → Nat} (h : q = m) : layS m (repP q p) (repC q c) = layS m (fun _ => p) (fun _ => c) := layS_congr (fun i hi => by unfold repP; rw [if_pos (by omega)]) (fun i hi k _ => by unfold repC; rw [if_pos (by omega)])
theorem cp_cells {P : Program} {w : World} {A : Option Addr} {m cp : Nat} {p : Int} {c : Nat → Nat} (hm : 1 ≤ m) (h : RdS w A 1 (layS 1 (fun _ => p) (fun _ => c))) : (Builtin.firstCells 65 (Nat.min 1 m) (.slice A 1 cp)).run P w = .ok (layS 1 (repP m p) (repC m c)).toArray w := by
  obtain ⟨b, o, rfl, hr⟩ := h (by decide)
  rw [show Nat.min 1 m = 1 from Nat.min_eq_left hm]
  have e : layS 1 (repP m p) (repC m c) = layS 1 (fun _ => p) (fun _ => c) := layS_congr (fun i hi => by unfold repP; rw [if_pos (by omega)]) (fun i hi k _ => by unfold repC; rw [if_pos (by omega)])
  rw [e]
  refine run_firstCells_some w 65 1 ⟨b, o, none⟩ 1 cp _ (recV_len (layS_row _ _) 1) (fun j u hu => ?_)
  have hadd : (⟨b, o, none⟩ : Addr).add j = ⟨b, o + j, none⟩ := by unfold Addr.add; split <;> simp_all
  rw [hadd]; exact hr.2 j u hu
theorem cp_len {m : Nat} {p p2 : Nat → Int} {c c2 : Nat → Nat → Nat} (h : 1 ≤ m) : 0 + (layS 1 p c).length ≤ (layS m p2 c2).length := by
  have h1 : (layS 1 p c).length = 1 * 65 := recV_len (layS_row _ _) 1
  have h2 : (layS m p2 c2).length = m * 65 := recV_len (layS_row _ _) m
  omega
theorem cp_len2 {m q r : Nat} {p p2 : Nat → Int} {c c2 : Nat → Nat → Nat} (h : q + r ≤ m) : 0 + q * 65 + (layS r p c).length ≤ (layS m p2 c2).length := by
  have h1 : (layS r p c).length = r * 65 := recV_len (layS_row _ _) r
  have h2 : (layS m p2 c2).length = m * 65 := recV_len (layS_row _ _) m
  omega
theorem cp_first {m : Nat} {p : Int} {c : Nat → Nat} (h : 1 ≤ m) : (layS m (fun _ => 0) (fun _ _ => 0)).take 0 ++ layS 1 (repP m p) (repC m c) ++ (layS m (fun _ => 0) (fun _ _ => 0)).drop (0 + (layS 1 (repP m p) (repC m c)).length) = layS m (repP 1 p) (repC 1 c) := by
  have h1 : (layS 1 (repP m p) (repC m c)).length = 65 := recV_len (layS_row _ _) 1
  have e : layS 1 (repP m p) (repC m c) = layV p c := by
    rw [show layS 1 (repP m p) (repC m c) = layR (repP m p) (repC m c) 0 by simp [layS, recV]]
    unfold layR repP repC; rw [if_pos (by omega), if_pos (by omega)]
  have := layS_put (n := m) (i := 0) (u := p) (v := c) (p := fun _ => 0) (c := fun _ _ => 0) (by omega)
  rw [h1, e]
  simp only [Nat.zero_mul, Nat.add_zero, Nat.zero_add] at this ⊢
  rw [this]
  refine layS_congr (fun i hi => ?_) (fun i hi k _ => ?_)
  · unfold upd repP; by_cases h : i = 0
    · subst h; rfl
    · rw [if_neg h, if_neg (by omega)]
  · unfold upd repC; by_cases h : i = 0
    · subst h; rfl
    · rw [if_neg h, if_neg (by omega)]
theorem cp_more {m q r : Nat} {p : Int} {c : Nat → Nat} (h : q + r ≤ m ∧ r ≤ q) : (layS m (repP q p) (repC q c)).take (0 + q * 65) ++ layS r (repP q p) (repC q c) ++ (layS m (repP q p) (repC q c)).drop (0 + q * 65 + (layS r (repP q p) (repC q c)).length) = layS m (repP (q + r) p) (repC (q + r) c) := by
  rw [Nat.zero_add]; exact rep_copy h.1 h.2
theorem cp_min {q r : Nat} (h : 1 ≤ q) (h2 : 1 ≤ r) : Nat.min q r ≤ r ∧ 1 ≤ Nat.min q r ∧ Nat.min q r ≤ q := ⟨Nat.min_le_right _ _, by rw [Nat.le_min]; omega, Nat.min_le_left _ _⟩
theorem layS_pre {r m : Nat} {p : Nat → Int} {c : Nat → Nat → Nat} (h : r ≤ m) : ((layS m p c).drop 0).take (r * 65) = layS r p c := by
  have := recV_mid (layS_row p c) 0 r m (by omega)
  simp only [Nat.zero_mul, Nat.zero_add] at this
  exact this
theorem cp_cells2 {P : Program} {X : List Nat} {w w0 : World} {L : List Ent} {i b m q r cp : Nat} {p : Nat → Int} {c : Nat → Nat → Nat} {T : TypeId} (hr : r ≤ q ∧ q ≤ m) (st : St X w0 w L) (hi : L[i]? = some (b, layS m p c, T)) : (Builtin.firstCells 65 r (.slice (some ⟨b, 0, none⟩) q cp)).run P w = .ok (layS r p c).toArray w := by
  have h := st.rdA hi (layS_pre (r := r) (m := m) (p := p) (c := c) (by omega))
  refine run_firstCells_some w 65 r ⟨b, 0, none⟩ q cp _ (recV_len (layS_row _ _) r) (fun j u hu => ?_)
  have hadd : (⟨b, 0, none⟩ : Addr).add j = ⟨b, 0 + j, none⟩ := by unfold Addr.add; split <;> simp_all
  rw [hadd]; exact h.2 j u hu
theorem nat_lt1 {a : Nat} (h : a < 256) : ∀ i, [a].getD i 0 < 256
  | 0 => h
  | _ + 1 => by show 0 < 256; decide
theorem nat_lt2 {a b : Nat} (h : a < 256) (h2 : b < 256) : ∀ i, [a, b].getD i 0 < 256
  | 0 => h
  | 1 => h2
  | _ + 2 => by show 0 < 256; decide
theorem nat_lt3 {a b c : Nat} (h : a < 256) (h2 : b < 256) (h3 : c < 256) : ∀ i, [a, b, c].getD i 0 < 256
  | 0 => h
  | 1 => h2
  | 2 => h3
  | _ + 3 => by show 0 < 256; decide
theorem lit1_eq (p : Int) (c : Nat → Nat) : layS 1 (fun i => [p].getD i 0) (fun i => [c].getD i (fun _ => 0)) = layS 1 (fun _ => p) (fun _ => c) := by
  refine layS_congr (fun i hi => ?_) (fun i hi k _ => ?_)
  · obtain rfl : i = 0 := by omega
    rfl
  · obtain rfl : i = 0 := by omega
    rfl
theorem layV_eq {p q : Int} {c d : Nat → Nat} (hp : p = q) (h : ∀ j, j < 64 → c j = d j) : Value.agg (layV p c).toArray = Value.agg (layV q d).toArray := by rw [layV_congr hp h]
theorem tup_2 {a b a' b' : Value} (h1 : a = a') (h2 : b = b') : Value.tuple #[a, b] = Value.tuple #[a', b'] := by rw [h1, h2]
theorem tup_3 {a b c a' b' c' : Value} (h1 : a = a') (h2 : b = b') (h3 : c = c') : Value.tuple #[a, b, c] = Value.tuple #[a', b', c'] := by rw [h1, h2, h3]
theorem tup_4 {a b c d a' b' c' d' : Value} (h1 : a = a') (h2 : b = b') (h3 : c = c') (h4 : d = d') : Value.tuple #[a, b, c, d] = Value.tuple #[a', b', c', d'] := by rw [h1, h2, h3, h4]
/-- the second of two layers -/
def otF (b : Bool) : Nat := bif b then 2 else 1
theorem otF_lt (b : Bool) : otF b < 256 := by cases b <;> decide
def bitB (p k : Nat) : Bool := decide ((p >>> k) &&& 1 = 1)
def triF (p q : Nat) (k r : Nat) : Nat := [1, otF (bitB p k), otF (bitB q k)].getD r 0
theorem triF_lt (p q : Nat) (k r : Nat) : triF p q k r < 256 := nat_lt3 (by decide) (otF_lt _) (otF_lt _) r
/-! ### covers -/
def cvI (a b s : Bool) : Nat := (bif a then 1 else 0) + (bif b then 2 else 0) + (bif s then 4 else 0)
def cvA (a b s : Bool) : Nat := [3, 7, 3, 7, 3, 7, 9, 7].getD (cvI a b s) 0
def cvB (a b s : Bool) : Nat := [5, 3, 7, 7, 12, 9, 7, 14].getD (cvI a b s) 0
theorem cvA_lt (a b s : Bool) : cvA a b s < 256 := by cases a <;> cases b <;> cases s <;> decide
theorem cvB_lt (a b s : Bool) : cvB a b s < 256 := by cases a <;> cases b <;> cases s <;> decide
def cvT (a b s : Bool) : Nat → Nat
  | 0 => 0
  | k + 1 => bif [s, a, b].getD k false then cvT a b s k ||| (1 <<< k) else cvT a b s k
theorem cvT_lt (a b s : Bool) {k : Nat} (h : k ≤ 3) : cvT a b s k < 8 := by
  rcases (show k = 0 ∨ k = 1 ∨ k = 2 ∨ k = 3 by omega) with rfl | rfl | rfl | rfl <;> cases a <;> cases b <;> cases s <;> decide
def tbA : Nat → Nat := fun i => [3, 3, 7, 7, 3, 9, 7, 7].getD i 0
def tbB : Nat → Nat := fun i => [5, 12, 3, 9, 7, 7, 7, 14].getD i 0
theorem cv_end (a b s : Bool) : tbA (cvT a b s 3) = cvA a b s ∧ tbB (cvT a b s 3) = cvB a b s := by cases a <;> cases b <;> cases s <;> decide
def covF (p q z : Nat) (k r : Nat) : Nat := [cvA (bitB p k) (bitB q k) (bitB z k), cvB (bitB p k) (bitB q k) (bitB z k)].getD r 0
theorem covF_lt (p q z : Nat) (k r : Nat) : covF p q z k r < 256 := nat_lt2 (cvA_lt _ _ _) (cvB_lt _ _ _) r
theorem cvT_t {a b s : Bool} {k v : Nat} (hv : v = cvT a b s k) (h : [s, a, b].getD k false = true) : v ||| (1 <<< k) = cvT a b s (k + 1) := by rw [cvT, h, hv]; rfl
theorem cvT_f {a b s : Bool} {k v : Nat} (hv : v = cvT a b s k) (h : [s, a, b].getD k false = false) : v = cvT a b s (k + 1) := by rw [cvT, h, hv]; rfl
/-! ### shades -/
def maxF (c : Nat → Nat) : Nat → Nat
  | 0 => c 0
  | k + 1 => max (maxF c k) (c (k + 1))
theorem maxF_lt {c : Nat → Nat} {B : Nat} (h : ∀ k, c k < B) : ∀ k, maxF c k < B
  | 0 => h 0
  | k + 1 => by have := maxF_lt h k; have := h (k + 1); unfold maxF; omega
theorem maxF_le {c : Nat → Nat} {B : Nat} : ∀ k, maxF c k ≤ B ↔ ∀ j, j ≤ k → c j ≤ B
  | 0 => ⟨fun h j hj => by obtain rfl : j = 0 := by omega
                           exact h, fun h => h 0 (Nat.le_refl _)⟩
  | k + 1 => by
    unfold maxF
    rw [Nat.max_le, maxF_le k]
    constructor
    · rintro ⟨h1, h2⟩ j hj
      by_cases e : j = k + 1
      · subst e; exact h2
      · exact h1 j (by omega)
    · intro h; exact ⟨fun j hj => h j (by omega), h (k + 1) (Nat.le_refl _)⟩
def shOk (c : Nat → Nat) : Bool := (List.range 64).all fun k => decide (c k ≤ 4)
theorem shOk_iff {c : Nat → Nat} : shOk c = true ↔ ∀ k, k < 64 → c k ≤ 4 := by simp [shOk, List.all_eq_true]
theorem shOk_f {c : Nat → Nat} {k : Nat} (hk : k < 64) (h : ¬ c k ≤ 4) : false = shOk c := by
  symm; rw [Bool.eq_false_iff, Ne, shOk_iff]; exact fun q => h (q k hk)
theorem shOk_t {c : Nat → Nat} (h : ∀ k, k < 64 → c k ≤ 4) : true = shOk c := (shOk_iff.2 h).symm
theorem shOk_spec {c : Nat → Nat} (h : shOk c = true) : ∀ k, k < 64 → c k ≤ 4 := shOk_iff.1 h
theorem shOk_max {c : Nat → Nat} : decide (((maxF c (64 - 1) : Nat) : Int) ≤ 4) = shOk c := by
  rw [Bool.eq_iff_iff, decide_eq_true_eq, shOk_iff]
  have h := maxF_le (c := c) (B := 4) 63
  constructor
  · intro q k hk; exact h.1 (by have : 64 - 1 = 63 := rfl; rw [this] at q; omega) k (by omega)
  · intro q; have := h.2 (fun j hj => q j (by omega)); show ((maxF c 63 : Nat) : Int) ≤ 4; omega
attribute [irreducible] shOk
theorem shl_f {k : Bool} {f g : Nat → Nat} {s : Nat} (h : k = false) : Value.tuple #[.agg (layV 0 fun _ => 0).toArray, .agg (layV 0 fun _ => 0).toArray, .int .u32 0, .int .i64 1] = .tuple #[.agg (layV (selI (bif k then 0 else 1) 8) (selF (bif k then 0 else 1) f)).toArray, .agg (layV (selI (bif k then 0 else 1) 8) (selF (bif k then 0 else 1) g)).toArray, .int .u32 ((selN (bif k then 0 else 1) s : Nat) : Int), .int .i64 (((bif k then 0 else 1 : Nat)) : Int)] := by subst h; rfl
theorem shl_t {k : Bool} {f g c d : Nat → Nat} {s s' : Nat} {p q : Int} (h : k = true) (hp : p = 8) (hc : ∀ j, j < 64 → c j = f j) (hq : q = 8) (hd : ∀ j, j < 64 → d j = g j) (hs : s' = s) : Value.tuple #[.agg (layV p c).toArray, .agg (layV q d).toArray, .int .u32 (s' : Int), .int .i64 0] = .tuple #[.agg (layV (selI (bif k then 0 else 1) 8) (selF (bif k then 0 else 1) f)).toArray, .agg (layV (selI (bif k then 0 else 1) 8) (selF (bif k then 0 else 1) g)).toArray, .int .u32 ((selN (bif k then 0 else 1) s : Nat) : Int), .int .i64 (((bif k then 0 else 1 : Nat)) : Int)] := by
  subst h; subst hs; rw [layV_congr hp hc, layV_congr hq hd]; rfl
def shV (s : Nat) : Nat := [15, 23, 51, 113, 240].getD s 0
theorem shV_lt (s : Nat) : shV s < 256 := by
  match s with
  | 0 | 1 | 2 | 3 | 4 => decide
  | _ + 5 => show 0 < 256; decide
def shaF (c : Nat → Nat) (k r : Nat) : Nat := [15, shV (c k)].getD r 0
theorem shaF_lt (c : Nat → Nat) (k r : Nat) : shaF c k r < 256 := nat_lt2 (by decide) (shV_lt _) r
def colF (p : Nat) (k r : Nat) : Nat := [1, otF (bitB p k)].getD r 0
theorem colF_lt (p : Nat) (k r : Nat) : colF p k r < 256 := nat_lt2 (by decide) (otF_lt _) r
/-! ### six layers -/
def sxK (x : Nat) : Nat → Nat
  | 0 => x
  | k + 1 => sdK 2 (sxK x k) 64
theorem sxK_lt {x : Nat} (hx : x < 4294967296) : ∀ k, sxK x k < 4294967296
  | 0 => hx
  | k + 1 => sdK_lt (sxK_lt hx k) 64
def clL (P : Nat → Nat) (x u v : Nat) : Nat := dwC (colF (P (u / 2))) 2 (sxK x (u / 2)) (u % 2) v
theorem clL_lt (P : Nat → Nat) (x : Nat) : ∀ u v, clL P x u v < 256 := fun _ _ => dwC_lt _ _ _ _ _
theorem col_p {op : Nat → Int} {k : Nat} {p q : Int} (h : ∀ u, u < 2 * k → op u = 2) (hp : p = 2) (hq : q = 2) : ∀ u, u < 2 * (k + 1) → upd (upd op (2 * k) p) (2 * k + 1) q u = 2 := by
  intro u hu
  by_cases h1 : u = 2 * k + 1
  · subst h1; rw [upd_same]; exact hq
  · rw [upd_ne h1]
    by_cases h2 : u = 2 * k
    · subst h2; rw [upd_same]; exact hp
    · rw [upd_ne h2]; exact h u (by omega)
theorem col_c {oc : Nat → Nat → Nat} {P : Nat → Nat} {x k : Nat} {c d : Nat → Nat} (h : ∀ u, u < 2 * k → ∀ v, v < 64 → oc u v = clL P x u v) (hc : ∀ v, v < 64 → c v = dwC (colF (P k)) 2 (sxK x k) 0 v) (hd : ∀ v, v < 64 → d v = dwC (colF (P k)) 2 (sxK x k) 1 v) : ∀ u, u < 2 * (k + 1) → ∀ v, v < 64 → upd (upd oc (2 * k) c) (2 * k + 1) d u v = clL P x u v := by
  intro u hu v hv
  by_cases h1 : u = 2 * k + 1
  · subst h1; rw [upd_same, hd v hv]; unfold clL; rw [show (2 * k + 1) / 2 = k by omega, show (2 * k + 1) % 2 = 1 by omega]
  · rw [upd_ne h1]
    by_cases h2 : u = 2 * k
    · subst h2; rw [upd_same, hc v hv]; unfold clL; rw [show (2 * k) / 2 = k by omega, show (2 * k) % 2 = 0 by omega]
    · rw [upd_ne h2]; exact h u (by omega) v hv
/-! ### what a lent block's neighbours do -/
theorem St.rdF {X : List Nat} {w0 w w' : World} {L : List Ent} {i j b b2 : Nat} {cs cs2 : List Value} {T T2 : TypeId} (st : St X w0 w L) (hi : L[i]? = some (b, cs, T)) (hj : L[j]? = some (b2, cs2, T2)) (hne : i ≠ j) (h : Fr [b2] w w') : RdA w' b 0 cs := by
  have hbb : b ≠ b2 := by
    obtain ⟨h1, e1⟩ := List.getElem?_eq_some_iff.1 hi
    obtain ⟨h2, e2⟩ := List.getElem?_eq_some_iff.1 hj
    rcases Nat.lt_or_gt_of_ne hne with q | q
    · have := List.pairwise_iff_getElem.1 st.apart i j h1 h2 q; rw [e1, e2] at this; exact this
    · have := List.pairwise_iff_getElem.1 st.apart j i h2 h1 q; rw [e1, e2] at this; exact fun z => this z.symm
  have hlt := (st.ents _ (List.mem_of_getElem? hi)).2.1
  simp only at hlt
  refine ⟨Nat.lt_of_lt_of_le hlt h.size, fun q u hu => ?_⟩
  have hb := h.block b hlt (by simpa using hbb)
  rw [Nat.zero_add, World.cell?_of_block (a := ⟨b, q, none⟩) hb]
  exact st.cell hi hu
end Go.Proofs.Ytagghfllgafmgaa
