/-
  Choices that are read from bytes; layers that are compared with themselves.
-/
import Derived.Test.YtagghfllgafmgaaDraw
import Derived.Test.YtagghfllgafmgaaEqF
namespace Go.Proofs.Ytagghfllgafmgaa
set_option linter.unusedVariables false
set_option linter.unusedSimpArgs false
open Go.RowKit
/-! ### cells that are read only, apart from a block that is lent -/
def RdAN (w : World) (b o : Nat) (vs : List Value) (x : Nat) : Prop := RdA w b o vs ∧ b ≠ x
def RdN (w : World) (A : Option Addr) (n : Nat) (vs : List Value) (x : Nat) : Prop := 0 < n → ∃ b o, A = some ⟨b, o, none⟩ ∧ RdAN w b o vs x
theorem RdA.fr {w w' : World} {b o x : Nat} {vs : List Value} (h : RdA w b o vs) (hne : b ≠ x) (hf : Fr [x] w w') : RdA w' b o vs :=
  ⟨Nat.lt_of_lt_of_le h.1 hf.size, fun j u hu => by
    have hb := hf.block b h.1 (by simpa using hne)
    rw [World.cell?_of_block (a := ⟨b, o + j, none⟩) hb]
    exact h.2 j u hu⟩
theorem RdAN.st {w0 w : World} {L : List Ent} {b o x : Nat} {vs : List Value} (h : RdAN w0 b o vs x) (st : St [x] w0 w L) : RdA w b o vs := h.1.fr h.2 st.fr
theorem RdN.st {w0 w : World} {L : List Ent} {A : Option Addr} {n x : Nat} {vs : List Value} (h : RdN w0 A n vs x) (st : St [x] w0 w L) : RdN w A n vs x := fun hn => by
  obtain ⟨b, o, e, h1⟩ := h hn
  exact ⟨b, o, e, h1.st st, h1.2⟩
theorem RdS.ne {w0 w : World} {L : List Ent} {A : Option Addr} {n i x : Nat} {vs cs : List Value} {T : TypeId} (h : RdS w0 A n vs) (st : St [] w0 w L) (hi : L[i]? = some (x, cs, T)) : RdN w A n vs x := fun hn => by
  obtain ⟨b, o, e, h1⟩ := h hn
  refine ⟨b, o, e, h1.st st, ?_⟩
  have := (st.ents _ (List.mem_of_getElem? hi)).1
  simp only [List.not_mem_nil, or_false] at this
  have := h1.1
  omega
theorem pk_lt {x m : Nat} (h : ¬ ((m : Nat) : Int) ≤ 1) : x % m < m ∨ (x % m = 0 ∧ m ≤ 1) := .inl (Nat.mod_lt _ (by omega))
theorem fit255 {x : Nat} (h : x ≤ 255) : fitI .i64 ((x : Nat) : Int) := by simp only [fitI]; omega
/-! ### the same on both sides -/
theorem flat_layV {p : Int} {c : Nat → Nat} (hp : fitI .i8 p) (hc : ∀ k, c k < 256) : Flat (layV p c) (.i8 :: List.replicate 64 .u8) := by
  unfold layV
  refine Flat.mk hp ?_
  refine ⟨by simp [arrU], fun j k' hj => ?_⟩
  have hjn : j < 64 := by
    rcases Nat.lt_or_ge j 64 with h | h
    · exact h
    · rw [List.getElem?_eq_none (by simpa using h)] at hj; cases hj
  rw [List.getElem?_replicate, if_pos hjn] at hj
  obtain rfl : IntKind.u8 = k' := by injection hj
  refine ⟨_, arrU_get hjn, ?_⟩
  have := hc j
  simp only [fitI]; omega
section
variable {P : Program} {f : Env} {T T2 : TypeId} {x y : Operand} {ks : List IntKind}
theorem PR.neqR {cs : List Value} (hT : eqB P T ks = true) (hx : evO f x = some (.agg cs.toArray)) (hy : evO f y = some (.agg cs.toArray)) (h : Flat cs ks) : PR P f (.binOp .neq T x y T2) (.bool false) := by
  have := PR.neqF (T2 := T2) (q := True) hT hx hy h h (by simp)
  simpa using this
theorem PR.eqlR {cs : List Value} (hT : eqB P T ks = true) (hx : evO f x = some (.agg cs.toArray)) (hy : evO f y = some (.agg cs.toArray)) (h : Flat cs ks) : PR P f (.binOp .eql T x y T2) (.bool true) := by
  have := PR.eqlF (T2 := T2) (q := True) hT hx hy h h (by simp)
  simpa using this
end
/-! ### a pointer to a new block -/
def RetP (w : World) (T : TypeId) (cs : List Value) : Ending → World → Prop := fun e w' => ∃ b, e = .returned (.pointer (some ⟨b, 0, none⟩)) ∧ St [] w w' [(b, cs, T)]
section
variable {P : Program} {n₀ : Nat} {ops : Array Oper} {Q : LPost} {rest : List Oper} {f : Env} {w w0 : World} {X : List Nat} {L : List Ent} {t : TypeId} {p : String} {af : Array Edge}
theorem Wl.callPn {d : Tmp} {k : FuncId} {os_ : List Operand} {ts : Array TypeId} {vs cs : List Value} {T : TypeId} (st : St X w0 w L) (hc : CE P k vs w (RetP w T cs)) (ha : evL f os_ = some vs)
    (kk : ∀ b w', St X w0 w' ((b, cs, T) :: dropFrom [] 0 L) → Wl P n₀ ops Q rest ((d, .pointer (some ⟨b, 0, none⟩)) :: f) w') : Wl P n₀ ops Q (⟨some d, .call ⟨.value (.func k), os_.toArray, ts⟩, t, p, af, none⟩ :: rest) f w :=
  Wl.call hc ha fun _ w' ⟨b, he, hs⟩ => ⟨_, he, kk b w' (st.lent [] hs rfl)⟩
end
end Go.Proofs.Ytagghfllgafmgaa
