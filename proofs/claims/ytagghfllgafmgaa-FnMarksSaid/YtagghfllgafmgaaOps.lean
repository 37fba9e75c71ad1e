/-
  One rule for each operation, over frames as lists. Nothing here speaks of one program.
-/
import Derived.Test.YtagghfllgafmgaaEng
namespace Go.Proofs.Ytagghfllgafmgaa
set_option linter.unusedVariables false
set_option linter.unusedSimpArgs false
open Go.RowKit
variable {P : Program}

/-! ### what is asked of types: computed once by the kernel -/
def tyA (P : Program) (T : TypeId) : Option (Bool × Nat) :=
  match P.underlying T, P.info? T with
  | some d, some i => some ((match d with | .struct _ | .array _ _ => true | _ => false), i.size)
  | _, _ => none
def tyI (P : Program) (T : TypeId) : Option IntKind := match P.underlying T with | some (.int k) => some k | _ => none
def tyF (P : Program) (T : TypeId) (i : Nat) : Option (Nat × Bool × Nat) :=
  match P.underlying T with
  | some (.struct fs) => match fs[i]? with
    | some f => match tyA P f.type with
      | some (a, n) => if n = 0 then none else some (f.offset, a, n)
      | none => none
    | none => none
  | _ => none
def tyE (P : Program) (T : TypeId) : Option (Nat × Bool × Nat) :=
  match P.underlying T with
  | some (.array n e) => match tyA P e with | some (a, s) => some (n, a, s) | none => none
  | _ => none
def tyS (P : Program) (T : TypeId) : Option (TypeId × Nat × Nat) :=
  match P.underlying T with
  | some (.slice e) => match P.info? e with | some i => some (e, i.size, i.bytes) | none => none
  | _ => none
def tyZ (P : Program) (T : TypeId) : Option Value := match P.info? T with | some i => i.zero | none => none

section
variable {T : TypeId} {w : World}
theorem run_und {d : TypeDesc} (h : P.underlying T = some d) : (underlying T).run P w = .ok d w := by simp [underlying, h]
theorem run_size {i : TypeInfo} (h : P.info? T = some i) : (sizeOf T).run P w = .ok i.size w := by simp [sizeOf, typeInfo, h]
theorem tyA_spec {a : Bool} {n : Nat} (h : tyA P T = some (a, n)) : (isAgg T).run P w = .ok a w ∧ (sizeOf T).run P w = .ok n w := by
  unfold tyA at h
  cases hu : P.underlying T with
  | none => simp [hu] at h
  | some d =>
    cases hi : P.info? T with
    | none => simp [hu, hi] at h
    | some i =>
      simp only [hu, hi, Option.some.injEq, Prod.mk.injEq] at h
      refine ⟨?_, by rw [run_size hi, h.2]⟩
      unfold isAgg
      rw [Sem.run_bind, run_und hu, Result.andThen_ok, ← h.1]
      cases d <;> rfl
theorem tyZ_spec {z : Value} (h : tyZ P T = some z) : (zeroValue T).run P w = .ok z w := by
  unfold tyZ at h
  cases hi : P.info? T with
  | none => simp [hi] at h
  | some i =>
    simp only [hi] at h
    simp [zeroValue, typeInfo, hi, h]
theorem tyI_spec {k : IntKind} (h : tyI P T = some k) : P.underlying T = some (.int k) := by
  unfold tyI at h
  split at h
  · rename_i k' hk; simp only [Option.some.injEq] at h; rw [hk, h]
  · cases h
theorem tyF_spec {i off n : Nat} {a : Bool} (h : tyF P T i = some (off, a, n)) : ∃ fs f, P.underlying T = some (.struct fs) ∧ fs[i]? = some f ∧ f.offset = off ∧ tyA P f.type = some (a, n) ∧ n ≠ 0 := by
  unfold tyF at h
  split at h
  · rename_i fs hfs
    split at h
    · rename_i f hf
      split at h
      · rename_i a' n' ha
        split at h
        · cases h
        · rename_i hn
          simp only [Option.some.injEq, Prod.mk.injEq] at h
          obtain ⟨h1, h2, h3⟩ := h
          subst h2; subst h3
          exact ⟨fs, f, hfs, hf, h1, ha, hn⟩
      · cases h
    · cases h
  · cases h
theorem tyE_spec {len n : Nat} {a : Bool} (h : tyE P T = some (len, a, n)) : ∃ e, P.underlying T = some (.array len e) ∧ tyA P e = some (a, n) := by
  unfold tyE at h
  split at h
  · rename_i m e he
    split at h
    · rename_i a' s' ha
      simp only [Option.some.injEq, Prod.mk.injEq] at h
      obtain ⟨h1, h2, h3⟩ := h
      subst h1; subst h2; subst h3
      exact ⟨e, he, ha⟩
    · cases h
  · cases h
theorem tyS_spec {e : TypeId} {sz by_ : Nat} (h : tyS P T = some (e, sz, by_)) : ∃ i, P.underlying T = some (.slice e) ∧ P.info? e = some i ∧ i.size = sz ∧ i.bytes = by_ := by
  unfold tyS at h
  split at h
  · rename_i e' he
    split at h
    · rename_i i hi
      simp only [Option.some.injEq, Prod.mk.injEq] at h
      obtain ⟨h1, h2, h3⟩ := h
      subst h1
      exact ⟨i, he, hi, h2, h3⟩
    · cases h
  · cases h
end

/-! ### operations that only compute -/
/-- Operands are read as told. -/
def Val (f : Env) (ρ : Operand → Value) : Prop := ∀ x v, evO f x = some v → ρ x = v
theorem Agr.val {n : Nat} {a : Act} {f : Env} (h : Agr n a f) : Val f a.eval := fun _ _ hx => h.eval hx
/-- The operation yields v in every world, and leaves it. -/
def PR (P : Program) (f : Env) (o : Op) (v : Value) : Prop :=
  ∀ (ρ : Operand → Value), Val f ρ → ∀ (d : Option Tmp) (t : TypeId) (p : String) (af : Array Edge) (g : Option (Nat × Bool)) (w : World), (execOp ρ ⟨d, o, t, p, af, g⟩).run P w = .ok (.value v) w

def fitI : IntKind → Int → Prop
  | .i8, n => -128 ≤ n ∧ n ≤ 127
  | .i16, n => -32768 ≤ n ∧ n ≤ 32767
  | .i32, n => -2147483648 ≤ n ∧ n ≤ 2147483647
  | .i64, n => -9223372036854775808 ≤ n ∧ n ≤ 9223372036854775807
  | .u8, n => 0 ≤ n ∧ n ≤ 255
  | .u16, n => 0 ≤ n ∧ n ≤ 65535
  | .u32, n => 0 ≤ n ∧ n ≤ 4294967295
  | .u64, n => 0 ≤ n ∧ n ≤ 18446744073709551615
theorem wrap_fit {k : IntKind} {n : Int} (h : fitI k n) : k.wrap n = n := by
  cases k <;> simp only [fitI] at h <;> simp only [IntKind.wrap, IntKind.bits, IntKind.signed] <;> simp <;> omega
/-- the unsigned kinds' bound -/
def uB : IntKind → Nat | .u8 => 256 | .u16 => 65536 | .u32 => 4294967296 | .u64 => 18446744073709551616 | _ => 0
theorem wrap_u {k : IntKind} (n : Nat) (hk : 0 < uB k) : k.wrap (n : Int) = ((n % uB k : Nat) : Int) := by
  cases k <;> simp only [uB] at hk <;> first | omega | (simp only [IntKind.wrap, IntKind.bits, IntKind.signed, uB]; simp)
theorem uB_pow {k : IntKind} (hk : 0 < uB k) : uB k = 2 ^ k.bits := by
  cases k <;> simp only [uB] at hk <;> first | omega | rfl

def evL (f : Env) : List Operand → Option (List Value)
  | [] => some []
  | x :: xs => match evO f x, evL f xs with
    | some v, some vs => some (v :: vs)
    | _, _ => none
theorem Val.list {f : Env} {ρ : Operand → Value} (h : Val f ρ) : ∀ {xs : List Operand} {vs : List Value}, evL f xs = some vs → xs.map ρ = vs
  | [], vs, e => by simp only [evL, Option.some.injEq] at e; subst e; rfl
  | x :: xs, vs, e => by
    unfold evL at e
    split at e
    · rename_i v us hv hus
      simp only [Option.some.injEq] at e
      subst e
      simp only [List.map_cons, h _ _ hv, h.list hus]
    · cases e

section
variable {f : Env} {x y : Operand} {T T2 : TypeId}
theorem PR.moveI {k : IntKind} {n : Int} (h : evO f x = some (.int k n)) : PR P f (.move x) (.int k n) := fun ρ hρ _ _ _ _ _ w => by
  have h := hρ _ _ h
  rw [← h]; rfl
theorem PR.moveB {b : Bool} (h : evO f x = some (.bool b)) : PR P f (.move x) (.bool b) := fun ρ hρ _ _ _ _ _ w => by
  have h := hρ _ _ h
  rw [← h]; rfl
theorem PR.moveP {p : Option Addr} (h : evO f x = some (.pointer p)) : PR P f (.move x) (.pointer p) := fun ρ hρ _ _ _ _ _ w => by
  have h := hρ _ _ h
  rw [← h]; rfl
theorem PR.moveL {p : Option Addr} {n c : Nat} (h : evO f x = some (.slice p n c)) : PR P f (.move x) (.slice p n c) := fun ρ hρ _ _ _ _ _ w => by
  have h := hρ _ _ h
  rw [← h]; rfl
theorem PR.moveA {l : Array Value} (h : evO f x = some (.agg l)) : PR P f (.move x) (.agg l) := fun ρ hρ _ _ _ _ _ w => by
  have h := hρ _ _ h
  rw [← h]; rfl
theorem PR.moveS {s : ByteArray} (h : evO f x = some (.string s)) : PR P f (.move x) (.string s) := fun ρ hρ _ _ _ _ _ w => by
  have h := hρ _ _ h
  rw [← h]; rfl
theorem PR.moveF {a : Fn} {b c : Array Value} (h : evO f x = some (.func a b c)) : PR P f (.move x) (.func a b c) := fun ρ hρ _ _ _ _ _ w => by
  have h := hρ _ _ h
  rw [← h]; rfl
theorem PR.moveV (v : Value) (h : evO f x = some (v)) : PR P f (.move x) v := fun ρ hρ _ _ _ _ _ w => by
  have h := hρ _ _ h
  rw [← h]; rfl
theorem PR.assI {k : IntKind} {n : Int} (h : evO f x = some (.int k n)) : PR P f (.assign x) (.int k n) := fun ρ hρ _ _ _ _ _ w => by
  have h := hρ _ _ h
  rw [← h]; rfl
theorem PR.assB {b : Bool} (h : evO f x = some (.bool b)) : PR P f (.assign x) (.bool b) := fun ρ hρ _ _ _ _ _ w => by
  have h := hρ _ _ h
  rw [← h]; rfl
theorem PR.assP {p : Option Addr} (h : evO f x = some (.pointer p)) : PR P f (.assign x) (.pointer p) := fun ρ hρ _ _ _ _ _ w => by
  have h := hρ _ _ h
  rw [← h]; rfl
theorem PR.assL {p : Option Addr} {n c : Nat} (h : evO f x = some (.slice p n c)) : PR P f (.assign x) (.slice p n c) := fun ρ hρ _ _ _ _ _ w => by
  have h := hρ _ _ h
  rw [← h]; rfl
theorem PR.assA {l : Array Value} (h : evO f x = some (.agg l)) : PR P f (.assign x) (.agg l) := fun ρ hρ _ _ _ _ _ w => by
  have h := hρ _ _ h
  rw [← h]; rfl
theorem PR.assS {s : ByteArray} (h : evO f x = some (.string s)) : PR P f (.assign x) (.string s) := fun ρ hρ _ _ _ _ _ w => by
  have h := hρ _ _ h
  rw [← h]; rfl
theorem PR.assF {a : Fn} {b c : Array Value} (h : evO f x = some (.func a b c)) : PR P f (.assign x) (.func a b c) := fun ρ hρ _ _ _ _ _ w => by
  have h := hρ _ _ h
  rw [← h]; rfl
theorem PR.assV (v : Value) (h : evO f x = some (v)) : PR P f (.assign x) v := fun ρ hρ _ _ _ _ _ w => by
  have h := hρ _ _ h
  rw [← h]; rfl
theorem PR.pickT {c : Operand} (v : Value) (hc : evO f c = some (.bool true)) (h : evO f x = some (v)) : PR P f (.pick c x y) v := fun ρ hρ _ _ _ _ _ w => by
  have hc := hρ _ _ hc
  have h := hρ _ _ h
  simp [execOp, hc, asBool, h]
theorem PR.pickF {c : Operand} (v : Value) (hc : evO f c = some (.bool false)) (h : evO f y = some (v)) : PR P f (.pick c x y) v := fun ρ hρ _ _ _ _ _ w => by
  have hc := hρ _ _ hc
  have h := hρ _ _ h
  simp [execOp, hc, asBool, h]
theorem PR.pickTB {c : Operand} {b : Bool} (hc : evO f c = some (.bool true)) (h : evO f x = some (.bool b)) : PR P f (.pick c x y) (.bool b) := .pickT _ hc h
theorem PR.pickFB {c : Operand} {b : Bool} (hc : evO f c = some (.bool false)) (h : evO f y = some (.bool b)) : PR P f (.pick c x y) (.bool b) := .pickF _ hc h
theorem PR.nil_ {a : Addr} (h : evO f x = some (.pointer (some a))) : PR P f (.nilCheck x) (.pointer (some a)) := fun ρ hρ _ _ _ _ _ w => by
  have h := hρ _ _ h
  simp [execOp, h]
theorem PR.nilF {k : FuncId} {a b : Array Value} (h : evO f x = some (.func (.func k) a b)) : PR P f (.nilCheck x) (.func (.func k) a b) := fun ρ hρ _ _ _ _ _ w => by
  have h := hρ _ _ h
  simp [execOp, h]
theorem PR.not_ {b : Bool} (h : evO f x = some (.bool b)) : PR P f (.unOp .not T x) (.bool (!b)) := fun ρ hρ _ _ _ _ _ w => by
  have h := hρ _ _ h
  simp [execOp, h, Op.unary]
theorem PR.neg_ {k : IntKind} {n : Int} (h : evO f x = some (.int k n)) (hf : fitI k (-n)) : PR P f (.unOp .neg T x) (.int k (-n)) := fun ρ hρ _ _ _ _ _ w => by
  have h := hρ _ _ h
  simp [execOp, h, Op.unary, Op.intArith, wrap_fit hf]
/-- the complement of an unsigned number -/
theorem PR.compl {k : IntKind} {n : Nat} (h : evO f x = some (.int k (n : Int))) (hk : 0 < uB k) (hn : n < uB k) : PR P f (.unOp .xor T x) (.int k ((uB k - 1 - n : Nat) : Int)) := fun ρ hρ _ _ _ _ _ w => by
  have h := hρ _ _ h
  have hb := uB_pow hk
  have hs : k.signed = false := by cases k <;> simp only [uB] at hk <;> first | omega | rfl
  have hm : k.max = ((uB k - 1 : Nat) : Int) := by cases k <;> simp only [uB] at hk <;> first | omega | rfl
  have e : (BitVec.ofInt k.bits ((uB k - 1 : Nat) : Int) ^^^ BitVec.ofInt k.bits (n : Int)).toNat = uB k - 1 - n := by
    have h1 : BitVec.ofInt k.bits ((uB k - 1 : Nat) : Int) = BitVec.allOnes k.bits := by
      apply BitVec.eq_of_toNat_eq
      rw [BitVec.ofInt_natCast, BitVec.toNat_ofNat, BitVec.toNat_allOnes, ← hb, Nat.mod_eq_of_lt (by omega)]
    rw [h1, BitVec.ofInt_natCast, BitVec.allOnes_xor, BitVec.toNat_not, BitVec.toNat_ofNat, ← hb, Nat.mod_eq_of_lt hn]
  simp only [execOp, h, Op.unary, hs, hm, Op.intBits, Bool.false_eq_true, if_false, Sem.run_bind, Sem.run_pure, Result.andThen_ok, e]
  rw [wrap_u _ hk, Nat.mod_eq_of_lt (by omega)]
theorem PR.conv {k k2 : IntKind} {n : Int} (hT : tyI P T2 = some k2) (h : evO f x = some (.int k n)) (hf : fitI k2 n) {ds : TypeDesc} (hs : P.underlying T = some ds) : PR P f (.convert T T2 x) (.int k2 n) := fun ρ hρ _ _ _ _ _ w => by
  have h := hρ _ _ h
  simp [execOp, h, convert, run_und (tyI_spec hT), run_und hs, Conv.intToInt, wrap_fit hf]
theorem PR.convU {k k2 : IntKind} {n : Nat} (hT : tyI P T2 = some k2) (h : evO f x = some (.int k (n : Int))) (hk : 0 < uB k2) {ds : TypeDesc} (hs : P.underlying T = some ds) : PR P f (.convert T T2 x) (.int k2 ((n % uB k2 : Nat) : Int)) := fun ρ hρ _ _ _ _ _ w => by
  have h := hρ _ _ h
  simp only [execOp, h, convert, Sem.run_bind, run_und (tyI_spec hT), run_und hs, Result.andThen_ok, Conv.intToInt, Sem.run_pure, wrap_u _ hk]
theorem PR.convW {k k2 : IntKind} {n : Int} (hT : tyI P T2 = some k2) (h : evO f x = some (.int k n)) {ds : TypeDesc} (hs : P.underlying T = some ds) : PR P f (.convert T T2 x) (.int k2 (k2.wrap n)) := fun ρ hρ _ _ _ _ _ w => by
  have h := hρ _ _ h
  simp [execOp, h, convert, run_und (tyI_spec hT), run_und hs, Conv.intToInt]

section
variable {k : IntKind}
theorem run_bin {op : BinOp} {a b : Int} {v : Value} {w : World} (h : ∀ w, (binOp op T (.int k a) (.int k b)).run P w = .ok v w) (hx : evO f x = some (.int k a)) (hy : evO f y = some (.int k b)) : PR P f (.binOp op T x y T2) v := fun ρ hρ _ _ _ _ _ w => by
  have hx := hρ _ _ hx
  have hy := hρ _ _ hy
  have e : ∀ w, (eqGuard op T x y (.int k a) (.int k b)).run P w = .ok () w := fun w => by
    unfold eqGuard
    cases op <;> rfl
  simp only [execOp, hx, hy, Sem.run_bind, e, Result.andThen_ok, h, Sem.run_pure]
theorem PR.add {a b : Int} (hx : evO f x = some (.int k a)) (hy : evO f y = some (.int k b)) (hf : fitI k (a + b)) : PR P f (.binOp .add T x y T2) (.int k (a + b)) := run_bin (w := default) (fun w => by simp [binOp, Op.intArith, wrap_fit hf]) hx hy
theorem PR.sub {a b : Int} (hx : evO f x = some (.int k a)) (hy : evO f y = some (.int k b)) (hf : fitI k (a - b)) : PR P f (.binOp .sub T x y T2) (.int k (a - b)) := run_bin (w := default) (fun w => by simp [binOp, Op.intArith, wrap_fit hf]) hx hy
theorem PR.mul {a b : Int} (hx : evO f x = some (.int k a)) (hy : evO f y = some (.int k b)) (hf : fitI k (a * b)) : PR P f (.binOp .mul T x y T2) (.int k (a * b)) := run_bin (w := default) (fun w => by simp [binOp, Op.intArith, wrap_fit hf]) hx hy
theorem PR.addU {a b : Nat} (hx : evO f x = some (.int k (a : Int))) (hy : evO f y = some (.int k (b : Int))) (hk : 0 < uB k) : PR P f (.binOp .add T x y T2) (.int k (((a + b) % uB k : Nat) : Int)) := run_bin (w := default) (fun w => by
  simp only [binOp, Op.intArith, ne_eq, not_true_eq_false, if_false, Sem.run_pure]; rw [← Int.natCast_add, wrap_u _ hk]) hx hy
theorem PR.mulU {a b : Nat} (hx : evO f x = some (.int k (a : Int))) (hy : evO f y = some (.int k (b : Int))) (hk : 0 < uB k) : PR P f (.binOp .mul T x y T2) (.int k (((a * b) % uB k : Nat) : Int)) := run_bin (w := default) (fun w => by
  simp only [binOp, Op.intArith, ne_eq, not_true_eq_false, if_false, Sem.run_pure]; rw [← Int.natCast_mul, wrap_u _ hk]) hx hy
theorem PR.quo {a b : Int} (hx : evO f x = some (.int k a)) (hy : evO f y = some (.int k b)) (ha : 0 ≤ a) (hb : 0 < b) (hf : fitI k (a / b)) : PR P f (.binOp .quo T x y T2) (.int k (a / b)) := run_bin (w := default) (fun w => by
  simp [binOp, Op.intDiv, show b ≠ 0 by omega, Int.tdiv_eq_ediv_of_nonneg ha, wrap_fit hf]) hx hy
theorem PR.quoT {a b : Int} (hx : evO f x = some (.int k a)) (hy : evO f y = some (.int k b)) (hb : b ≠ 0) (hf : fitI k (a.tdiv b)) : PR P f (.binOp .quo T x y T2) (.int k (a.tdiv b)) := run_bin (w := default) (fun w => by
  simp [binOp, Op.intDiv, hb, wrap_fit hf]) hx hy
theorem PR.rem {a b : Int} (hx : evO f x = some (.int k a)) (hy : evO f y = some (.int k b)) (ha : 0 ≤ a) (hb : 0 < b) : PR P f (.binOp .rem T x y T2) (.int k (a % b)) := run_bin (w := default) (fun w => by
  simp [binOp, Op.intDiv, show b ≠ 0 by omega, Int.tmod_eq_emod_of_nonneg ha]) hx hy
theorem PR.remT {a b : Int} (hx : evO f x = some (.int k a)) (hy : evO f y = some (.int k b)) (hb : b ≠ 0) : PR P f (.binOp .rem T x y T2) (.int k (a.tmod b)) := run_bin (w := default) (fun w => by
  simp [binOp, Op.intDiv, hb]) hx hy
theorem PR.lss {a b : Int} (hx : evO f x = some (.int k a)) (hy : evO f y = some (.int k b)) : PR P f (.binOp .lss T x y T2) (.bool (decide (a < b))) := run_bin (w := default) (fun w => by simp [binOp, Op.intCmp]) hx hy
theorem PR.leq {a b : Int} (hx : evO f x = some (.int k a)) (hy : evO f y = some (.int k b)) : PR P f (.binOp .leq T x y T2) (.bool (decide (a ≤ b))) := run_bin (w := default) (fun w => by simp [binOp, Op.intCmp]) hx hy
theorem PR.gtr {a b : Int} (hx : evO f x = some (.int k a)) (hy : evO f y = some (.int k b)) : PR P f (.binOp .gtr T x y T2) (.bool (decide (b < a))) := run_bin (w := default) (fun w => by simp [binOp, Op.intCmp]) hx hy
theorem PR.geq {a b : Int} (hx : evO f x = some (.int k a)) (hy : evO f y = some (.int k b)) : PR P f (.binOp .geq T x y T2) (.bool (decide (b ≤ a))) := run_bin (w := default) (fun w => by simp [binOp, Op.intCmp]) hx hy
theorem PR.eql {a b : Int} (hx : evO f x = some (.int k a)) (hy : evO f y = some (.int k b)) : PR P f (.binOp .eql T x y T2) (.bool (decide (a = b))) := run_bin (w := default) (fun w => by
  simp only [binOp, Op.intCmp, ne_eq, not_true_eq_false, if_false, Sem.run_pure]; rfl) hx hy
theorem PR.neq {a b : Int} (hx : evO f x = some (.int k a)) (hy : evO f y = some (.int k b)) : PR P f (.binOp .neq T x y T2) (.bool (!decide (a = b))) := run_bin (w := default) (fun w => by
  simp only [binOp, Op.intCmp, ne_eq, not_true_eq_false, if_false, Sem.run_pure]; rfl) hx hy

theorem ofInt_toNat (a : Nat) (hk : 0 < uB k) : (BitVec.ofInt k.bits (a : Int)).toNat = a % uB k := by
  rw [BitVec.ofInt_natCast, BitVec.toNat_ofNat, uB_pow hk]
theorem run_bits {op : BinOp} {a b r : Nat} (hr : ∀ (w : World), (Op.intBits op k (a : Int) (b : Int)).run P w = .ok (.int k (k.wrap (r : Int))) w) (ho : op = .and ∨ op = .or ∨ op = .xor ∨ op = .andNot) (hx : evO f x = some (.int k (a : Int))) (hy : evO f y = some (.int k (b : Int))) (hk : 0 < uB k) (hl : r < uB k) :
    PR P f (.binOp op T x y T2) (.int k (r : Int)) := run_bin (w := default) (fun w => by
  have e : (binOp op T (.int k (a : Int)) (.int k (b : Int)) : Sem Value) = Op.intBits op k (a : Int) (b : Int) := by
    rcases ho with rfl | rfl | rfl | rfl <;> simp [binOp]
  rw [e, hr, wrap_u _ hk, Nat.mod_eq_of_lt hl]) hx hy
theorem PR.and {a b : Nat} (hx : evO f x = some (.int k (a : Int))) (hy : evO f y = some (.int k (b : Int))) (hk : 0 < uB k) (hl : a < uB k) (hb : b < uB k) : PR P f (.binOp .and T x y T2) (.int k ((a &&& b : Nat) : Int)) :=
  run_bits (fun w => by simp [Op.intBits, show a % 2 ^ k.bits = a from Nat.mod_eq_of_lt (by rw [← uB_pow hk]; exact hl), show b % 2 ^ k.bits = b from Nat.mod_eq_of_lt (by rw [← uB_pow hk]; exact hb)]) (.inl rfl) hx hy hk (Nat.lt_of_le_of_lt Nat.and_le_left hl)
theorem PR.or {a b : Nat} (hx : evO f x = some (.int k (a : Int))) (hy : evO f y = some (.int k (b : Int))) (hk : 0 < uB k) (hl : a < uB k) (hb : b < uB k) : PR P f (.binOp .or T x y T2) (.int k ((a ||| b : Nat) : Int)) :=
  run_bits (fun w => by simp [Op.intBits, show a % 2 ^ k.bits = a from Nat.mod_eq_of_lt (by rw [← uB_pow hk]; exact hl), show b % 2 ^ k.bits = b from Nat.mod_eq_of_lt (by rw [← uB_pow hk]; exact hb)]) (.inr (.inl rfl)) hx hy hk (by rw [uB_pow hk] at *; exact Nat.or_lt_two_pow hl hb)
theorem PR.xor {a b : Nat} (hx : evO f x = some (.int k (a : Int))) (hy : evO f y = some (.int k (b : Int))) (hk : 0 < uB k) (hl : a < uB k) (hb : b < uB k) : PR P f (.binOp .xor T x y T2) (.int k ((a ^^^ b : Nat) : Int)) :=
  run_bits (fun w => by simp [Op.intBits, show a % 2 ^ k.bits = a from Nat.mod_eq_of_lt (by rw [← uB_pow hk]; exact hl), show b % 2 ^ k.bits = b from Nat.mod_eq_of_lt (by rw [← uB_pow hk]; exact hb)]) (.inr (.inr (.inl rfl))) hx hy hk (by rw [uB_pow hk] at *; exact Nat.xor_lt_two_pow hl hb)
/-- the bits of a that b has not -/
def bdiff (a b : Nat) : Nat := a ^^^ (a &&& b)
theorem bdiff_testBit (a b i : Nat) : (bdiff a b).testBit i = (a.testBit i && !b.testBit i) := by
  simp only [bdiff, Nat.testBit_xor, Nat.testBit_and]; cases a.testBit i <;> cases b.testBit i <;> rfl
theorem bdiff_le (a b : Nat) : bdiff a b ≤ a := by
  refine Nat.le_of_testBit fun i h => ?_
  rw [bdiff_testBit] at h
  simp only [Bool.and_eq_true] at h
  exact h.1
theorem PR.andNot {a b : Nat} (hx : evO f x = some (.int k (a : Int))) (hy : evO f y = some (.int k (b : Int))) (hk : 0 < uB k) (hl : a < uB k) (hb : b < uB k) : PR P f (.binOp .andNot T x y T2) (.int k ((bdiff a b : Nat) : Int)) :=
  run_bits (fun w => by
    have e : (BitVec.ofInt k.bits (a : Int) &&& ~~~BitVec.ofInt k.bits (b : Int)).toNat = bdiff a b := by
      apply Nat.eq_of_testBit_eq
      intro i
      rw [bdiff_testBit, BitVec.testBit_toNat, BitVec.getLsbD_and, BitVec.getLsbD_not, ← BitVec.testBit_toNat, ← BitVec.testBit_toNat, ofInt_toNat _ hk, ofInt_toNat _ hk, Nat.mod_eq_of_lt hl, Nat.mod_eq_of_lt hb]
      by_cases hi : i < k.bits
      · simp [hi]
      · have h0 : a.testBit i = false := Nat.testBit_lt_two_pow (Nat.lt_of_lt_of_le (by rw [← uB_pow hk]; exact hl) (Nat.pow_le_pow_right (by decide) (by omega)))
        simp [hi, h0]
    simp only [Op.intBits, Sem.run_pure, e]) (.inr (.inr (.inr rfl))) hx hy hk (Nat.lt_of_le_of_lt (bdiff_le a b) hl)
theorem PR.shl {k2 : IntKind} {a n : Nat} (hx : evO f x = some (.int k (a : Int))) (hy : evO f y = some (.int k2 (n : Int))) (hk : 0 < uB k) : PR P f (.binOp .shl T x y T2) (.int k (((a <<< n) % uB k : Nat) : Int)) := fun ρ hρ _ _ _ _ _ w => by
  have hx := hρ _ _ hx
  have hy := hρ _ _ hy
  have e : (eqGuard .shl T x y (.int k (a : Int)) (.int k2 (n : Int))).run P w = .ok () w := rfl
  have hb := uB_pow hk
  simp only [execOp, hx, hy, Sem.run_bind, e, Result.andThen_ok, binOp, Op.shift, show ¬ ((n : Int) < 0) by omega, if_false, Sem.run_pure, Int.toNat_natCast]
  congr 3
  have : ((a : Int) * 2 ^ min n k.bits) = ((a * 2 ^ min n k.bits : Nat) : Int) := by simp
  rw [this, wrap_u _ hk, Nat.shiftLeft_eq]
  congr 1
  by_cases h : n ≤ k.bits
  · rw [Nat.min_eq_left h]
  · rw [Nat.min_eq_right (by omega), hb, Nat.mul_mod_left]
    have : n = (n - k.bits) + k.bits := by omega
    rw [this, Nat.pow_add, ← Nat.mul_assoc, Nat.mul_mod_left]
theorem PR.shr {k2 : IntKind} {a n : Nat} (hx : evO f x = some (.int k (a : Int))) (hy : evO f y = some (.int k2 (n : Int))) (hk : 0 < uB k) (hl : a < uB k) : PR P f (.binOp .shr T x y T2) (.int k ((a >>> n : Nat) : Int)) := fun ρ hρ _ _ _ _ _ w => by
  have hx := hρ _ _ hx
  have hy := hρ _ _ hy
  have e : (eqGuard .shr T x y (.int k (a : Int)) (.int k2 (n : Int))).run P w = .ok () w := rfl
  have hb := uB_pow hk
  simp only [execOp, hx, hy, Sem.run_bind, e, Result.andThen_ok, binOp, Op.shift, show ¬ ((n : Int) < 0) by omega, if_false, Sem.run_pure, Int.toNat_natCast]
  congr 3
  have e2 : ((2 : Int) ^ min n k.bits) = ((2 ^ min n k.bits : Nat) : Int) := by simp
  rw [e2, Int.fdiv_eq_ediv_of_nonneg _ (Int.natCast_nonneg _), ← Int.natCast_ediv, Nat.shiftRight_eq_div_pow]
  congr 1
  by_cases h : n ≤ k.bits
  · rw [Nat.min_eq_left h]
  · rw [Nat.min_eq_right (by omega), ← hb, Nat.div_eq_of_lt hl, Nat.div_eq_of_lt (Nat.lt_of_lt_of_le hl (by rw [hb]; exact Nat.pow_le_pow_right (by decide) (by omega)))]
/-- int's shifts (of a number that is not negative) -/
theorem PR.shlI {k2 : IntKind} {a n : Nat} (hx : evO f x = some (.int .i64 (a : Int))) (hy : evO f y = some (.int k2 (n : Int))) (hn : n ≤ 62) (hl : a * 2 ^ n < 9223372036854775808) : PR P f (.binOp .shl T x y T2) (.int .i64 ((a <<< n : Nat) : Int)) := fun ρ hρ _ _ _ _ _ w => by
  have hx := hρ _ _ hx
  have hy := hρ _ _ hy
  have e : (eqGuard .shl T x y (.int .i64 (a : Int)) (.int k2 (n : Int))).run P w = .ok () w := rfl
  simp only [execOp, hx, hy, Sem.run_bind, e, Result.andThen_ok, binOp, Op.shift, show ¬ ((n : Int) < 0) by omega, if_false, Sem.run_pure, Int.toNat_natCast, IntKind.bits]
  congr 3
  rw [Nat.min_eq_left (by omega), Nat.shiftLeft_eq]
  have : ((a : Int) * 2 ^ n) = ((a * 2 ^ n : Nat) : Int) := by simp
  rw [this]
  exact wrap_fit (k := .i64) ⟨by omega, by omega⟩
theorem PR.shrI {k2 : IntKind} {a n : Nat} (hx : evO f x = some (.int .i64 (a : Int))) (hy : evO f y = some (.int k2 (n : Int))) (hn : n ≤ 64) : PR P f (.binOp .shr T x y T2) (.int .i64 ((a >>> n : Nat) : Int)) := fun ρ hρ _ _ _ _ _ w => by
  have hx := hρ _ _ hx
  have hy := hρ _ _ hy
  have e : (eqGuard .shr T x y (.int .i64 (a : Int)) (.int k2 (n : Int))).run P w = .ok () w := rfl
  simp only [execOp, hx, hy, Sem.run_bind, e, Result.andThen_ok, binOp, Op.shift, show ¬ ((n : Int) < 0) by omega, if_false, Sem.run_pure, Int.toNat_natCast, IntKind.bits]
  congr 3
  have e2 : ((2 : Int) ^ min n 64) = ((2 ^ min n 64 : Nat) : Int) := by simp
  rw [e2, Int.fdiv_eq_ediv_of_nonneg _ (Int.natCast_nonneg _), ← Int.natCast_ediv, Nat.shiftRight_eq_div_pow, Nat.min_eq_left hn]
end
theorem PR.extr {vs : List Value} {i : Nat} {v : Value} (h : evO f x = some (.tuple vs.toArray)) (hi : vs[i]? = some v) : PR P f (.extract x i) v := fun ρ hρ _ _ _ _ _ w => by
  have h := hρ _ _ h
  simp [execOp, h, Instr.extract, hi]
theorem PR.fieldAddr {b off i o n : Nat} {a : Bool} (hT : tyF P T i = some (o, a, n)) (h : evO f x = some (.pointer (some ⟨b, off, none⟩))) : PR P f (.fieldAddr T x i) (.pointer (some ⟨b, off + o, none⟩)) := fun ρ hρ _ _ _ _ _ w => by
  have h := hρ _ _ h
  obtain ⟨fs, fd, hu, hf, ho, ha, hn⟩ := tyF_spec hT
  have hsz := (tyA_spec (w := w) ha).2
  have hadd : (⟨b, off, none⟩ : Addr).add o = ⟨b, off + o, none⟩ := by unfold Addr.add; split <;> simp_all
  simp [execOp, h, Instr.fieldAt, run_und hu, hf, Instr.sureAddr, fieldPlace, hsz, hn, ho, hadd]
theorem PR.fieldV {cs : List Value} {i o n : Nat} {v : Value} (hT : tyF P T i = some (o, false, n)) (h : evO f x = some (.agg cs.toArray)) (hv : cs[o]? = some v) : PR P f (.field T x i) v := fun ρ hρ _ _ _ _ _ w => by
  have h := hρ _ _ h
  obtain ⟨fs, fd, hu, hf, ho, ha, hn⟩ := tyF_spec hT
  simp [execOp, h, Instr.field, run_und hu, hf, asAgg, part, (tyA_spec (w := w) ha).1, ho, hv]
theorem PR.fieldA {cs vs : List Value} {i o n : Nat} (hT : tyF P T i = some (o, true, n)) (h : evO f x = some (.agg cs.toArray)) (hv : (cs.drop o).take n = vs) : PR P f (.field T x i) (.agg vs.toArray) := fun ρ hρ _ _ _ _ _ w => by
  have h := hρ _ _ h
  obtain ⟨fs, fd, hu, hf, ho, ha, hn⟩ := tyF_spec hT
  simp [execOp, h, Instr.field, run_und hu, hf, asAgg, part, (tyA_spec (w := w) ha).1, (tyA_spec (w := w) ha).2, ho]
  exact hv
theorem PR.idxAgg {cs : List Value} {len i n : Nat} {k : IntKind} {v : Value} (hT : tyE P T = some (len, false, n)) (h : evO f x = some (.agg cs.toArray)) (hi : evO f y = some (.int k (i : Int))) (hl : i < len) (hv : cs[i * n]? = some v) : PR P f (.index T x y) v := fun ρ hρ _ _ _ _ _ w => by
  have h := hρ _ _ h
  have hi := hρ _ _ hi
  obtain ⟨e, hu, ha⟩ := tyE_spec hT
  simp [execOp, h, hi, Instr.index, asIntOf, run_und hu, hl, part, (tyA_spec (w := w) ha).1, (tyA_spec (w := w) ha).2, hv]
theorem PR.idxAggA {cs vs : List Value} {len i n : Nat} {k : IntKind} (hT : tyE P T = some (len, true, n)) (h : evO f x = some (.agg cs.toArray)) (hi : evO f y = some (.int k (i : Int))) (hl : i < len) (hv : (cs.drop (i * n)).take n = vs) : PR P f (.index T x y) (.agg vs.toArray) := fun ρ hρ _ _ _ _ _ w => by
  have h := hρ _ _ h
  have hi := hρ _ _ hi
  obtain ⟨e, hu, ha⟩ := tyE_spec hT
  simp [execOp, h, hi, Instr.index, asIntOf, run_und hu, hl, part, (tyA_spec (w := w) ha).1, (tyA_spec (w := w) ha).2]
  exact hv
theorem PR.idxStr {s : ByteArray} {i : Nat} {k : IntKind} {c : UInt8} (hT : P.underlying T = some .string) (h : evO f x = some (.string s)) (hi : evO f y = some (.int k (i : Int))) (hc : s[i]? = some c) : PR P f (.index T x y) (.int .u8 ((c.toNat : Nat) : Int)) := fun ρ hρ _ _ _ _ _ w => by
  have h := hρ _ _ h
  have hi := hρ _ _ hi
  simp [execOp, h, hi, Instr.index, asIntOf, run_und hT, hc]
theorem PR.idxAddrA {b off i len n : Nat} {a : Bool} {k : IntKind} (hT : tyE P T = some (len, a, n)) (h : evO f x = some (.pointer (some ⟨b, off, none⟩))) (hi : evO f y = some (.int k (i : Int))) (hl : i < len) : PR P f (.indexAddr T x y) (.pointer (some ⟨b, off + i * n, none⟩)) := fun ρ hρ _ _ _ _ _ w => by
  have h := hρ _ _ h
  have hi := hρ _ _ hi
  obtain ⟨e, hu, ha⟩ := tyE_spec hT
  have hadd : (⟨b, off, none⟩ : Addr).add (i * n) = ⟨b, off + i * n, none⟩ := by unfold Addr.add; split <;> simp_all
  simp [execOp, h, hi, Instr.indexAt, asIntOf, run_und hu, Instr.sureAddr, hl, (tyA_spec (w := w) ha).2, hadd]
theorem PR.idxAddrS {b off i len c n by_ : Nat} {e : TypeId} {k : IntKind} (hT : tyS P T = some (e, n, by_)) (h : evO f x = some (.slice (some ⟨b, off, none⟩) len c)) (hi : evO f y = some (.int k (i : Int))) (hl : i < len) : PR P f (.indexAddr T x y) (.pointer (some ⟨b, off + i * n, none⟩)) := fun ρ hρ _ _ _ _ _ w => by
  have h := hρ _ _ h
  have hi := hρ _ _ hi
  obtain ⟨j, hu, hj, hn, _⟩ := tyS_spec hT
  have hadd : (⟨b, off, none⟩ : Addr).add (i * n) = ⟨b, off + i * n, none⟩ := by unfold Addr.add; split <;> simp_all
  simp [execOp, h, hi, Instr.indexAt, asIntOf, run_und hu, hl, run_size hj, hn, hadd]
theorem PR.mkFunc {k : FuncId} {cap : List Operand} {vs : List Value} (h : evL f cap = some vs) : PR P f (.makeFunc (.func k) #[] cap.toArray) (.func (.func k) #[] vs.toArray) := fun ρ hρ _ _ _ _ _ w => by
  have h1 := hρ.list h
  simp [execOp, Instr.makeFunc, h1]
theorem PR.lenL {p : Option Addr} {n c : Nat} {r : TypeId × Nat × Nat} (hT : tyS P T = some r) (h : evO f x = some (.slice p n c)) : PR P f (.call ⟨.builtin .len, #[x], #[T]⟩) (.int .i64 (n : Int)) := fun ρ hρ _ _ _ _ _ w => by
  have h := hρ _ _ h
  obtain ⟨j, hu, hj, hn, _⟩ := tyS_spec (e := r.1) (sz := r.2.1) (by_ := r.2.2) hT
  simp [execOp, resolve, invoke, builtin, Builtin.len_, h, goInt, run_und hu]
theorem PR.lenS {s : ByteArray} (hT : P.underlying T = some .string) (h : evO f x = some (.string s)) : PR P f (.call ⟨.builtin .len, #[x], #[T]⟩) (.int .i64 (s.size : Int)) := fun ρ hρ _ _ _ _ _ w => by
  have h := hρ _ _ h
  simp [execOp, resolve, invoke, builtin, Builtin.len_, h, goInt, run_und hT]
end

/-! ### lists of operations -/
def dstIn (n : Nat) (o : Oper) : Bool := match o.dst with | some d => Nat.blt d n | none => true
def Wl (P : Program) (n : Nat) (ops : Array Oper) (Q : LPost) (l : List Oper) (f : Env) (w : World) : Prop := l.all (dstIn n) = true → ∀ a, Agr n a f → wpList P ops (ofL n Q) l a w
theorem Wc.region {n id : Nat} {l : List Oper} {Q : LPost} {f : Env} {w : World} (hd : l.all (dstIn n) = true) (h : Wl P n l.toArray Q l f w) : Wc P n (.region id l.toArray false) Q f w := fun a ha => wp_region_lit (h hd a ha)
theorem dst_lt {n d : Nat} {o : Op} {t : TypeId} {p : String} {af : Array Edge} {g : Option (Nat × Bool)} {rest : List Oper} (h : (⟨some d, o, t, p, af, g⟩ :: rest : List Oper).all (dstIn n) = true) : d < n ∧ rest.all (dstIn n) = true := by
  simp only [List.all_cons, Bool.and_eq_true] at h
  exact ⟨by simpa [dstIn, Nat.blt_eq] using h.1, h.2⟩
theorem dst_rest {n : Nat} {o : Oper} {rest : List Oper} (h : (o :: rest : List Oper).all (dstIn n) = true) : rest.all (dstIn n) = true := by
  simp only [List.all_cons, Bool.and_eq_true] at h
  exact h.2
section
variable {n : Nat} {ops : Array Oper} {Q : LPost} {rest : List Oper} {f : Env} {w : World} {o : Op} {t : TypeId} {p : String} {af : Array Edge}
theorem Wl.nil (h : Q .normal f w) : Wl P n ops Q [] f w := fun _ _ ha => wpList_nil ⟨f, ha, h⟩
theorem Wl.run {d : Tmp} {v : Value} {w' : World} (h : ∀ ρ, Val f ρ → (execOp ρ ⟨some d, o, t, p, af, none⟩).run P w = .ok (.value v) w') (k : Wl P n ops Q rest ((d, v) :: f) w') : Wl P n ops Q (⟨some d, o, t, p, af, none⟩ :: rest) f w := fun hd a ha => by
  refine wpList_plain rfl fun K hK => ?_
  unfold Oper.wp
  rw [h _ ha.val]
  exact hK _ _ (k (dst_lt hd).2 _ (ha.put (dst_lt hd).1 v))
theorem Wl.run0 {v : Value} {w' : World} (h : ∀ ρ, Val f ρ → (execOp ρ ⟨none, o, t, p, af, none⟩).run P w = .ok (.value v) w') (k : Wl P n ops Q rest f w') : Wl P n ops Q (⟨none, o, t, p, af, none⟩ :: rest) f w := fun hd a ha => by
  refine wpList_plain rfl fun K hK => ?_
  unfold Oper.wp
  rw [h _ ha.val]
  exact hK _ _ (k (dst_rest hd) _ ha)
theorem Wl.skipped {w' : World} (h : ∀ ρ, Val f ρ → (execOp ρ ⟨none, o, t, p, af, none⟩).run P w = .ok .skip w') (k : Wl P n ops Q rest f w') : Wl P n ops Q (⟨none, o, t, p, af, none⟩ :: rest) f w := fun hd a ha => by
  refine wpList_plain rfl fun K hK => ?_
  unfold Oper.wp
  rw [h _ ha.val]
  exact hK _ _ (k (dst_rest hd) _ ha)
theorem Wl.pure {d : Tmp} {v : Value} (h : PR P f o v) (k : Wl P n ops Q rest ((d, v) :: f) w) : Wl P n ops Q (⟨some d, o, t, p, af, none⟩ :: rest) f w := Wl.run (fun ρ hρ => h ρ hρ _ _ _ _ _ _) k
theorem Wl.pure0 {v : Value} (h : PR P f o v) (k : Wl P n ops Q rest f w) : Wl P n ops Q (⟨none, o, t, p, af, none⟩ :: rest) f w := Wl.run0 (fun ρ hρ => h ρ hρ _ _ _ _ _ _) k
theorem Agr.yields {a : Act} {j d : Nat} {b : Bool} (ha : Agr n a f) (hj : (ops[j]?).bind (·.dst) = some d) (hv : lk f d = some (.bool b)) : yielded ops a.tmps j = some b := by
  simp [yielded, hj, ha.2.2 _ _ hv]
/-- The guard says yes. -/
theorem Wl.on {d : Option Tmp} {j gd : Nat} {want : Bool} (hj : (ops[j]?).bind (·.dst) = some gd) (hv : lk f gd = some (.bool want)) (k : Wl P n ops Q (⟨d, o, t, p, af, none⟩ :: rest) f w) : Wl P n ops Q (⟨d, o, t, p, af, some (j, want)⟩ :: rest) f w := fun hd a ha => by
  have k := k hd a ha
  unfold wpList at *
  have hw : Region.wanted ⟨d, o, t, p, af, some (j, want)⟩ (yielded ops a.tmps) = true := by simp [Region.wanted, ha.yields hj hv]
  rw [if_pos (by rfl)] at k
  rw [if_pos hw]
  exact k
/-- The guard says no. -/
theorem Wl.off {d : Tmp} {j gd : Nat} {b want : Bool} (hj : (ops[j]?).bind (·.dst) = some gd) (hv : lk f gd = some (.bool b)) (hb : b = !want) (k : Wl P n ops Q rest ((d, undef) :: f) w) : Wl P n ops Q (⟨some d, o, t, p, af, some (j, want)⟩ :: rest) f w := fun hd a ha => by
  unfold wpList
  have hw : Region.wanted ⟨some d, o, t, p, af, some (j, want)⟩ (yielded ops a.tmps) = false := by
    simp only [Region.wanted, ha.yields hj hv, hb]; cases want <;> rfl
  rw [if_neg (by rw [hw]; simp)]
  exact k (dst_lt hd).2 _ (ha.put (dst_lt hd).1 undef)
/-- What the guard looks at has been passed over itself. -/
theorem Wl.offU {d : Tmp} {j gd : Nat} {want : Bool} (hj : (ops[j]?).bind (·.dst) = some gd) (hv : lk f gd = some undef) (k : Wl P n ops Q rest ((d, undef) :: f) w) : Wl P n ops Q (⟨some d, o, t, p, af, some (j, want)⟩ :: rest) f w := fun hd a ha => by
  unfold wpList
  have hw : Region.wanted ⟨some d, o, t, p, af, some (j, want)⟩ (yielded ops a.tmps) = false := by
    simp [Region.wanted, yielded, hj, ha.2.2 _ _ hv, undef]
  rw [if_neg (by rw [hw]; simp)]
  exact k (dst_lt hd).2 _ (ha.put (dst_lt hd).1 undef)
theorem Wl.lift {l : List Oper} {f f' : Env} (h : subE f f') (k : Wl P n ops Q l f' w) : Wl P n ops Q l f w := fun hd a ha => k hd a (ha.sub h)
theorem subE.same {d : Nat} {v : Value} (h : lk f d = some v) : subE f ((d, v) :: f) := subE.cons h fun _ _ h => h
/-- A guard that is not decided: both ways. -/
theorem Wl.splitB {d : Tmp} {j gd : Nat} {b want : Bool} (hj : (ops[j]?).bind (·.dst) = some gd) (hv : lk f gd = some (.bool b))
    (k1 : b = want → Wl P n ops Q (⟨some d, o, t, p, af, none⟩ :: rest) ((gd, .bool want) :: f) w) (k2 : b = (!want) → Wl P n ops Q rest ((d, undef) :: (gd, .bool (!want)) :: f) w) : Wl P n ops Q (⟨some d, o, t, p, af, some (j, want)⟩ :: rest) f w := by
  by_cases h : b = want
  · exact Wl.on hj (by rw [hv, h]) (Wl.lift (subE.same (by rw [hv, h])) (k1 h))
  · have hb : b = !want := by cases b <;> cases want <;> simp_all
    refine Wl.off hj hv hb (Wl.lift ?_ (k2 hb))
    intro t v ht
    rw [lk_cons] at ht ⊢
    split at ht
    · rename_i e; rw [if_pos e]; exact ht
    · rename_i e
      rw [if_neg e]
      exact subE.same (by rw [hv, hb]) t v ht
theorem Wl.splitT {d : Tmp} {j gd : Nat} {q : Prop} [Decidable q] (hj : (ops[j]?).bind (·.dst) = some gd) (hv : lk f gd = some (.bool (decide q)))
    (k1 : q → Wl P n ops Q (⟨some d, o, t, p, af, none⟩ :: rest) ((gd, .bool true) :: f) w) (k2 : ¬ q → Wl P n ops Q rest ((d, undef) :: (gd, .bool false) :: f) w) : Wl P n ops Q (⟨some d, o, t, p, af, some (j, true)⟩ :: rest) f w :=
  Wl.splitB hj hv (fun h => k1 (of_decide_eq_true h)) (fun h => k2 (of_decide_eq_false h))
theorem Wl.splitF {d : Tmp} {j gd : Nat} {q : Prop} [Decidable q] (hj : (ops[j]?).bind (·.dst) = some gd) (hv : lk f gd = some (.bool (decide q)))
    (k1 : ¬ q → Wl P n ops Q (⟨some d, o, t, p, af, none⟩ :: rest) ((gd, .bool false) :: f) w) (k2 : q → Wl P n ops Q rest ((d, undef) :: (gd, .bool true) :: f) w) : Wl P n ops Q (⟨some d, o, t, p, af, some (j, false)⟩ :: rest) f w :=
  Wl.splitB hj hv (fun h => k1 (of_decide_eq_false h)) (fun h => k2 (of_decide_eq_true h))

/-- A call of a function that the text names. -/
theorem exec_call {k : FuncId} {as : List Operand} {ts : Array TypeId} {vs : List Value} {ρ : Operand → Value} {d : Option Tmp} {g : Option (Nat × Bool)} (ha : evL f as = some vs) (hρ : Val f ρ) :
    execOp ρ ⟨d, .call ⟨.value (.func k), as.toArray, ts⟩, t, p, af, g⟩ = callFunc k (#[] ++ vs.toArray ++ #[]) := by
  have e : vs.toArray = as.toArray.map ρ := by rw [← hρ.list ha]; simp
  rw [e]
  have hf : ρ (.func k) = .func (.func k) #[] #[] := hρ (.func k) _ rfl
  unfold execOp resolve
  simp only [hf]
  rfl
theorem Wl.call {d : Tmp} {k : FuncId} {as : List Operand} {ts : Array TypeId} {vs : List Value} {R : Ending → World → Prop} (hc : CE P k vs w R) (ha : evL f as = some vs)
    (kk : ∀ e w', R e w' → ∃ v, e = .returned v ∧ Wl P n ops Q rest ((d, v) :: f) w') : Wl P n ops Q (⟨some d, .call ⟨.value (.func k), as.toArray, ts⟩, t, p, af, none⟩ :: rest) f w := fun hd a hag => by
  refine wpList_plain rfl fun K hK => ?_
  unfold Oper.wp
  have e : (#[] ++ vs.toArray ++ #[] : Array Value) = vs.toArray := by simp
  rw [exec_call ha hag.val, e, run_enter hc.1, Oper.upon_enter]
  refine hc.2.mono fun e w' hr => ?_
  obtain ⟨v, rfl, hk⟩ := kk e w' hr
  exact hK _ _ (hk (dst_lt hd).2 _ (hag.put (dst_lt hd).1 v))
theorem Wl.callV {d : Tmp} {k : FuncId} {as : List Operand} {ts : Array TypeId} {vs : List Value} {v : Value} (hc : CE P k vs w (RetV w v)) (ha : evL f as = some vs)
    (kk : ∀ w', Below w.heap.size w w' → Wl P n ops Q rest ((d, v) :: f) w') : Wl P n ops Q (⟨some d, .call ⟨.value (.func k), as.toArray, ts⟩, t, p, af, none⟩ :: rest) f w :=
  Wl.call hc ha fun _ w' ⟨he, hb⟩ => ⟨v, he, kk w' hb⟩
/-- A call of a function value that lies in a slot. -/
theorem Wl.callF {d : Tmp} {k : FuncId} {x : Operand} {as : List Operand} {cap vs : List Value} {ts : Array TypeId} {R : Ending → World → Prop} (hx : evO f x = some (.func (.func k) #[] cap.toArray)) (hc : CE P k (vs ++ cap) w R) (ha : evL f as = some vs)
    (kk : ∀ e w', R e w' → ∃ v, e = .returned v ∧ Wl P n ops Q rest ((d, v) :: f) w') : Wl P n ops Q (⟨some d, .call ⟨.value x, as.toArray, ts⟩, t, p, af, none⟩ :: rest) f w := fun hd a hag => by
  refine wpList_plain rfl fun K hK => ?_
  unfold Oper.wp
  have e : (execOp a.eval ⟨some d, .call ⟨.value x, as.toArray, ts⟩, t, p, af, none⟩).run P w = (callFunc k (vs ++ cap).toArray).run P w := by
    have h1 := hag.val _ _ hx
    have h2 := hag.val.list ha
    simp [execOp, resolve, h1, Deferred.ofValue, invoke, h2]
  rw [e, run_enter hc.1, Oper.upon_enter]
  refine hc.2.mono fun e w' hr => ?_
  obtain ⟨v, rfl, hk⟩ := kk e w' hr
  exact hK _ _ (hk (dst_lt hd).2 _ (hag.put (dst_lt hd).1 v))
theorem Wl.callFV {d : Tmp} {k : FuncId} {x : Operand} {as : List Operand} {cap vs : List Value} {ts : Array TypeId} {v : Value} (hx : evO f x = some (.func (.func k) #[] cap.toArray)) (hc : CE P k (vs ++ cap) w (RetV w v)) (ha : evL f as = some vs)
    (kk : ∀ w', Below w.heap.size w w' → Wl P n ops Q rest ((d, v) :: f) w') : Wl P n ops Q (⟨some d, .call ⟨.value x, as.toArray, ts⟩, t, p, af, none⟩ :: rest) f w :=
  Wl.callF hx hc ha fun _ w' ⟨he, hb⟩ => ⟨v, he, kk w' hb⟩
end

end Go.Proofs.Ytagghfllgafmgaa
