/-
  Small laws that the printed walks use. Nothing here speaks of one program.
-/
import Derived.Test.YtagghfllgafmgaaView
namespace Go.Proofs.Ytagghfllgafmgaa
set_option linter.unusedVariables false
set_option linter.unusedSimpArgs false
open Go.RowKit
variable {P : Program}

theorem and_lt_l {a b B : Nat} (h : a < B) : (a &&& b) < B := Nat.lt_of_le_of_lt Nat.and_le_left h
theorem and_lt_r {a b B : Nat} (h : b < B) : (a &&& b) < B := Nat.lt_of_le_of_lt Nat.and_le_right h
theorem or_lt_u8 {a b : Nat} (h : a < 256) (h2 : b < 256) : (a ||| b) < 256 := Nat.or_lt_two_pow (n := 8) h h2
theorem or_lt_u32 {a b : Nat} (h : a < 4294967296) (h2 : b < 4294967296) : (a ||| b) < 4294967296 := Nat.or_lt_two_pow (n := 32) h h2
theorem or_lt_u64 {a b : Nat} (h : a < 18446744073709551616) (h2 : b < 18446744073709551616) : (a ||| b) < 18446744073709551616 := Nat.or_lt_two_pow (n := 64) h h2
theorem xor_lt_u8 {a b : Nat} (h : a < 256) (h2 : b < 256) : (a ^^^ b) < 256 := Nat.xor_lt_two_pow (n := 8) h h2
theorem xor_lt_u32 {a b : Nat} (h : a < 4294967296) (h2 : b < 4294967296) : (a ^^^ b) < 4294967296 := Nat.xor_lt_two_pow (n := 32) h h2
theorem xor_lt_u64 {a b : Nat} (h : a < 18446744073709551616) (h2 : b < 18446744073709551616) : (a ^^^ b) < 18446744073709551616 := Nat.xor_lt_two_pow (n := 64) h h2
theorem bdiff_lt {a b B : Nat} (h : a < B) : bdiff a b < B := Nat.lt_of_le_of_lt (bdiff_le a b) h
theorem shr_lt {a n B : Nat} (h : a < B) : a >>> n < B := Nat.lt_of_le_of_lt (by rw [Nat.shiftRight_eq_div_pow]; exact Nat.div_le_self _ _) h
theorem shl_lt {a n m : Nat} (h : a * 2 ^ n ≤ m) (hm : m < 9223372036854775808 := by decide) : a * 2 ^ n < 9223372036854775808 := Nat.lt_of_le_of_lt h hm
def topB : IntKind → Nat → Bool
  | .i8, B => decide (B ≤ 128)
  | .i16, B => decide (B ≤ 32768)
  | .i32, B => decide (B ≤ 2147483648)
  | .i64, B => decide (B ≤ 9223372036854775808)
  | .u8, B => decide (B ≤ 256)
  | .u16, B => decide (B ≤ 65536)
  | .u32, B => decide (B ≤ 4294967296)
  | .u64, B => decide (B ≤ 18446744073709551616)
theorem fitN {k : IntKind} {n B : Nat} (h : n < B) (hk : topB k B = true) : fitI k (n : Int) := by
  cases k <;> simp only [topB, decide_eq_true_eq] at hk <;> simp only [fitI] <;> omega
theorem le_of_len {α : Type} {l : List α} {n m : Nat} (h : l.length = n) (hm : m ≤ n) : m ≤ l.length := by omega
theorem lt_of_len {α : Type} {l : List α} {n i : Nat} (h : l.length = n) (hi : i < n) : i < l.length := by omega

section
variable {f : Env} {x y : Operand} {T T2 : TypeId} {k : IntKind}
theorem PR.subN {a b : Nat} (hx : evO f x = some (.int k (a : Int))) (hy : evO f y = some (.int k (b : Int))) (hl : b ≤ a) (hf : fitI k ((a : Int) - b)) : PR P f (.binOp .sub T x y T2) (.int k ((a - b : Nat) : Int)) := by
  have h := PR.sub (P := P) (T := T) (T2 := T2) hx hy hf
  have e : ((a : Int) - b) = ((a - b : Nat) : Int) := by omega
  rw [e] at h; exact h
theorem PR.subU {a b : Nat} (hx : evO f x = some (.int k (a : Int))) (hy : evO f y = some (.int k (b : Int))) (hk : 0 < uB k) (hb : b ≤ uB k) : PR P f (.binOp .sub T x y T2) (.int k (((a + (uB k - b)) % uB k : Nat) : Int)) := run_bin (w := default) (fun w => by
  have e : k.wrap ((a : Int) - b) = k.wrap ((a + (uB k - b) : Nat) : Int) := by
    have hp := uB_pow hk
    have hs : k.signed = false := by cases k <;> simp only [uB] at hk <;> first | omega | rfl
    have e1 : ((a + (uB k - b) : Nat) : Int) = (a : Int) - b + (2 : Int) ^ k.bits := by
      have : ((uB k : Nat) : Int) = (2 : Int) ^ k.bits := by rw [hp]; simp
      rw [← this]; omega
    simp only [IntKind.wrap, hs, e1, Int.add_emod_right]
  simp only [binOp, Op.intArith, ne_eq, not_true_eq_false, if_false, Sem.run_pure]
  rw [e, wrap_u _ hk]) hx hy
theorem PR.idxAddrA1 {b off i len : Nat} {a : Bool} (hT : tyE P T = some (len, a, 1)) (h : evO f x = some (.pointer (some ⟨b, off, none⟩))) (hi : evO f y = some (.int k (i : Int))) (hl : i < len) : PR P f (.indexAddr T x y) (.pointer (some ⟨b, off + i, none⟩)) := by
  have := PR.idxAddrA (P := P) hT h hi hl
  rw [Nat.mul_one] at this; exact this
theorem PR.idxAddrS1 {b off i len c by_ : Nat} {e : TypeId} (hT : tyS P T = some (e, 1, by_)) (h : evO f x = some (.slice (some ⟨b, off, none⟩) len c)) (hi : evO f y = some (.int k (i : Int))) (hl : i < len) : PR P f (.indexAddr T x y) (.pointer (some ⟨b, off + i, none⟩)) := by
  have := PR.idxAddrS (P := P) hT h hi hl
  rw [Nat.mul_one] at this; exact this
theorem arrU_get0 {n i : Nat} {c : Nat → Nat} (h : i < n) : (arrU k n c)[0 + i]? = some (.int k ((c i : Nat) : Int)) := by rw [Nat.zero_add]; exact arrU_get h
theorem arrZ_get0 {n i : Nat} {c : Nat → Int} (h : i < n) : (arrZ k n c)[0 + i]? = some (.int k (c i)) := by rw [Nat.zero_add]; exact arrZ_get h
theorem arrU_get1 {n i : Nat} {c : Nat → Nat} (h : i < n) : (arrU k n c)[i * 1]? = some (.int k ((c i : Nat) : Int)) := by rw [Nat.mul_one]; exact arrU_get h
theorem arrZ_get1 {n i : Nat} {c : Nat → Int} (h : i < n) : (arrZ k n c)[i * 1]? = some (.int k (c i)) := by rw [Nat.mul_one]; exact arrZ_get h
theorem arrU_set0 {n i v : Nat} {c : Nat → Nat} : (arrU k n c).set (0 + i) (.int k ((v : Nat) : Int)) = arrU k n (upd c i v) := by rw [Nat.zero_add]; exact arrU_set
theorem arrZ_set0 {n i : Nat} {v : Int} {c : Nat → Int} : (arrZ k n c).set (0 + i) (.int k v) = arrZ k n (upd c i v) := by rw [Nat.zero_add]; exact arrZ_set
theorem PR.eqlB {a b : Bool} (hT : P.underlying T = some .bool) (hx : evO f x = some (.bool a)) (hy : evO f y = some (.bool b)) : PR P f (.binOp .eql T x y T2) (.bool (a == b)) := fun ρ hρ _ _ _ _ _ w => by
  have hx := hρ _ _ hx
  have hy := hρ _ _ hy
  have e : (Op.equalIn Op.maxDepth T (.bool a) (.bool b)).run P w = .ok (a == b) w := by
    unfold Op.maxDepth Op.equalIn
    simp [run_und hT]
  simp [execOp, hx, hy, eqGuard, binOp, Op.equal, e]
theorem PR.neqB {a b : Bool} (hT : P.underlying T = some .bool) (hx : evO f x = some (.bool a)) (hy : evO f y = some (.bool b)) : PR P f (.binOp .neq T x y T2) (.bool (!(a == b))) := fun ρ hρ _ _ _ _ _ w => by
  have hx := hρ _ _ hx
  have hy := hρ _ _ hy
  have e : (Op.equalIn Op.maxDepth T (.bool a) (.bool b)).run P w = .ok (a == b) w := by
    unfold Op.maxDepth Op.equalIn
    simp [run_und hT]
  simp [execOp, hx, hy, eqGuard, binOp, Op.equal, e]

theorem PR.eqlS {a : Int} (hx : evO f x = some (.int k a)) (hy : evO f y = some (.int k a)) : PR P f (.binOp .eql T x y T2) (.bool true) := by
  have := PR.eql (P := P) (T := T) (T2 := T2) hx hy
  rwa [decide_eq_true (rfl : a = a)] at this
theorem PR.neqS {a : Int} (hx : evO f x = some (.int k a)) (hy : evO f y = some (.int k a)) : PR P f (.binOp .neq T x y T2) (.bool false) := by
  have := PR.neq (P := P) (T := T) (T2 := T2) hx hy
  rwa [decide_eq_true (rfl : a = a)] at this
theorem toNat_mod_lt {n : Int} {B : Nat} (h : 0 < B) : (n % (B : Int)).toNat < B := by
  have h1 := Int.emod_lt_of_pos n (show (0 : Int) < B by omega)
  have h2 := Int.emod_nonneg n (show (B : Int) ≠ 0 by omega)
  omega
theorem PR.convN {k k2 : IntKind} {n : Int} {B : Nat} (hT : tyI P T2 = some k2) (h : evO f x = some (.int k n)) (hk : uB k2 = B ∧ 0 < B) {ds : TypeDesc} (hs : P.underlying T = some ds) : PR P f (.convert T T2 x) (.int k2 (((n % (B : Int)).toNat : Nat) : Int)) := by
  have h1 := PR.convW (P := P) hT h hs
  have e : k2.wrap n = (((n % (B : Int)).toNat : Nat) : Int) := by
    obtain ⟨hb, hB⟩ := hk
    have hp := uB_pow (k := k2) (by omega)
    have hs : k2.signed = false := by cases k2 <;> simp only [uB] at hb <;> first | omega | rfl
    have h2 := Int.emod_nonneg n (show (B : Int) ≠ 0 by omega)
    have e2 : (2 : Int) ^ k2.bits = (B : Int) := by rw [← hb, hp]; simp
    simp only [IntKind.wrap, hs, e2]
    simp only [Bool.false_and, Bool.false_eq_true, if_false]
    omega
  rw [e] at h1; exact h1

/-! ### composite values -/
def setAll (off : Nat) (z : List Value) (vs : List Value) : List Value := vs.zipIdx.foldl (fun cs x => cs.set (off + x.2) x.1) z
def fillL (pl : List (Nat × Nat)) (z : List Value) : List (Nat × Value) → Option (List Value)
  | [] => some z
  | (i, v) :: rest => match pl[i]? with
    | none => none
    | some (off, n) => if v.cells.size = n ∧ off + n ≤ z.length then fillL pl (setAll off z v.cells.toList) rest else none
theorem setAll_arr (off : Nat) (z : List Value) (vs : Array Value) : vs.zipIdx.foldl (fun (cs : Array Value) (x : Value × Nat) => cs.setIfInBounds (off + x.2) x.1) z.toArray = (setAll off z vs.toList).toArray := by
  rw [← Array.foldl_toList, Array.toList_zipIdx]
  unfold setAll
  generalize vs.toList.zipIdx = l
  induction l generalizing z with
  | nil => rfl
  | cons a l ih => simp only [List.foldl_cons, List.setIfInBounds_toArray]; exact ih _
theorem setAll_len (off : Nat) (z vs : List Value) : (setAll off z vs).length = z.length := by
  unfold setAll
  generalize vs.zipIdx = l
  induction l generalizing z with
  | nil => rfl
  | cons a l ih => rw [List.foldl_cons, ih, List.length_set]
theorem fill_eq (pl : List (Nat × Nat)) : ∀ (ps : List (Nat × Value)) (z cs : List Value), fillL pl z ps = some cs → Instr.fill (pl[·]?) z.toArray ps = some cs.toArray
  | [], z, cs, h => by simp only [fillL, Option.some.injEq] at h; subst h; rfl
  | (i, v) :: rest, z, cs, h => by
    unfold fillL at h
    unfold Instr.fill
    cases hp : pl[i]? with
    | none => simp [hp] at h
    | some q =>
      obtain ⟨off, n⟩ := q
      simp only [hp] at h ⊢
      split at h
      · rename_i hc
        have hg : (decide (v.cells.size ≠ n) || decide (off + v.cells.size > z.toArray.size)) = false := by simp; omega
        rw [if_neg (by simpa using ⟨hc.1, by rw [hc.1]; exact hc.2⟩)]
        have e := setAll_arr off z v.cells
        rw [e]
        exact fill_eq pl rest _ _ h
      · cases h
/-- where a composite type's parts lie, and its zero cells -/
def tyB (P : Program) (T : TypeId) : Option (List (Nat × Nat) × List Value) :=
  match tyZ P T, P.underlying T with
  | some z, some (.struct fs) => match fs.toList.mapM (fun f => (tyA P f.type).map fun a => (f.offset, a.2)) with
    | some pl => some (pl, z.cells.toList)
    | none => none
  | some z, some (.array n e) => match tyA P e with
    | some a => some ((List.range n).map fun i => (i * a.2, a.2), z.cells.toList)
    | none => none
  | _, _ => none
theorem fill_arr (n s : Nat) : ∀ (ps : List (Nat × Value)) (z cs : List Value), fillL ((List.range n).map fun i => (i * s, s)) z ps = some cs → Instr.fill (fun i => some (i * s, s)) z.toArray ps = some cs.toArray
  | [], z, cs, h => by simp only [fillL, Option.some.injEq] at h; subst h; rfl
  | (i, v) :: rest, z, cs, h => by
    unfold fillL at h
    unfold Instr.fill
    by_cases hi : i < n
    · have hp : ((List.range n).map fun i => (i * s, s))[i]? = some (i * s, s) := by simp [hi]
      simp only [hp] at h ⊢
      split at h
      · rename_i hc
        rw [if_neg (by simpa using ⟨hc.1, by rw [hc.1]; exact hc.2⟩)]
        have e := setAll_arr (i * s) z v.cells
        rw [e]
        exact fill_arr n s rest _ _ h
      · cases h
    · have hp : ((List.range n).map fun i => (i * s, s))[i]? = none := by simp; omega
      simp [hp] at h
theorem run_places (w : World) : ∀ (fs : List Field) (pl : List (Nat × Nat)), fs.mapM (fun f => (tyA P f.type).map fun a => (f.offset, a.2)) = some pl → (fs.mapM (m := Sem) fun f => do pure (f.offset, ← sizeOf f.type)).run P w = .ok pl w
  | [], pl, h => by simp only [List.mapM_nil, Option.pure_def, Option.some.injEq] at h; subst h; rfl
  | f :: fs, pl, h => by
    rw [List.mapM_cons] at h ⊢
    cases ha : tyA P f.type with
    | none => simp [ha] at h
    | some a =>
      cases hr : fs.mapM (fun f => (tyA P f.type).map fun a => (f.offset, a.2)) with
      | none => simp [ha, hr] at h
      | some pl' =>
        simp only [ha, hr, Option.map_some, Option.bind_eq_bind, Option.bind_some, Option.pure_def, Option.some.injEq] at h
        subst h
        have h1 := (tyA_spec (w := w) (a := a.1) (n := a.2) ha).2
        simp only [Sem.run_bind, h1, Result.andThen_ok, Sem.run_pure, run_places w fs pl' hr]
def evP (f : Env) : List (Nat × Operand) → Option (List (Nat × Value))
  | [] => some []
  | (i, x) :: xs => match evO f x, evP f xs with
    | some v, some vs => some ((i, v) :: vs)
    | _, _ => none
theorem Val.parts {f : Env} {ρ : Operand → Value} (h : Val f ρ) : ∀ {xs : List (Nat × Operand)} {vs : List (Nat × Value)}, evP f xs = some vs → xs.map (fun q => (q.1, ρ q.2)) = vs
  | [], vs, e => by simp only [evP, Option.some.injEq] at e; subst e; rfl
  | (i, x) :: xs, vs, e => by
    unfold evP at e
    split at e
    · rename_i v us hv hus
      simp only [Option.some.injEq] at e
      subst e
      simp only [List.map_cons, h _ _ hv, h.parts hus]
    · cases e
theorem PR.build {ps : List (Nat × Value)} {parts : List (Nat × Operand)} {pl : List (Nat × Nat)} {z cs : List Value} (hB : tyB P T = some (pl, z)) (hp : evP f parts = some ps) (hf : fillL pl z ps = some cs) : PR P f (.build T parts.toArray) (.agg cs.toArray) := fun ρ hρ _ _ _ _ _ w => by
  have hp := hρ.parts hp
  unfold tyB at hB
  split at hB
  · rename_i zv fs hz hu
    split at hB
    · rename_i pl' hpl
      simp only [Option.some.injEq, Prod.mk.injEq] at hB
      obtain ⟨h1, h2⟩ := hB
      subst h1
      have hfs : fs.toList.toArray = fs := by simp
      have hm : (fs.mapM (m := Sem) fun f => do pure (f.offset, ← sizeOf f.type)).run P w = .ok pl'.toArray w := by
        rw [← hfs, List.mapM_toArray]
        simp only [Sem.run_map, run_places w fs.toList pl' hpl, Result.andThen_ok]
      have hfill := fill_eq pl' ps z cs hf
      have hzc : zv.cells = z.toArray := by rw [← h2]
      simp only [execOp, Instr.build, Sem.run_bind, tyZ_spec hz, Result.andThen_ok, run_und hu, hm, hzc]
      have e : (parts.toArray.map fun (x : Nat × Operand) => match x with | (i, x) => (i, ρ x)).toList = ps := by
        rw [← hp]; simp
      simp only [e]
      have e2 : (fun x : Nat => pl'.toArray[x]?) = fun x => pl'[x]? := by funext x; simp
      simp only [e2, hfill, Sem.run_pure, Result.andThen_ok]
    · cases hB
  · rename_i zv n el hz hu
    split at hB
    · rename_i a ha
      simp only [Option.some.injEq, Prod.mk.injEq] at hB
      obtain ⟨h1, h2⟩ := hB
      rw [← h1] at hf
      have hfill := fill_arr n a.2 ps z cs hf
      have hzc : zv.cells = z.toArray := by rw [← h2]
      have h1 := (tyA_spec (w := w) (a := a.1) (n := a.2) ha).2
      have e : (parts.toArray.map fun (x : Nat × Operand) => match x with | (i, x) => (i, ρ x)).toList = ps := by
        rw [← hp]; simp
      simp only [execOp, Instr.build, Sem.run_bind, tyZ_spec hz, Result.andThen_ok, run_und hu, h1, hzc, e, hfill, Sem.run_pure]
    · cases hB
  · cases hB
end

section
variable {f : Env} {x y : Operand} {T T2 : TypeId} {k : IntKind}
theorem PR.addW {a b : Int} (hx : evO f x = some (.int k a)) (hy : evO f y = some (.int k b)) : PR P f (.binOp .add T x y T2) (.int k (k.wrap (a + b))) := run_bin (w := default) (fun w => by simp [binOp, Op.intArith]) hx hy
theorem PR.subW {a b : Int} (hx : evO f x = some (.int k a)) (hy : evO f y = some (.int k b)) : PR P f (.binOp .sub T x y T2) (.int k (k.wrap (a - b))) := run_bin (w := default) (fun w => by simp [binOp, Op.intArith]) hx hy
theorem PR.mulW {a b : Int} (hx : evO f x = some (.int k a)) (hy : evO f y = some (.int k b)) : PR P f (.binOp .mul T x y T2) (.int k (k.wrap (a * b))) := run_bin (w := default) (fun w => by simp [binOp, Op.intArith]) hx hy
theorem PR.shlZ {a : Nat} {z : Int} {k2 : IntKind} (hx : evO f x = some (.int k (a : Int))) (hy : evO f y = some (.int k2 z)) (hz : 0 ≤ z) (hk : 0 < uB k) : PR P f (.binOp .shl T x y T2) (.int k (((a <<< z.toNat) % uB k : Nat) : Int)) :=
  PR.shl (n := z.toNat) hx (by rw [hy, Int.toNat_of_nonneg hz]) hk
theorem PR.max2 {ts : Array TypeId} {a b : Int} (hx : evO f x = some (.int k a)) (hy : evO f y = some (.int k b)) : PR P f (.call ⟨.builtin .max, #[x, y], ts⟩) (.int k (max a b)) := fun ρ hρ _ _ _ _ _ w => by
  have hx := hρ _ _ hx
  have hy := hρ _ _ hy
  have e : (if b > a then b else a) = max a b := by split <;> omega
  simp [execOp, resolve, invoke, builtin, Builtin.max_, Builtin.max2, hx, hy, e]
theorem PR.min2 {ts : Array TypeId} {a b : Int} (hx : evO f x = some (.int k a)) (hy : evO f y = some (.int k b)) : PR P f (.call ⟨.builtin .min, #[x, y], ts⟩) (.int k (min a b)) := fun ρ hρ _ _ _ _ _ w => by
  have hx := hρ _ _ hx
  have hy := hρ _ _ hy
  have e : (if b < a then b else a) = min a b := by split <;> omega
  simp [execOp, resolve, invoke, builtin, Builtin.min_, Builtin.min2, hx, hy, e]
theorem PR.max2N {ts : Array TypeId} {a b : Nat} (hx : evO f x = some (.int k (a : Int))) (hy : evO f y = some (.int k (b : Int))) : PR P f (.call ⟨.builtin .max, #[x, y], ts⟩) (.int k ((max a b : Nat) : Int)) := by
  have h := PR.max2 (P := P) (ts := ts) hx hy
  have e : max (a : Int) (b : Int) = ((max a b : Nat) : Int) := by omega
  rwa [e] at h
theorem PR.min2N {ts : Array TypeId} {a b : Nat} (hx : evO f x = some (.int k (a : Int))) (hy : evO f y = some (.int k (b : Int))) : PR P f (.call ⟨.builtin .min, #[x, y], ts⟩) (.int k ((min a b : Nat) : Int)) := by
  have h := PR.min2 (P := P) (ts := ts) hx hy
  have e : min (a : Int) (b : Int) = ((min a b : Nat) : Int) := by omega
  rwa [e] at h
end

/-! ### several results, some of them in variables -/
inductive ResMany (P : Program) (f : Env) (w : World) : List ResultVar → List Value → Prop
  | nil : ResMany P f w [] []
  | tmp {t : Tmp} {v : Value} {rs : List ResultVar} {vs : List Value} (h : lk f t = some v) (r : ResMany P f w rs vs) : ResMany P f w (.tmp t :: rs) (v :: vs)
  | cell {q : Tmp} {T : TypeId} {b n : Nat} {us : List Value} {rs : List ResultVar} {vs : List Value} (hT : tyA P T = some (true, n)) (hq : lk f q = some (.pointer (some ⟨b, 0, Option.none⟩))) (hl : us.length = n) (hc : RdA w b 0 us) (r : ResMany P f w rs vs) : ResMany P f w (.cell q T :: rs) (.agg us.toArray :: vs)
theorem run_many {n : Nat} {a : Act} {f : Env} {w : World} {rs : List ResultVar} {vs : List Value} (ha : Agr n a f) (h : ResMany P f w rs vs) :
    (rs.mapM (m := Sem) fun
    | .tmp t => pure (a.tmps.getD t undef)
    | .cell q t => do loadVar t (← asAddr (a.tmps.getD q undef))).run P w = .ok vs w := by
  induction h with
  | nil => rfl
  | @tmp t v rs vs h r ih =>
    rw [List.mapM_cons]
    simp only [Sem.run_bind, Sem.run_pure, Result.andThen_ok, ha.getD h, ih]
  | @cell q T b n us rs vs hT hq hl hc r ih =>
    rw [List.mapM_cons]
    have hld := run_loadA (P := P) (w := w) (off := 0) hT hl hc.2
    have haa : (asAddr (.pointer (some ⟨b, 0, Option.none⟩)) : Sem Addr) = Pure.pure ⟨b, 0, Option.none⟩ := rfl
    simp only [Sem.run_bind, Sem.run_pure, Result.andThen_ok, ha.getD hq, haa, hld, ih]
theorem postL.many {n : Nat} {fn : Func} {R : Ending → World → Prop} {f : Env} {w : World} {rvs : List ResultVar} {v v2 : Value} {vs : List Value} (hr : fn.results = rvs.toArray) (h : ResMany P f w rvs (v :: v2 :: vs)) (hR : R (.returned (.tuple (v :: v2 :: vs).toArray)) w) : postL P n fn R .ret f w := fun a ha => by
  refine bodyPost_ret (v := .tuple (v :: v2 :: vs).toArray) ?_ ha.2.1 hR
  have hm := run_many ha h
  unfold results
  rw [hr, List.mapM_toArray]
  simp only [Sem.run_bind, Sem.run_map]
  erw [hm]
  simp
end Go.Proofs.Ytagghfllgafmgaa
