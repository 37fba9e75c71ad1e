/-
  Plain laws: the ratio of a gap, in lowest terms.
-/
import Derived.Test.YtdlmbdclbnlmlaaSchA
namespace Go.Proofs.Ytdlmbdclbnlmlaa
set_option linter.unusedVariables false
set_option linter.unusedSimpArgs false
open Go.RowKit
variable {P : Program}
theorem PR.abs2 {f : Env} {x y : Operand} {k : IntKind} {ts : Array TypeId} {n : Int} (hx : evO f x = some (.int k n)) (hy : evO f y = some (.int k (-n))) : PR P f (.call ⟨.builtin .max, #[x, y], ts⟩) (.int k ((n.natAbs : Nat) : Int)) := by
  have h := PR.max2 (P := P) (ts := ts) hx hy
  rwa [show max n (-n) = ((n.natAbs : Nat) : Int) by omega] at h
theorem gcd_next {u v g : Nat} (h : Nat.gcd u v = g) : Nat.gcd v (u % v) = g := by
  rw [← h, Nat.gcd_comm u v, Nat.gcd_rec v u, Nat.gcd_comm]
theorem gcd_pos {n d : Nat} (h : 1 ≤ d) : 1 ≤ Nat.gcd n d := Nat.gcd_pos_of_pos_right _ h
theorem tdiv_bd {n : Int} {g : Nat} {B : Nat} (h : n.natAbs ≤ B) : -(B : Int) ≤ n.tdiv g ∧ n.tdiv g ≤ B := by
  have h1 : (n.tdiv (g : Int)).natAbs = n.natAbs / g := by rw [Int.natAbs_tdiv]; rfl
  have h2 : n.natAbs / g ≤ n.natAbs := Nat.div_le_self _ _
  omega
theorem div_bd {d g B : Nat} (h : d ≤ B) : d / g ≤ B := Nat.le_trans (Nat.div_le_self _ _) h
theorem div_fit {d g : Nat} (h : d ≤ 1000) : fitI .i64 ((d : Int) / (g : Int)) := by
  have := div_bd (g := g) h
  rw [← Int.natCast_ediv]
  generalize d / g = q at *
  simp only [fitI]; omega
theorem div_fit16 {d g : Nat} (h : d ≤ 1000) : fitI .i16 (((d / g : Nat) : Int)) := by
  have := div_bd (g := g) h
  generalize d / g = q at *
  simp only [fitI]; omega
def rtN (s p : Int) (a b : Nat → Nat) (x : Nat) : Int := if asked s p a b x = 0 then (gapZ a b x).tdiv ((Nat.gcd (gapZ a b x).natAbs p.toNat : Nat) : Int) else 0
def rtD (s p : Int) (a b : Nat → Nat) (x : Nat) : Nat := if asked s p a b x = 0 then p.toNat / Nat.gcd (gapZ a b x).natAbs p.toNat else 0
theorem rt_f {s p : Int} {a b : Nat → Nat} {x : Nat} (h : ¬ asked s p a b x = 0) : Value.tuple #[.agg [.int .i16 0, .int .i16 0].toArray, .int .i64 ((asked s p a b x : Nat) : Int)] = .tuple #[.agg [.int .i16 (rtN s p a b x), .int .i16 ((rtD s p a b x : Nat) : Int)].toArray, .int .i64 ((asked s p a b x : Nat) : Int)] := by
  unfold rtN rtD; rw [if_neg h, if_neg h]; rfl
theorem rt_t {s : Int} {m : Nat} {a b : Nat → Nat} {x : Nat} (h : asked s (m : Int) a b x = 0) : Value.tuple #[.agg [.int .i16 ((gapZ a b x).tdiv ((Nat.gcd (gapZ a b x).natAbs m : Nat) : Int)), .int .i16 ((m / Nat.gcd (gapZ a b x).natAbs m : Nat) : Int)].toArray, .int .i64 0] = .tuple #[.agg [.int .i16 (rtN s (m : Int) a b x), .int .i16 ((rtD s (m : Int) a b x : Nat) : Int)].toArray, .int .i64 ((asked s (m : Int) a b x : Nat) : Int)] := by
  unfold rtN rtD; rw [if_pos h, if_pos h, h]; rfl
attribute [irreducible] rtN rtD
end Go.Proofs.Ytdlmbdclbnlmlaa
