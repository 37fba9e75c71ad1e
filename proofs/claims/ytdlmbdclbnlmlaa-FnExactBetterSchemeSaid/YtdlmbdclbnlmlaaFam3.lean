/-
  Plain laws: which of two schemes is better.
-/
import Derived.Test.YtdlmbdclbnlmlaaFam2
import Derived.Test.YtdlmbdclbnlmlaaRat
import Derived.Test.YtdlmbdclbnlmlaaGcd
namespace Go.Proofs.Ytdlmbdclbnlmlaa
set_option linter.unusedVariables false
set_option linter.unusedSimpArgs false
open Go.RowKit
def btV (c1 c2 : Nat) (z p q : Int) : Int := if c1 = 0 ∧ c2 = 0 then (if z = 0 then cmpZ q p else z) else 0
def btC (c1 c2 : Nat) : Nat := if c1 = 1 ∨ c2 = 1 then 1 else if c1 ≠ 0 ∨ c2 ≠ 0 then 4 else 0
section
variable {c1 c2 : Nat} {z p q u v : Int}
theorem bt_1 (h : c1 = 1 ∨ c2 = 1) : Value.tuple #[.int .i64 0, .int .i64 1] = .tuple #[.int .i64 (btV c1 c2 z p q), .int .i64 ((btC c1 c2 : Nat) : Int)] := by
  unfold btV btC; rw [if_pos h, if_neg (by omega)]; rfl
theorem bt_4 (h1 : ¬ c1 = 1) (h2 : ¬ c2 = 1) (h : c1 ≠ 0 ∨ c2 ≠ 0) (hu : u = 4) : Value.tuple #[.int .i64 0, .int .i64 u] = .tuple #[.int .i64 (btV c1 c2 z p q), .int .i64 ((btC c1 c2 : Nat) : Int)] := by
  unfold btV btC; rw [if_neg (by omega), if_pos h, if_neg (by omega), hu]; rfl
theorem bt_0 (h1 : c1 = 0) (h2 : c2 = 0) (hv : v = if z = 0 then cmpZ q p else z) : Value.tuple #[.int .i64 v, .int .i64 0] = .tuple #[.int .i64 (btV c1 c2 z p q), .int .i64 ((btC c1 c2 : Nat) : Int)] := by
  subst hv h1 h2; rfl
theorem selZ_0 {c : Nat} {n : Int} (h : c = 0) : selZ c n = n := by unfold selZ; rw [if_pos h]
theorem selN_0' {c n : Nat} (h : c = 0) : selN c n = n := by unfold selN; rw [if_pos h]
end
theorem nat_i16 {k : Nat} (h : k ≤ 8) : -32768 ≤ (k : Int) ∧ (k : Int) ≤ 32767 := by omega
theorem bt_s1 {zs z p q : Int} (h : zs = z) (hn : ¬ zs = 0) : zs = if z = 0 then cmpZ q p else z := by subst h; rw [if_neg hn]
theorem bt_s2 {zs z p q v : Int} (h : zs = z) (hz : zs = 0) (hv : v = cmpZ q p) : v = if z = 0 then cmpZ q p else z := by subst h; rw [if_pos hz, hv]
theorem svC_04 {s p m : Int} {a b : Nat → Nat} {f : Nat} (h1 : schOk s p a b = true) (h2 : famOk m f = true) : svC s p a b m f = 0 ∨ svC s p a b m f = 4 := by
  by_cases h : s = m ∧ failZ p.toNat a b (1 <<< m.toNat) f < 0
  · exact .inl (svC_0 h1 h2 h).symm
  · exact .inr (svC_4 h1 h2 h).symm
theorem svC_n1 {s p m : Int} {a b : Nat → Nat} {f : Nat} (h1 : schOk s p a b = true) (h2 : famOk m f = true) : ¬ svC s p a b m f = 1 := by
  rcases svC_04 h1 h2 with h | h <;> omega
theorem lrat_bd {a b : Nat → Nat} (ha : ∀ k, a k < 256) (hb : ∀ k, b k < 256) (f N p : Nat) (hp : p ≤ 8) : (-32768 ≤ (lgF a b f N).tdiv ((Nat.gcd (lgF a b f N).natAbs p : Nat) : Int) ∧ (lgF a b f N).tdiv ((Nat.gcd (lgF a b f N).natAbs p : Nat) : Int) ≤ 32767) ∧ p / Nat.gcd (lgF a b f N).natAbs p ≤ 8 := by
  have h1 := lg_bd (f := f) ha hb N
  have h2 := tdiv_bd (n := lgF a b f N) (g := Nat.gcd (lgF a b f N).natAbs p) (B := 8) (by omega)
  have h3 := div_bd (d := p) (g := Nat.gcd (lgF a b f N).natAbs p) (B := 8) hp
  omega
end Go.Proofs.Ytdlmbdclbnlmlaa
