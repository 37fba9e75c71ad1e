/-
  Contracts of functions, printed by a program of ours.
-/
import Derived.Test.YtjkicobdokcjfaaCS4
import Derived.Test.YtjkicobdokcjfaaGcd
namespace Go.Proofs.Ytjkicobdokcjfaa
open Go.RowKit
set_option linter.unusedVariables false
set_option linter.unusedSimpArgs false

set_option maxHeartbeats 400000 in
set_option maxRecDepth 4000 in
theorem c_laws_eqRatio {n : Int} {d : Int} {w : World} :
    CE Try.prog 28 [.agg ([.int .i16 (n), .int .i16 (d)]).toArray, .agg ([.int .i16 (n), .int .i16 (d)]).toArray] w (RetV w (.bool true)) := by
  refine CE.enter 15 [(0, .agg ([.int .i16 (n), .int .i16 (d)]).toArray), (1, .agg ([.int .i16 (n), .int .i16 (d)]).toArray)] en_28 Try.func28 rfl rfl (Nat.le_of_ble_eq_true rfl) rfl ?_
  have st := St.start w
  refine Wc.seq ?_
  refine Wc.region rfl ?_
  refine Wl.boxA st rfl ?_
  clear st
  intro b2 w1 st
  refine Wl.boxA st rfl ?_
  clear st
  intro b3 w2 st
  refine Wl.pure (PR.assB rfl) ?_
  refine Wl.nil ?_
  refine tn ?_
  refine Wc.seq ?_
  refine Wc.seq ?_
  refine Wc.region rfl ?_
  refine Wl.pure (PR.fieldAddr tF_27_0 rfl) ?_
  refine Wl.load (i := 1) st tA_22 rfl rfl (rfl) ?_
  refine Wl.pure (PR.fieldAddr tF_27_0 rfl) ?_
  refine Wl.load (i := 0) st tA_22 rfl rfl (rfl) ?_
  refine Wl.pure (PR.neqS (a := n) rfl rfl) ?_
  refine Wl.nil ?_
  refine tn ?_
  refine Wc.condF rfl ?_
  refine Wc.skip ?_
  refine tn ?_
  refine Wc.seq ?_
  refine Wc.seq ?_
  refine Wc.region rfl ?_
  refine Wl.pure (PR.fieldAddr tF_27_1 rfl) ?_
  refine Wl.load (i := 1) st tA_22 rfl rfl (rfl) ?_
  refine Wl.pure (PR.fieldAddr tF_27_1 rfl) ?_
  refine Wl.load (i := 0) st tA_22 rfl rfl (rfl) ?_
  refine Wl.pure (PR.neqS (a := d) rfl rfl) ?_
  refine Wl.nil ?_
  refine tn ?_
  refine Wc.condF rfl ?_
  refine Wc.skip ?_
  refine tn ?_
  refine Wc.seq ?_
  refine Wc.region rfl ?_
  refine Wl.pure (PR.assB rfl) ?_
  refine Wl.nil ?_
  refine tn ?_
  refine Wc.ret ?_
  refine postL.tmp rfl rfl ?_
  exact RetV.of rfl st.below

set_option maxHeartbeats 400000 in
set_option maxRecDepth 4000 in
theorem c_l00Max_abs {n : Int} {w : World} :
    CE Try.prog 63 [.int .i64 (n), .int .i64 ((-n))] w (RetV w (.int .i64 ((((n).natAbs : Nat) : Int)))) := by
  refine CE.enter 10 [(0, .int .i64 (n)), (1, .int .i64 ((-n)))] en_63 Try.func63 rfl rfl (Nat.le_of_ble_eq_true rfl) rfl ?_
  have st := St.start w
  refine Wc.seq ?_
  refine Wc.region rfl ?_
  refine Wl.pure (PR.assI rfl) ?_
  refine Wl.nil ?_
  refine tn ?_
  refine Wc.seq ?_
  refine Wc.seq ?_
  refine Wc.region rfl ?_
  refine Wl.pure (PR.moveI rfl) ?_
  refine Wl.pure (PR.moveI rfl) ?_
  refine Wl.pure (PR.gtr (a := n) (b := (-n)) rfl rfl) ?_
  refine Wl.nil ?_
  refine tn ?_
  refine Wc.condD (p := (-n) < n) rfl (fun h1 => ?_) (fun h1 => ?_)
  · refine Wc.seq ?_
    refine Wc.region rfl ?_
    refine Wl.pure (PR.moveI rfl) ?_
    refine Wl.pure (PR.assI rfl) ?_
    refine Wl.nil ?_
    refine tn ?_
    refine Wc.ret ?_
    refine tr ?_
    refine postL.tmp rfl rfl ?_
    refine RetV.of ?_ st.below
    refine congrArg (Value.int .i64) ?_
    omega
  · refine Wc.skip ?_
    refine tn ?_
    refine Wc.seq ?_
    refine Wc.region rfl ?_
    refine Wl.pure (PR.moveI rfl) ?_
    refine Wl.pure (PR.assI rfl) ?_
    refine Wl.nil ?_
    refine tn ?_
    refine Wc.ret ?_
    refine postL.tmp rfl rfl ?_
    refine RetV.of ?_ st.below
    refine congrArg (Value.int .i64) ?_
    omega

set_option maxHeartbeats 400000 in
set_option maxRecDepth 4000 in
theorem c_spec_l00Max {n : Int} {m : Int} {w : World} :
    CE Try.prog 63 [.int .i64 (n), .int .i64 (m)] w (RetV w (.int .i64 ((max n m)))) := by
  refine CE.enter 10 [(0, .int .i64 (n)), (1, .int .i64 (m))] en_63 Try.func63 rfl rfl (Nat.le_of_ble_eq_true rfl) rfl ?_
  have st := St.start w
  refine Wc.seq ?_
  refine Wc.region rfl ?_
  refine Wl.pure (PR.assI rfl) ?_
  refine Wl.nil ?_
  refine tn ?_
  refine Wc.seq ?_
  refine Wc.seq ?_
  refine Wc.region rfl ?_
  refine Wl.pure (PR.moveI rfl) ?_
  refine Wl.pure (PR.moveI rfl) ?_
  refine Wl.pure (PR.gtr (a := n) (b := m) rfl rfl) ?_
  refine Wl.nil ?_
  refine tn ?_
  refine Wc.condD (p := m < n) rfl (fun h1 => ?_) (fun h1 => ?_)
  · refine Wc.seq ?_
    refine Wc.region rfl ?_
    refine Wl.pure (PR.moveI rfl) ?_
    refine Wl.pure (PR.assI rfl) ?_
    refine Wl.nil ?_
    refine tn ?_
    refine Wc.ret ?_
    refine tr ?_
    refine postL.tmp rfl rfl ?_
    refine RetV.of ?_ st.below
    refine congrArg (Value.int .i64) ?_
    omega
  · refine Wc.skip ?_
    refine tn ?_
    refine Wc.seq ?_
    refine Wc.region rfl ?_
    refine Wl.pure (PR.moveI rfl) ?_
    refine Wl.pure (PR.assI rfl) ?_
    refine Wl.nil ?_
    refine tn ?_
    refine Wc.ret ?_
    refine postL.tmp rfl rfl ?_
    refine RetV.of ?_ st.below
    refine congrArg (Value.int .i64) ?_
    omega

set_option maxHeartbeats 400000 in
set_option maxRecDepth 4000 in
theorem c_spec_l06Gcd {u : Nat} {v : Nat} {w : World} :
    CE Try.prog 62 [.int .i64 (((u : Nat) : Int)), .int .i64 (((v : Nat) : Int))] w (RetV w (.int .i64 ((((Nat.gcd u v) : Nat) : Int)))) := by
  induction v using Nat.strongRecOn generalizing u w with
  | _ v ih => ?_
  refine CE.enter 13 [(0, .int .i64 (((u : Nat) : Int))), (1, .int .i64 (((v : Nat) : Int)))] en_62 Try.func62 rfl rfl (Nat.le_of_ble_eq_true rfl) rfl ?_
  have st := St.start w
  refine Wc.seq ?_
  refine Wc.region rfl ?_
  refine Wl.pure (PR.assI rfl) ?_
  refine Wl.nil ?_
  refine tn ?_
  refine Wc.seq ?_
  refine Wc.seq ?_
  refine Wc.region rfl ?_
  refine Wl.pure (PR.moveI rfl) ?_
  refine Wl.pure (PR.eql (a := ((v : Nat) : Int)) (b := 0) rfl rfl) ?_
  refine Wl.nil ?_
  refine tn ?_
  refine Wc.condD (p := ((v : Nat) : Int) = 0) rfl (fun h1 => ?_) (fun h1 => ?_)
  · refine Wc.seq ?_
    refine Wc.region rfl ?_
    refine Wl.pure (PR.moveI rfl) ?_
    refine Wl.pure (PR.assI rfl) ?_
    refine Wl.nil ?_
    refine tn ?_
    refine Wc.ret ?_
    refine tr ?_
    refine postL.tmp rfl rfl ?_
    refine RetV.of ?_ st.below
    refine congrArg (fun x : Nat => Value.int .i64 (x : Int)) ?_
    obtain rfl : v = 0 := by omega
    exact (Nat.gcd_zero_right u).symm
  · refine Wc.skip ?_
    refine tn ?_
    refine Wc.seq ?_
    refine Wc.region rfl ?_
    refine Wl.pure (PR.moveI rfl) ?_
    refine Wl.pure (PR.moveI rfl) ?_
    refine Wl.pure (PR.moveI rfl) ?_
    refine Wl.pure (PR.rem (a := ((u : Nat) : Int)) (b := ((v : Nat) : Int)) rfl rfl (by omega) (by omega)) ?_
    refine Wl.callV ((@ih (u % v) (Nat.mod_lt _ (by omega)) v _)) rfl ?_
    intro w2 hbel
    replace st := st.call hbel
    clear hbel
    refine Wl.pure (PR.assI rfl) ?_
    refine Wl.nil ?_
    refine tn ?_
    refine Wc.ret ?_
    refine postL.tmp rfl rfl ?_
    refine RetV.of ?_ st.below
    refine congrArg (fun x : Nat => Value.int .i64 (x : Int)) ?_
    exact gcd_next rfl

set_option maxHeartbeats 400000 in
set_option maxRecDepth 4000 in
theorem c_impl_ratioOf {n : Int} {d : Nat} {w : World} (hn : -1000 ≤ n ∧ n ≤ 1000) (hd : 1 ≤ d ∧ d ≤ 1000) :
    CE Try.prog 53 [.int .i64 (n), .int .i64 (((d : Nat) : Int))] w (RetV w (.agg ([.int .i16 ((n).tdiv ((Nat.gcd ((n).natAbs) d : Nat) : Int)), .int .i16 ((((d / (Nat.gcd ((n).natAbs) d)) : Nat) : Int))]).toArray)) := by
  refine CE.enter 27 [(0, .int .i64 (n)), (1, .int .i64 (((d : Nat) : Int)))] en_53 Try.func53 rfl rfl (Nat.le_of_ble_eq_true rfl) rfl ?_
  have st := St.start w
  refine Wc.seq ?_
  refine Wc.region rfl ?_
  refine Wl.alloc st tZ_27 rfl ?_
  clear st
  intro b4 w1 st
  refine Wl.nil ?_
  refine tn ?_
  refine Wc.seq ?_
  refine Wc.region rfl ?_
  refine Wl.pure (PR.moveI rfl) ?_
  refine Wl.pure (PR.moveI rfl) ?_
  refine Wl.pure (PR.neg_ rfl (by simp only [fitI]; omega)) ?_
  refine Wl.pure (PR.abs2 (n := n) rfl rfl) ?_
  refine Wl.pure (PR.moveI rfl) ?_
  refine Wl.pure (PR.assI rfl) ?_
  refine Wl.pure (PR.assI rfl) ?_
  refine Wl.nil ?_
  refine tn ?_
  refine Wc.seq ?_
  refine Wc.block ?_
  refine Wc.loopF (γ := Nat × Nat) (fun g => [(0, .int .i64 (n)), (1, .int .i64 (((d : Nat) : Int))), (4, .pointer (some ⟨b4, 0, none⟩)), (5, .int .i64 (((g.1 : Nat) : Int))), (6, .int .i64 (((g.2 : Nat) : Int)))]) (fun g w_ => St [] w w_ [(b4, [.int .i16 (0), .int .i16 (0)], 27)] ∧ Nat.gcd g.1 g.2 = Nat.gcd n.natAbs d ∧ g.1 ≤ 1000 ∧ g.2 ≤ 1000) (fun g => g.2) ?_ ?_
  · exact ⟨(n.natAbs, d), (.cons rfl (.cons rfl (.cons rfl (.cons rfl (.cons rfl (.nil _)))))), st, rfl, (by omega)⟩
  clear st
  rintro ⟨u, v⟩ w2 ⟨st, hg, hu⟩
  try dsimp only at st hg hu ⊢
  refine Wc.seq ?_
  refine Wc.seq ?_
  refine Wc.region rfl ?_
  refine Wl.pure (PR.moveI rfl) ?_
  refine Wl.pure (PR.neq (a := ((v : Nat) : Int)) (b := 0) rfl rfl) ?_
  refine Wl.nil ?_
  refine tn ?_
  refine Wc.condN (p := ((v : Nat) : Int) = 0) rfl (fun h3 => ?_) (fun h3 => ?_)
  · refine Wc.skip ?_
    refine tn ?_
    refine Wc.block ?_
    refine Wc.quiet hmix (by kernel_rfl) rfl ?_
    refine Wq.pure (PR.moveI rfl) ?_
    refine Wq.pure (PR.moveI rfl) ?_
    refine Wq.pure (PR.moveI rfl) ?_
    refine Wq.pure (PR.rem (a := ((u : Nat) : Int)) (b := ((v : Nat) : Int)) rfl rfl (by omega) (by omega)) ?_
    refine Wq.pure (PR.assI rfl) ?_
    refine Wq.pure (PR.assI rfl) ?_
    refine Wq.nil (fun w4 hbel => ?_)
    replace st := st.call hbel
    clear hbel
    refine bn ?_
    refine tn ?_
    exact ⟨(v, (u % v)), (.cons rfl (.cons rfl (.cons rfl (.cons rfl (.cons rfl (.nil _)))))), ⟨st, (gcd_next hg), (by have := Nat.mod_lt u (show 0 < v by omega); omega)⟩, (by have := Nat.mod_lt u (show 0 < v by omega); dsimp only; omega)⟩
  · refine Wc.exit ?_
    refine tx ?_
    refine tx ?_
    refine bh ?_
    refine tn ?_
    refine Wc.seq ?_
    have hgp := gcd_pos (n := n.natAbs) hd.1
    obtain rfl : v = 0 := by omega
    rw [Nat.gcd_zero_right] at hg
    subst hg
    refine Wc.quietTail 9 hmix (by kernel_rfl) rfl ?_
    refine Wq.pure (PR.moveI rfl) ?_
    refine Wq.pure (PR.moveI rfl) ?_
    refine Wq.pure (PR.quoT (a := n) (b := (((Nat.gcd n.natAbs d) : Nat) : Int)) rfl rfl (by omega) (by have := tdiv_bd (n := n) (g := Nat.gcd n.natAbs d) (B := 1000) (by omega); simp only [fitI]; omega)) ?_
    refine Wq.pure (PR.conv (n := (n).tdiv (((Nat.gcd n.natAbs d) : Nat) : Int)) tI_22 rfl (by have := tdiv_bd (n := n) (g := Nat.gcd n.natAbs d) (B := 1000) (by omega); simp only [fitI]; omega) Try.underlying2) ?_
    refine Wq.pure (PR.moveI rfl) ?_
    refine Wq.pure (PR.moveI rfl) ?_
    refine Wq.pure (PR.quo (a := ((d : Nat) : Int)) (b := (((Nat.gcd n.natAbs d) : Nat) : Int)) rfl rfl (by omega) (by omega) (div_fit hd.2)) ?_
    refine Wq.pure (PR.conv (n := (((d / (Nat.gcd n.natAbs d)) : Nat) : Int)) tI_22 rfl (div_fit16 hd.2) Try.underlying2) ?_
    refine Wq.pure (PR.build (ps := [(0, .int .i16 ((n).tdiv (((Nat.gcd n.natAbs d) : Nat) : Int))), (1, .int .i16 ((((d / (Nat.gcd n.natAbs d)) : Nat) : Int)))]) (cs := [.int .i16 ((n).tdiv (((Nat.gcd n.natAbs d) : Nat) : Int)), .int .i16 ((((d / (Nat.gcd n.natAbs d)) : Nat) : Int))]) tB_27 rfl rfl) ?_
    refine Wq.nil (fun w5 hbel => ?_)
    replace st := st.call hbel
    clear hbel
    refine Wl.storeA (i := 0) (cs' := [.int .i16 ((n).tdiv (((Nat.gcd n.natAbs d) : Nat) : Int)), .int .i16 ((((d / (Nat.gcd n.natAbs d)) : Nat) : Int))]) st tA_27 rfl rfl rfl (by simp [Value.oneCell']) rfl (by simp) rfl ?_
    clear st
    intro w6 st
    replace st : St [] w w6 [(b4, [.int .i16 ((n).tdiv (((Nat.gcd n.natAbs d) : Nat) : Int)), .int .i16 ((((d / (Nat.gcd n.natAbs d)) : Nat) : Int))], 27)] := st
    refine Wl.nil ?_
    refine tn ?_
    refine Wc.ret ?_
    refine postL.cell (i := 0) st rfl tA_27 rfl rfl rfl ?_
    refine RetV.of ?_ st.below
    first | rfl | simp_all

set_option maxHeartbeats 400000 in
set_option maxRecDepth 4000 in
theorem c_spec_l06Ratio {n : Int} {d : Nat} {w : World} (hn : -1000 ≤ n ∧ n ≤ 1000) (hd : 1 ≤ d ∧ d ≤ 1000) :
    CE Try.prog 52 [.int .i64 (n), .int .i64 (((d : Nat) : Int))] w (RetV w (.agg ([.int .i16 ((n).tdiv ((Nat.gcd ((n).natAbs) d : Nat) : Int)), .int .i16 ((((d / (Nat.gcd ((n).natAbs) d)) : Nat) : Int))]).toArray)) := by
  refine CE.enter 21 [(0, .int .i64 (n)), (1, .int .i64 (((d : Nat) : Int)))] en_52 Try.func52 rfl rfl (Nat.le_of_ble_eq_true rfl) rfl ?_
  have st := St.start w
  refine Wc.seq ?_
  refine Wc.region rfl ?_
  refine Wl.alloc st tZ_27 rfl ?_
  clear st
  intro b4 w1 st
  refine Wl.nil ?_
  refine tn ?_
  refine Wc.seq ?_
  refine Wc.region rfl ?_
  refine Wl.pure (PR.moveI rfl) ?_
  refine Wl.pure (PR.moveI rfl) ?_
  refine Wl.pure (PR.neg_ rfl (by simp only [fitI]; omega)) ?_
  refine Wl.callV (c_l00Max_abs (n := n)) rfl ?_
  intro w2 hbel
  replace st := st.call hbel
  clear hbel
  refine Wl.pure (PR.moveI rfl) ?_
  refine Wl.callV (c_spec_l06Gcd (u := (n).natAbs) (v := d)) rfl ?_
  intro w3 hbel
  replace st := st.call hbel
  clear hbel
  refine Wl.pure (PR.assI rfl) ?_
  refine Wl.nil ?_
  refine tn ?_
  refine Wc.seq ?_
  have hgp := gcd_pos (n := n.natAbs) hd.1
  refine Wc.quietTail 9 hmix (by kernel_rfl) rfl ?_
  refine Wq.pure (PR.moveI rfl) ?_
  refine Wq.pure (PR.moveI rfl) ?_
  refine Wq.pure (PR.quoT (a := n) (b := (((Nat.gcd ((n).natAbs) d) : Nat) : Int)) rfl rfl (by omega) (by have := tdiv_bd (n := n) (g := Nat.gcd n.natAbs d) (B := 1000) (by omega); simp only [fitI]; omega)) ?_
  refine Wq.pure (PR.conv (n := (n).tdiv (((Nat.gcd ((n).natAbs) d) : Nat) : Int)) tI_22 rfl (by have := tdiv_bd (n := n) (g := Nat.gcd n.natAbs d) (B := 1000) (by omega); simp only [fitI]; omega) Try.underlying2) ?_
  refine Wq.pure (PR.moveI rfl) ?_
  refine Wq.pure (PR.moveI rfl) ?_
  refine Wq.pure (PR.quo (a := ((d : Nat) : Int)) (b := (((Nat.gcd ((n).natAbs) d) : Nat) : Int)) rfl rfl (by omega) (by omega) (div_fit hd.2)) ?_
  refine Wq.pure (PR.conv (n := (((d / (Nat.gcd ((n).natAbs) d)) : Nat) : Int)) tI_22 rfl (div_fit16 hd.2) Try.underlying2) ?_
  refine Wq.pure (PR.build (ps := [(0, .int .i16 ((n).tdiv (((Nat.gcd ((n).natAbs) d) : Nat) : Int))), (1, .int .i16 ((((d / (Nat.gcd ((n).natAbs) d)) : Nat) : Int)))]) (cs := [.int .i16 ((n).tdiv (((Nat.gcd ((n).natAbs) d) : Nat) : Int)), .int .i16 ((((d / (Nat.gcd ((n).natAbs) d)) : Nat) : Int))]) tB_27 rfl rfl) ?_
  refine Wq.nil (fun w4 hbel => ?_)
  replace st := st.call hbel
  clear hbel
  refine Wl.storeA (i := 0) (cs' := [.int .i16 ((n).tdiv (((Nat.gcd ((n).natAbs) d) : Nat) : Int)), .int .i16 ((((d / (Nat.gcd ((n).natAbs) d)) : Nat) : Int))]) st tA_27 rfl rfl rfl (by simp [Value.oneCell']) rfl (by simp) rfl ?_
  clear st
  intro w5 st
  replace st : St [] w w5 [(b4, [.int .i16 ((n).tdiv (((Nat.gcd ((n).natAbs) d) : Nat) : Int)), .int .i16 ((((d / (Nat.gcd ((n).natAbs) d)) : Nat) : Int))], 27)] := st
  refine Wl.nil ?_
  refine tn ?_
  refine Wc.ret ?_
  refine postL.cell (i := 0) st rfl tA_27 rfl rfl rfl ?_
  refine RetV.of ?_ st.below
  first | rfl | simp_all

set_option maxHeartbeats 400000 in
set_option maxRecDepth 4000 in
theorem c_impl_RatioOf {s : Int} {p : Int} {a : Nat → Nat} {b : Nat → Nat} {x : Nat} {w : World} (hs : -128 ≤ s ∧ s ≤ 127) (hp : -128 ≤ p ∧ p ≤ 127) (ha : ∀ k, a k < 256) (hb : ∀ k, b k < 256) (hx : x < 256) :
    CE Try.prog 27 [.agg (schV (s) (p) (a) (b)).toArray, .int .u8 (((x : Nat) : Int))] w (RetV w (.tuple #[.agg ([.int .i16 (rtN s p a b x), .int .i16 (((rtD s p a b x : Nat) : Int))]).toArray, .int .i64 (((asked s p a b x : Nat) : Int))])) := by
  refine CE.enter 21 [(0, .agg (schV (s) (p) (a) (b)).toArray), (1, .int .u8 (((x : Nat) : Int)))] en_27 Try.func27 rfl rfl (Nat.le_of_ble_eq_true rfl) rfl ?_
  have st := St.start w
  refine Wc.seq ?_
  refine Wc.region rfl ?_
  refine Wl.boxA st rfl ?_
  clear st
  intro b2 w1 st
  refine Wl.alloc st tZ_27 rfl ?_
  clear st
  intro b4 w2 st
  refine Wl.pure (PR.assI rfl) ?_
  refine Wl.nil ?_
  refine tn ?_
  refine Wc.seq ?_
  refine Wc.seq ?_
  refine Wc.region rfl ?_
  refine Wl.loadA (i := 1) st tA_34 rfl rfl (all_sub schV_len) schV_len ?_
  refine Wl.pure (PR.moveI rfl) ?_
  refine Wl.callV (c_impl_setCode (s := s) (p := p) (a := a) (b := b) (x := x) (by first | assumption | omega) (by first | assumption | omega) ha hb hx) rfl ?_
  intro w3 hbel
  replace st := st.call hbel
  clear hbel
  refine Wl.pure (PR.assI rfl) ?_
  refine Wl.nil ?_
  refine tn ?_
  refine Wc.seq ?_
  refine Wc.region rfl ?_
  refine Wl.pure (PR.moveI rfl) ?_
  refine Wl.pure (PR.neq (a := ((asked s p a b x : Nat) : Int)) (b := 0) rfl rfl) ?_
  refine Wl.nil ?_
  refine tn ?_
  refine Wc.condN (p := ((asked s p a b x : Nat) : Int) = 0) rfl (fun h4 => ?_) (fun h4 => ?_)
  · refine Wc.seq ?_
    refine Wc.region rfl ?_
    refine Wl.pure (PR.build (ps := []) (cs := [.int .i16 (0), .int .i16 (0)]) tB_27 rfl rfl) ?_
    refine Wl.pure (PR.moveI rfl) ?_
    refine Wl.storeA (i := 0) (cs' := [.int .i16 (0), .int .i16 (0)]) st tA_27 rfl rfl rfl (by simp [Value.oneCell']) rfl (by simp) rfl ?_
    clear st
    intro w5 st
    replace st : St [] w w5 [(b4, [.int .i16 (0), .int .i16 (0)], 27), (b2, schV (s) (p) (a) (b), 34)] := st
    refine Wl.pure (PR.assI rfl) ?_
    refine Wl.nil ?_
    refine tn ?_
    refine Wc.ret ?_
    refine tr ?_
    refine postL.many (rvs := [.cell 4 27, .tmp 5]) rfl (.cell (us := [.int .i16 (0), .int .i16 (0)]) tA_27 rfl rfl (st.rdA (i := 0) (n := 2) rfl rfl) (.tmp (v := .int .i64 (((asked s p a b x : Nat) : Int))) rfl .nil)) ?_
    refine RetV.of ?_ st.below
    exact rt_f (by omega)
  · refine Wc.skip ?_
    refine tn ?_
    refine Wc.seq ?_
    obtain ⟨hok, _⟩ := asked_spec (s := s) (p := p) (a := a) (b := b) (x := x) (by omega)
    obtain ⟨_, hp1, _⟩ := schOk_spec hok
    obtain ⟨m, rfl⟩ : ∃ m : Nat, p = ((m : Nat) : Int) := ⟨p.toNat, by omega⟩
    have hgb := gapZ_bd ha hb x
    refine Wc.quietTail 7 hmix (by kernel_rfl) rfl ?_
    refine Wq.loadA (i := 1) st tA_34 rfl rfl (all_sub schV_len) schV_len ?_
    refine Wq.pure (PR.moveI rfl) ?_
    refine Wq.callV (fun _ hbel => c_impl_Scheme_gap (s := s) (p := ((m : Nat) : Int)) (a := a) (b := b) (x := x) ha hb hx) rfl ?_
    refine Wq.pure (PR.fieldAddr tF_34_1 rfl) ?_
    refine Wq.load (i := 1) st tA_30 rfl rfl (rfl) ?_
    refine Wq.pure (PR.conv (n := ((m : Nat) : Int)) tI_2 rfl (by simp only [fitI]; omega) Try.underlying30) ?_
    refine Wq.callV (fun _ hbel => c_impl_ratioOf (n := gapZ a b x) (d := m) (by first | assumption | omega) (by first | assumption | omega)) rfl ?_
    refine Wq.nil (fun w6 hbel => ?_)
    replace st := st.call hbel
    clear hbel
    refine Wl.storeA (i := 0) (cs' := [.int .i16 ((gapZ a b x).tdiv ((Nat.gcd ((gapZ a b x).natAbs) m : Nat) : Int)), .int .i16 ((((m / (Nat.gcd ((gapZ a b x).natAbs) m)) : Nat) : Int))]) st tA_27 rfl rfl rfl (by simp [Value.oneCell']) rfl (by simp) rfl ?_
    clear st
    intro w7 st
    replace st : St [] w w7 [(b4, [.int .i16 ((gapZ a b x).tdiv ((Nat.gcd ((gapZ a b x).natAbs) m : Nat) : Int)), .int .i16 ((((m / (Nat.gcd ((gapZ a b x).natAbs) m)) : Nat) : Int))], 27), (b2, schV (s) ((m : Nat) : Int) (a) (b), 34)] := st
    refine Wl.pure (PR.assI rfl) ?_
    refine Wl.nil ?_
    refine tn ?_
    refine Wc.ret ?_
    refine postL.many (rvs := [.cell 4 27, .tmp 5]) rfl (.cell (us := [.int .i16 ((gapZ a b x).tdiv ((Nat.gcd ((gapZ a b x).natAbs) m : Nat) : Int)), .int .i16 ((((m / (Nat.gcd ((gapZ a b x).natAbs) m)) : Nat) : Int))]) tA_27 rfl rfl (st.rdA (i := 0) (n := 2) rfl rfl) (.tmp (v := .int .i64 (0)) rfl .nil)) ?_
    refine RetV.of ?_ st.below
    exact rt_t (by omega)

set_option maxHeartbeats 400000 in
set_option maxRecDepth 4000 in
theorem c_spec_RatioOf {s : Int} {p : Int} {a : Nat → Nat} {b : Nat → Nat} {x : Nat} {w : World} (hs : -128 ≤ s ∧ s ≤ 127) (hp : -128 ≤ p ∧ p ≤ 127) (ha : ∀ k, a k < 256) (hb : ∀ k, b k < 256) (hx : x < 256) :
    CE Try.prog 26 [.agg (schV (s) (p) (a) (b)).toArray, .int .u8 (((x : Nat) : Int))] w (RetV w (.tuple #[.agg ([.int .i16 (rtN s p a b x), .int .i16 (((rtD s p a b x : Nat) : Int))]).toArray, .int .i64 (((asked s p a b x : Nat) : Int))])) := by
  refine CE.enter 19 [(0, .agg (schV (s) (p) (a) (b)).toArray), (1, .int .u8 (((x : Nat) : Int)))] en_26 Try.func26 rfl rfl (Nat.le_of_ble_eq_true rfl) rfl ?_
  have st := St.start w
  refine Wc.seq ?_
  refine Wc.region rfl ?_
  refine Wl.boxA st rfl ?_
  clear st
  intro b2 w1 st
  refine Wl.alloc st tZ_27 rfl ?_
  clear st
  intro b4 w2 st
  refine Wl.pure (PR.assI rfl) ?_
  refine Wl.nil ?_
  refine tn ?_
  refine Wc.seq ?_
  refine Wc.seq ?_
  refine Wc.region rfl ?_
  refine Wl.pure (PR.moveI rfl) ?_
  refine Wl.callV (c_spec_l02Asked (bk := b2) (o := 0) (s := s) (p := p) (a := a) (b := b) (x := x) (st.rdA (i := 1) rfl (all_sub schV_len)) (by first | assumption | omega) (by first | assumption | omega) ha hb hx) rfl ?_
  intro w3 hbel
  replace st := st.call hbel
  clear hbel
  refine Wl.pure (PR.assI rfl) ?_
  refine Wl.nil ?_
  refine tn ?_
  refine Wc.seq ?_
  refine Wc.region rfl ?_
  refine Wl.pure (PR.moveI rfl) ?_
  refine Wl.pure (PR.neq (a := ((asked s p a b x : Nat) : Int)) (b := 0) rfl rfl) ?_
  refine Wl.nil ?_
  refine tn ?_
  refine Wc.condN (p := ((asked s p a b x : Nat) : Int) = 0) rfl (fun h4 => ?_) (fun h4 => ?_)
  · refine Wc.seq ?_
    refine Wc.region rfl ?_
    refine Wl.pure (PR.build (ps := []) (cs := [.int .i16 (0), .int .i16 (0)]) tB_27 rfl rfl) ?_
    refine Wl.pure (PR.moveI rfl) ?_
    refine Wl.storeA (i := 0) (cs' := [.int .i16 (0), .int .i16 (0)]) st tA_27 rfl rfl rfl (by simp [Value.oneCell']) rfl (by simp) rfl ?_
    clear st
    intro w5 st
    replace st : St [] w w5 [(b4, [.int .i16 (0), .int .i16 (0)], 27), (b2, schV (s) (p) (a) (b), 34)] := st
    refine Wl.pure (PR.assI rfl) ?_
    refine Wl.nil ?_
    refine tn ?_
    refine Wc.ret ?_
    refine tr ?_
    refine postL.many (rvs := [.cell 4 27, .tmp 5]) rfl (.cell (us := [.int .i16 (0), .int .i16 (0)]) tA_27 rfl rfl (st.rdA (i := 0) (n := 2) rfl rfl) (.tmp (v := .int .i64 (((asked s p a b x : Nat) : Int))) rfl .nil)) ?_
    refine RetV.of ?_ st.below
    exact rt_f (by omega)
  · refine Wc.skip ?_
    refine tn ?_
    refine Wc.seq ?_
    obtain ⟨hok, _⟩ := asked_spec (s := s) (p := p) (a := a) (b := b) (x := x) (by omega)
    obtain ⟨_, hp1, _⟩ := schOk_spec hok
    obtain ⟨m, rfl⟩ : ∃ m : Nat, p = ((m : Nat) : Int) := ⟨p.toNat, by omega⟩
    have hgb := gapZ_bd ha hb x
    refine Wc.quietTail 6 hmix (by kernel_rfl) rfl ?_
    refine Wq.pure (PR.moveI rfl) ?_
    refine Wq.callV (fun _ hbel => c_spec_l02Gap (bk := b2) (o := 0) (s := s) (p := ((m : Nat) : Int)) (a := a) (b := b) (x := x) ((st.rdA (i := 1) rfl (all_sub schV_len)).below hbel) ha hb hx) rfl ?_
    refine Wq.pure (PR.fieldAddr tF_34_1 rfl) ?_
    refine Wq.load (i := 1) st tA_30 rfl rfl (rfl) ?_
    refine Wq.pure (PR.conv (n := ((m : Nat) : Int)) tI_2 rfl (by simp only [fitI]; omega) Try.underlying30) ?_
    refine Wq.callV (fun _ hbel => c_spec_l06Ratio (n := gapZ a b x) (d := m) (by first | assumption | omega) (by first | assumption | omega)) rfl ?_
    refine Wq.nil (fun w6 hbel => ?_)
    replace st := st.call hbel
    clear hbel
    refine Wl.storeA (i := 0) (cs' := [.int .i16 ((gapZ a b x).tdiv ((Nat.gcd ((gapZ a b x).natAbs) m : Nat) : Int)), .int .i16 ((((m / (Nat.gcd ((gapZ a b x).natAbs) m)) : Nat) : Int))]) st tA_27 rfl rfl rfl (by simp [Value.oneCell']) rfl (by simp) rfl ?_
    clear st
    intro w7 st
    replace st : St [] w w7 [(b4, [.int .i16 ((gapZ a b x).tdiv ((Nat.gcd ((gapZ a b x).natAbs) m : Nat) : Int)), .int .i16 ((((m / (Nat.gcd ((gapZ a b x).natAbs) m)) : Nat) : Int))], 27), (b2, schV (s) ((m : Nat) : Int) (a) (b), 34)] := st
    refine Wl.pure (PR.assI rfl) ?_
    refine Wl.nil ?_
    refine tn ?_
    refine Wc.ret ?_
    refine postL.many (rvs := [.cell 4 27, .tmp 5]) rfl (.cell (us := [.int .i16 ((gapZ a b x).tdiv ((Nat.gcd ((gapZ a b x).natAbs) m : Nat) : Int)), .int .i16 ((((m / (Nat.gcd ((gapZ a b x).natAbs) m)) : Nat) : Int))]) tA_27 rfl rfl (st.rdA (i := 0) (n := 2) rfl rfl) (.tmp (v := .int .i64 (0)) rfl .nil)) ?_
    refine RetV.of ?_ st.below
    exact rt_t (by omega)

set_option maxHeartbeats 400000 in
set_option maxRecDepth 4000 in
theorem c_laws_FnExactRatioOf {s : Int} {p : Int} {a : Nat → Nat} {b : Nat → Nat} {x : Nat} {w : World} (hs : -128 ≤ s ∧ s ≤ 127) (hp : -128 ≤ p ∧ p ≤ 127) (ha : ∀ k, a k < 256) (hb : ∀ k, b k < 256) (hx : x < 256) :
    CE Try.prog 9 [.agg (schV (s) (p) (a) (b)).toArray, .int .u8 (((x : Nat) : Int))] w (RetV w (.bool true)) := by
  refine CE.enter 32 [(0, .agg (schV (s) (p) (a) (b)).toArray), (1, .int .u8 (((x : Nat) : Int)))] en_9 Try.func9 rfl rfl (Nat.le_of_ble_eq_true rfl) rfl ?_
  have st := St.start w
  refine Wc.seq ?_
  refine Wc.region rfl ?_
  refine Wl.boxA st rfl ?_
  clear st
  intro b2 w1 st
  refine Wl.pure (PR.assB rfl) ?_
  refine Wl.nil ?_
  refine tn ?_
  refine Wc.seq ?_
  refine Wc.region rfl ?_
  refine Wl.loadA (i := 0) st tA_33 rfl rfl (all_sub schV_len) schV_len ?_
  refine Wl.callV (c_laws_toScheme (s := s) (p := p) (a := a) (b := b) ha hb) rfl ?_
  intro w2 hbel
  replace st := st.call hbel
  clear hbel
  refine Wl.pure (PR.moveI rfl) ?_
  refine Wl.callV (c_spec_RatioOf (s := s) (p := p) (a := a) (b := b) (x := x) (by first | assumption | omega) (by first | assumption | omega) ha hb hx) rfl ?_
  intro w3 hbel
  replace st := st.call hbel
  clear hbel
  refine Wl.pure (PR.moveV (.tuple #[.agg ([.int .i16 (rtN s p a b x), .int .i16 (((rtD s p a b x : Nat) : Int))]).toArray, .int .i64 (((asked s p a b x : Nat) : Int))]) rfl) ?_
  refine Wl.pure (PR.extr (i := 0) (vs := [.agg ([.int .i16 (rtN s p a b x), .int .i16 (((rtD s p a b x : Nat) : Int))]).toArray, .int .i64 (((asked s p a b x : Nat) : Int))]) rfl rfl) ?_
  refine Wl.pure (PR.extr (i := 1) (vs := [.agg ([.int .i16 (rtN s p a b x), .int .i16 (((rtD s p a b x : Nat) : Int))]).toArray, .int .i64 (((asked s p a b x : Nat) : Int))]) rfl rfl) ?_
  refine Wl.alloc st tZ_27 rfl ?_
  clear st
  intro b5 w4 st
  refine Wl.storeA (i := 0) (cs' := [.int .i16 (rtN s p a b x), .int .i16 (((rtD s p a b x : Nat) : Int))]) st tA_27 rfl rfl rfl (by simp [Value.oneCell']) rfl (by simp) rfl ?_
  clear st
  intro w5 st
  replace st : St [] w w5 [(b5, [.int .i16 (rtN s p a b x), .int .i16 (((rtD s p a b x : Nat) : Int))], 27), (b2, schV (s) (p) (a) (b), 33)] := st
  refine Wl.pure (PR.assI rfl) ?_
  refine Wl.nil ?_
  refine tn ?_
  refine Wc.seq ?_
  refine Wc.region rfl ?_
  refine Wl.loadA (i := 1) st tA_33 rfl rfl (all_sub schV_len) schV_len ?_
  refine Wl.callV (c_laws_toScheme (s := s) (p := p) (a := a) (b := b) ha hb) rfl ?_
  intro w6 hbel
  replace st := st.call hbel
  clear hbel
  refine Wl.pure (PR.moveI rfl) ?_
  refine Wl.callV (c_impl_RatioOf (s := s) (p := p) (a := a) (b := b) (x := x) (by first | assumption | omega) (by first | assumption | omega) ha hb hx) rfl ?_
  intro w7 hbel
  replace st := st.call hbel
  clear hbel
  refine Wl.pure (PR.moveV (.tuple #[.agg ([.int .i16 (rtN s p a b x), .int .i16 (((rtD s p a b x : Nat) : Int))]).toArray, .int .i64 (((asked s p a b x : Nat) : Int))]) rfl) ?_
  refine Wl.pure (PR.extr (i := 0) (vs := [.agg ([.int .i16 (rtN s p a b x), .int .i16 (((rtD s p a b x : Nat) : Int))]).toArray, .int .i64 (((asked s p a b x : Nat) : Int))]) rfl rfl) ?_
  refine Wl.pure (PR.extr (i := 1) (vs := [.agg ([.int .i16 (rtN s p a b x), .int .i16 (((rtD s p a b x : Nat) : Int))]).toArray, .int .i64 (((asked s p a b x : Nat) : Int))]) rfl rfl) ?_
  refine Wl.alloc st tZ_27 rfl ?_
  clear st
  intro b7 w8 st
  refine Wl.storeA (i := 0) (cs' := [.int .i16 (rtN s p a b x), .int .i16 (((rtD s p a b x : Nat) : Int))]) st tA_27 rfl rfl rfl (by simp [Value.oneCell']) rfl (by simp) rfl ?_
  clear st
  intro w9 st
  replace st : St [] w w9 [(b7, [.int .i16 (rtN s p a b x), .int .i16 (((rtD s p a b x : Nat) : Int))], 27), (b5, [.int .i16 (rtN s p a b x), .int .i16 (((rtD s p a b x : Nat) : Int))], 27), (b2, schV (s) (p) (a) (b), 33)] := st
  refine Wl.pure (PR.assI rfl) ?_
  refine Wl.nil ?_
  refine tn ?_
  refine Wc.seq ?_
  refine Wc.seq ?_
  refine Wc.region rfl ?_
  refine Wl.loadA (i := 0) st tA_27 rfl rfl rfl rfl ?_
  refine Wl.loadA (i := 1) st tA_27 rfl rfl rfl rfl ?_
  refine Wl.callV (c_laws_eqRatio (n := rtN s p a b x) (d := ((rtD s p a b x : Nat) : Int))) rfl ?_
  intro w10 hbel
  replace st := st.call hbel
  clear hbel
  refine Wl.pure (PR.not_ rfl) ?_
  refine Wl.pure (PR.moveB rfl) ?_
  refine Wl.on rfl rfl ?_
  refine Wl.pure (PR.moveI rfl) ?_
  refine Wl.on rfl rfl ?_
  refine Wl.pure (PR.moveI rfl) ?_
  refine Wl.on rfl rfl ?_
  refine Wl.pure (PR.neqS (a := ((asked s p a b x : Nat) : Int)) rfl rfl) ?_
  refine Wl.pure (PR.pickFB rfl rfl) ?_
  refine Wl.nil ?_
  refine tn ?_
  refine Wc.condF rfl ?_
  refine Wc.skip ?_
  refine tn ?_
  refine Wc.seq ?_
  refine Wc.region rfl ?_
  refine Wl.pure (PR.assB rfl) ?_
  refine Wl.nil ?_
  refine tn ?_
  refine Wc.ret ?_
  refine postL.tmp rfl rfl ?_
  exact RetV.of rfl st.below

end Go.Proofs.Ytjkicobdokcjfaa
