/-
  Contracts of functions, printed by a program of ours.
-/
import Derived.Test.YtdlmbdclbnlmlaaCE3
import Derived.Test.YtdlmbdclbnlmlaaHand
import Derived.Test.YtdlmbdclbnlmlaaFam2
import Derived.Test.YtdlmbdclbnlmlaaGcd
namespace Go.Proofs.Ytdlmbdclbnlmlaa
open Go.RowKit
set_option linter.unusedVariables false
set_option linter.unusedSimpArgs false

set_option maxHeartbeats 400000 in
set_option maxRecDepth 4000 in
theorem c_l00Max_abs {n : Int} {w : World} :
    CE Try.prog 53 [.int .i64 (n), .int .i64 ((-n))] w (RetV w (.int .i64 ((((n).natAbs : Nat) : Int)))) := by
  refine CE.enter 10 [(0, .int .i64 (n)), (1, .int .i64 ((-n)))] en_53 Try.func53 rfl rfl (Nat.le_of_ble_eq_true rfl) rfl ?_
  have st := St.start w
  refine Wc.seq ?_
  refine Wc.region rfl ?_
  refine Wl.pure (PR.assI rfl) ?_
  refine Wl.nil ?_
  refine tn ?_
  refine Wc.seq ?_
  refine Wc.seq ?_
  refine Wc.region rfl ?_
  refine Wl.pure (PR.moveI rfl) ?_
  refine Wl.pure (PR.moveI rfl) ?_
  refine Wl.pure (PR.gtr (a := n) (b := (-n)) rfl rfl) ?_
  refine Wl.nil ?_
  refine tn ?_
  refine Wc.condD (p := (-n) < n) rfl (fun h1 => ?_) (fun h1 => ?_)
  · refine Wc.seq ?_
    refine Wc.region rfl ?_
    refine Wl.pure (PR.moveI rfl) ?_
    refine Wl.pure (PR.assI rfl) ?_
    refine Wl.nil ?_
    refine tn ?_
    refine Wc.ret ?_
    refine tr ?_
    refine postL.tmp rfl rfl ?_
    refine RetV.of ?_ st.below
    refine congrArg (Value.int .i64) ?_
    omega
  · refine Wc.skip ?_
    refine tn ?_
    refine Wc.seq ?_
    refine Wc.region rfl ?_
    refine Wl.pure (PR.moveI rfl) ?_
    refine Wl.pure (PR.assI rfl) ?_
    refine Wl.nil ?_
    refine tn ?_
    refine Wc.ret ?_
    refine postL.tmp rfl rfl ?_
    refine RetV.of ?_ st.below
    refine congrArg (Value.int .i64) ?_
    omega

set_option maxHeartbeats 400000 in
set_option maxRecDepth 4000 in
theorem c_spec_l06Gcd {u : Nat} {v : Nat} {w : World} :
    CE Try.prog 52 [.int .i64 (((u : Nat) : Int)), .int .i64 (((v : Nat) : Int))] w (RetV w (.int .i64 ((((Nat.gcd u v) : Nat) : Int)))) := by
  induction v using Nat.strongRecOn generalizing u w with
  | _ v ih => ?_
  refine CE.enter 13 [(0, .int .i64 (((u : Nat) : Int))), (1, .int .i64 (((v : Nat) : Int)))] en_52 Try.func52 rfl rfl (Nat.le_of_ble_eq_true rfl) rfl ?_
  have st := St.start w
  refine Wc.seq ?_
  refine Wc.region rfl ?_
  refine Wl.pure (PR.assI rfl) ?_
  refine Wl.nil ?_
  refine tn ?_
  refine Wc.seq ?_
  refine Wc.seq ?_
  refine Wc.region rfl ?_
  refine Wl.pure (PR.moveI rfl) ?_
  refine Wl.pure (PR.eql (a := ((v : Nat) : Int)) (b := 0) rfl rfl) ?_
  refine Wl.nil ?_
  refine tn ?_
  refine Wc.condD (p := ((v : Nat) : Int) = 0) rfl (fun h1 => ?_) (fun h1 => ?_)
  · refine Wc.seq ?_
    refine Wc.region rfl ?_
    refine Wl.pure (PR.moveI rfl) ?_
    refine Wl.pure (PR.assI rfl) ?_
    refine Wl.nil ?_
    refine tn ?_
    refine Wc.ret ?_
    refine tr ?_
    refine postL.tmp rfl rfl ?_
    refine RetV.of ?_ st.below
    refine congrArg (fun x : Nat => Value.int .i64 (x : Int)) ?_
    obtain rfl : v = 0 := by omega
    exact (Nat.gcd_zero_right u).symm
  · refine Wc.skip ?_
    refine tn ?_
    refine Wc.seq ?_
    refine Wc.region rfl ?_
    refine Wl.pure (PR.moveI rfl) ?_
    refine Wl.pure (PR.moveI rfl) ?_
    refine Wl.pure (PR.moveI rfl) ?_
    refine Wl.pure (PR.rem (a := ((u : Nat) : Int)) (b := ((v : Nat) : Int)) rfl rfl (by omega) (by omega)) ?_
    refine Wl.callV ((@ih (u % v) (Nat.mod_lt _ (by omega)) v _)) rfl ?_
    intro w2 hbel
    replace st := st.call hbel
    clear hbel
    refine Wl.pure (PR.assI rfl) ?_
    refine Wl.nil ?_
    refine tn ?_
    refine Wc.ret ?_
    refine postL.tmp rfl rfl ?_
    refine RetV.of ?_ st.below
    refine congrArg (fun x : Nat => Value.int .i64 (x : Int)) ?_
    exact gcd_next rfl

set_option maxHeartbeats 400000 in
set_option maxRecDepth 4000 in
theorem c_impl_ratioOf {n : Int} {d : Nat} {w : World} (hn : -1000 ≤ n ∧ n ≤ 1000) (hd : 1 ≤ d ∧ d ≤ 1000) :
    CE Try.prog 34 [.int .i64 (n), .int .i64 (((d : Nat) : Int))] w (RetV w (.agg ([.int .i16 ((n).tdiv ((Nat.gcd ((n).natAbs) d : Nat) : Int)), .int .i16 ((((d / (Nat.gcd ((n).natAbs) d)) : Nat) : Int))]).toArray)) := by
  refine CE.enter 27 [(0, .int .i64 (n)), (1, .int .i64 (((d : Nat) : Int)))] en_34 Try.func34 rfl rfl (Nat.le_of_ble_eq_true rfl) rfl ?_
  have st := St.start w
  refine Wc.seq ?_
  refine Wc.region rfl ?_
  refine Wl.alloc st tZ_38 rfl ?_
  clear st
  intro b4 w1 st
  refine Wl.nil ?_
  refine tn ?_
  refine Wc.seq ?_
  refine Wc.region rfl ?_
  refine Wl.pure (PR.moveI rfl) ?_
  refine Wl.pure (PR.moveI rfl) ?_
  refine Wl.pure (PR.neg_ rfl (by simp only [fitI]; omega)) ?_
  refine Wl.pure (PR.abs2 (n := n) rfl rfl) ?_
  refine Wl.pure (PR.moveI rfl) ?_
  refine Wl.pure (PR.assI rfl) ?_
  refine Wl.pure (PR.assI rfl) ?_
  refine Wl.nil ?_
  refine tn ?_
  refine Wc.seq ?_
  refine Wc.block ?_
  refine Wc.loopF (γ := Nat × Nat) (fun g => [(0, .int .i64 (n)), (1, .int .i64 (((d : Nat) : Int))), (4, .pointer (some ⟨b4, 0, none⟩)), (5, .int .i64 (((g.1 : Nat) : Int))), (6, .int .i64 (((g.2 : Nat) : Int)))]) (fun g w_ => St [] w w_ [(b4, [.int .i16 (0), .int .i16 (0)], 38)] ∧ (Nat.gcd g.1 g.2 = Nat.gcd n.natAbs d) ∧ (g.1 ≤ 1000 ∧ g.2 ≤ 1000)) (fun g => g.2) ?_ ?_
  · exact ⟨(n.natAbs, d), (.cons rfl (.cons rfl (.cons rfl (.cons rfl (.cons rfl (.nil _)))))), st, rfl, (by omega)⟩
  clear st
  rintro ⟨u, v⟩ w2 ⟨st, hg, hu⟩
  try dsimp only at st hg hu ⊢
  refine Wc.seq ?_
  refine Wc.seq ?_
  refine Wc.region rfl ?_
  refine Wl.pure (PR.moveI rfl) ?_
  refine Wl.pure (PR.neq (a := ((v : Nat) : Int)) (b := 0) rfl rfl) ?_
  refine Wl.nil ?_
  refine tn ?_
  refine Wc.condN (p := ((v : Nat) : Int) = 0) rfl (fun h3 => ?_) (fun h3 => ?_)
  · refine Wc.skip ?_
    refine tn ?_
    refine Wc.block ?_
    refine Wc.quiet hmix (by kernel_rfl) rfl ?_
    refine Wq.pure (PR.moveI rfl) ?_
    refine Wq.pure (PR.moveI rfl) ?_
    refine Wq.pure (PR.moveI rfl) ?_
    refine Wq.pure (PR.rem (a := ((u : Nat) : Int)) (b := ((v : Nat) : Int)) rfl rfl (by omega) (by omega)) ?_
    refine Wq.pure (PR.assI rfl) ?_
    refine Wq.pure (PR.assI rfl) ?_
    refine Wq.nil (fun w4 hbel => ?_)
    replace st := st.call hbel
    clear hbel
    refine bn ?_
    refine tn ?_
    exact ⟨(v, (u % v)), (.cons rfl (.cons rfl (.cons rfl (.cons rfl (.cons rfl (.nil _)))))), ⟨st, (gcd_next hg), (by have := Nat.mod_lt u (show 0 < v by omega); omega)⟩, (by have := Nat.mod_lt u (show 0 < v by omega); dsimp only; omega)⟩
  · refine Wc.exit ?_
    refine tx ?_
    refine tx ?_
    refine bh ?_
    refine tn ?_
    refine Wc.seq ?_
    have hgp := gcd_pos (n := n.natAbs) hd.1
    obtain rfl : v = 0 := by omega
    rw [Nat.gcd_zero_right] at hg
    subst hg
    refine Wc.quietTail 9 hmix (by kernel_rfl) rfl ?_
    refine Wq.pure (PR.moveI rfl) ?_
    refine Wq.pure (PR.moveI rfl) ?_
    refine Wq.pure (PR.quoT (a := n) (b := (((Nat.gcd n.natAbs d) : Nat) : Int)) rfl rfl (by omega) (by have := tdiv_bd (n := n) (g := Nat.gcd n.natAbs d) (B := 1000) (by omega); simp only [fitI]; omega)) ?_
    refine Wq.pure (PR.conv (n := (n).tdiv (((Nat.gcd n.natAbs d) : Nat) : Int)) tI_36 rfl (by have := tdiv_bd (n := n) (g := Nat.gcd n.natAbs d) (B := 1000) (by omega); simp only [fitI]; omega) Try.underlying2) ?_
    refine Wq.pure (PR.moveI rfl) ?_
    refine Wq.pure (PR.moveI rfl) ?_
    refine Wq.pure (PR.quo (a := ((d : Nat) : Int)) (b := (((Nat.gcd n.natAbs d) : Nat) : Int)) rfl rfl (by omega) (by omega) (div_fit hd.2)) ?_
    refine Wq.pure (PR.conv (n := (((d / (Nat.gcd n.natAbs d)) : Nat) : Int)) tI_36 rfl (div_fit16 hd.2) Try.underlying2) ?_
    refine Wq.pure (PR.build (ps := [(0, .int .i16 ((n).tdiv (((Nat.gcd n.natAbs d) : Nat) : Int))), (1, .int .i16 ((((d / (Nat.gcd n.natAbs d)) : Nat) : Int)))]) (cs := [.int .i16 ((n).tdiv (((Nat.gcd n.natAbs d) : Nat) : Int)), .int .i16 ((((d / (Nat.gcd n.natAbs d)) : Nat) : Int))]) tB_38 rfl rfl) ?_
    refine Wq.nil (fun w5 hbel => ?_)
    replace st := st.call hbel
    clear hbel
    refine Wl.storeA (i := 0) (cs' := [.int .i16 ((n).tdiv (((Nat.gcd n.natAbs d) : Nat) : Int)), .int .i16 ((((d / (Nat.gcd n.natAbs d)) : Nat) : Int))]) st tA_38 rfl rfl rfl (by simp [Value.oneCell']) rfl (by simp) (all_put rfl) ?_
    clear st
    intro w6 st
    replace st : St [] w w6 [(b4, [.int .i16 ((n).tdiv (((Nat.gcd n.natAbs d) : Nat) : Int)), .int .i16 ((((d / (Nat.gcd n.natAbs d)) : Nat) : Int))], 38)] := st
    refine Wl.nil ?_
    refine tn ?_
    refine Wc.ret ?_
    refine postL.cell (i := 0) st rfl tA_38 rfl rfl rfl ?_
    refine RetV.of ?_ st.below
    first | rfl | simp_all

set_option maxHeartbeats 400000 in
set_option maxRecDepth 4000 in
theorem c_spec_l06Ratio {n : Int} {d : Nat} {w : World} (hn : -1000 ≤ n ∧ n ≤ 1000) (hd : 1 ≤ d ∧ d ≤ 1000) :
    CE Try.prog 31 [.int .i64 (n), .int .i64 (((d : Nat) : Int))] w (RetV w (.agg ([.int .i16 ((n).tdiv ((Nat.gcd ((n).natAbs) d : Nat) : Int)), .int .i16 ((((d / (Nat.gcd ((n).natAbs) d)) : Nat) : Int))]).toArray)) := by
  refine CE.enter 21 [(0, .int .i64 (n)), (1, .int .i64 (((d : Nat) : Int)))] en_31 Try.func31 rfl rfl (Nat.le_of_ble_eq_true rfl) rfl ?_
  have st := St.start w
  refine Wc.seq ?_
  refine Wc.region rfl ?_
  refine Wl.alloc st tZ_38 rfl ?_
  clear st
  intro b4 w1 st
  refine Wl.nil ?_
  refine tn ?_
  refine Wc.seq ?_
  refine Wc.region rfl ?_
  refine Wl.pure (PR.moveI rfl) ?_
  refine Wl.pure (PR.moveI rfl) ?_
  refine Wl.pure (PR.neg_ rfl (by simp only [fitI]; omega)) ?_
  refine Wl.callV (c_l00Max_abs (n := n)) rfl ?_
  intro w2 hbel
  replace st := st.call hbel
  clear hbel
  refine Wl.pure (PR.moveI rfl) ?_
  refine Wl.callV (c_spec_l06Gcd (u := (n).natAbs) (v := d)) rfl ?_
  intro w3 hbel
  replace st := st.call hbel
  clear hbel
  refine Wl.pure (PR.assI rfl) ?_
  refine Wl.nil ?_
  refine tn ?_
  refine Wc.seq ?_
  have hgp := gcd_pos (n := n.natAbs) hd.1
  refine Wc.quietTail 9 hmix (by kernel_rfl) rfl ?_
  refine Wq.pure (PR.moveI rfl) ?_
  refine Wq.pure (PR.moveI rfl) ?_
  refine Wq.pure (PR.quoT (a := n) (b := (((Nat.gcd ((n).natAbs) d) : Nat) : Int)) rfl rfl (by omega) (by have := tdiv_bd (n := n) (g := Nat.gcd n.natAbs d) (B := 1000) (by omega); simp only [fitI]; omega)) ?_
  refine Wq.pure (PR.conv (n := (n).tdiv (((Nat.gcd ((n).natAbs) d) : Nat) : Int)) tI_36 rfl (by have := tdiv_bd (n := n) (g := Nat.gcd n.natAbs d) (B := 1000) (by omega); simp only [fitI]; omega) Try.underlying2) ?_
  refine Wq.pure (PR.moveI rfl) ?_
  refine Wq.pure (PR.moveI rfl) ?_
  refine Wq.pure (PR.quo (a := ((d : Nat) : Int)) (b := (((Nat.gcd ((n).natAbs) d) : Nat) : Int)) rfl rfl (by omega) (by omega) (div_fit hd.2)) ?_
  refine Wq.pure (PR.conv (n := (((d / (Nat.gcd ((n).natAbs) d)) : Nat) : Int)) tI_36 rfl (div_fit16 hd.2) Try.underlying2) ?_
  refine Wq.pure (PR.build (ps := [(0, .int .i16 ((n).tdiv (((Nat.gcd ((n).natAbs) d) : Nat) : Int))), (1, .int .i16 ((((d / (Nat.gcd ((n).natAbs) d)) : Nat) : Int)))]) (cs := [.int .i16 ((n).tdiv (((Nat.gcd ((n).natAbs) d) : Nat) : Int)), .int .i16 ((((d / (Nat.gcd ((n).natAbs) d)) : Nat) : Int))]) tB_38 rfl rfl) ?_
  refine Wq.nil (fun w4 hbel => ?_)
  replace st := st.call hbel
  clear hbel
  refine Wl.storeA (i := 0) (cs' := [.int .i16 ((n).tdiv (((Nat.gcd ((n).natAbs) d) : Nat) : Int)), .int .i16 ((((d / (Nat.gcd ((n).natAbs) d)) : Nat) : Int))]) st tA_38 rfl rfl rfl (by simp [Value.oneCell']) rfl (by simp) (all_put rfl) ?_
  clear st
  intro w5 st
  replace st : St [] w w5 [(b4, [.int .i16 ((n).tdiv (((Nat.gcd ((n).natAbs) d) : Nat) : Int)), .int .i16 ((((d / (Nat.gcd ((n).natAbs) d)) : Nat) : Int))], 38)] := st
  refine Wl.nil ?_
  refine tn ?_
  refine Wc.ret ?_
  refine postL.cell (i := 0) st rfl tA_38 rfl rfl rfl ?_
  refine RetV.of ?_ st.below
  first | rfl | simp_all

set_option maxHeartbeats 400000 in
set_option maxRecDepth 4000 in
theorem c_laws_eqRatio {n : Int} {d : Int} {w : World} :
    CE Try.prog 17 [.agg ([.int .i16 (n), .int .i16 (d)]).toArray, .agg ([.int .i16 (n), .int .i16 (d)]).toArray] w (RetV w (.bool true)) := by
  refine CE.enter 15 [(0, .agg ([.int .i16 (n), .int .i16 (d)]).toArray), (1, .agg ([.int .i16 (n), .int .i16 (d)]).toArray)] en_17 Try.func17 rfl rfl (Nat.le_of_ble_eq_true rfl) rfl ?_
  have st := St.start w
  refine Wc.seq ?_
  refine Wc.region rfl ?_
  refine Wl.boxA st rfl ?_
  clear st
  intro b2 w1 st
  refine Wl.boxA st rfl ?_
  clear st
  intro b3 w2 st
  refine Wl.pure (PR.assB rfl) ?_
  refine Wl.nil ?_
  refine tn ?_
  refine Wc.seq ?_
  refine Wc.seq ?_
  refine Wc.region rfl ?_
  refine Wl.pure (PR.fieldAddr tF_38_0 rfl) ?_
  refine Wl.load (i := 1) st tA_36 rfl rfl (rfl) ?_
  refine Wl.pure (PR.fieldAddr tF_38_0 rfl) ?_
  refine Wl.load (i := 0) st tA_36 rfl rfl (rfl) ?_
  refine Wl.pure (PR.neqS (a := n) rfl rfl) ?_
  refine Wl.nil ?_
  refine tn ?_
  refine Wc.condF rfl ?_
  refine Wc.skip ?_
  refine tn ?_
  refine Wc.seq ?_
  refine Wc.seq ?_
  refine Wc.region rfl ?_
  refine Wl.pure (PR.fieldAddr tF_38_1 rfl) ?_
  refine Wl.load (i := 1) st tA_36 rfl rfl (rfl) ?_
  refine Wl.pure (PR.fieldAddr tF_38_1 rfl) ?_
  refine Wl.load (i := 0) st tA_36 rfl rfl (rfl) ?_
  refine Wl.pure (PR.neqS (a := d) rfl rfl) ?_
  refine Wl.nil ?_
  refine tn ?_
  refine Wc.condF rfl ?_
  refine Wc.skip ?_
  refine tn ?_
  refine Wc.seq ?_
  refine Wc.region rfl ?_
  refine Wl.pure (PR.assB rfl) ?_
  refine Wl.nil ?_
  refine tn ?_
  refine Wc.ret ?_
  refine postL.tmp rfl rfl ?_
  exact RetV.of rfl st.below

set_option maxHeartbeats 400000 in
set_option maxRecDepth 4000 in
theorem c_impl_LeastRatio {s : Int} {p : Int} {a : Nat → Nat} {b : Nat → Nat} {m : Int} {f : Nat} {w : World} (hs : -128 ≤ s ∧ s ≤ 127) (hp : -128 ≤ p ∧ p ≤ 127) (ha : ∀ k, a k < 256) (hb : ∀ k, b k < 256) (hm : -128 ≤ m ∧ m ≤ 127) (hf : f < 18446744073709551616) :
    CE Try.prog 19 [.agg (schV (s) (p) (a) (b)).toArray, .agg ([.int .i8 (m), .int .u64 (((f : Nat) : Int))]).toArray] w (RetV w (.tuple #[.agg ([.int .i16 (selZ (svC s p a b m f) ((lgF a b f (1 <<< (m).toNat)).tdiv ((Nat.gcd ((lgF a b f (1 <<< (m).toNat)).natAbs) ((p).toNat) : Nat) : Int))), .int .i16 (((selN (svC s p a b m f) ((((p).toNat) / (Nat.gcd ((lgF a b f (1 <<< (m).toNat)).natAbs) ((p).toNat)))) : Nat) : Int))]).toArray, .int .i64 (((svC s p a b m f : Nat) : Int))])) := by
  refine CE.enter 21 [(0, .agg (schV (s) (p) (a) (b)).toArray), (1, .agg ([.int .i8 (m), .int .u64 (((f : Nat) : Int))]).toArray)] en_19 Try.func19 rfl rfl (Nat.le_of_ble_eq_true rfl) rfl ?_
  have st := St.start w
  refine Wc.seq ?_
  refine Wc.region rfl ?_
  refine Wl.boxA st rfl ?_
  clear st
  intro b2 w1 st
  refine Wl.boxA st rfl ?_
  clear st
  intro b3 w2 st
  refine Wl.alloc st tZ_38 rfl ?_
  clear st
  intro b4 w3 st
  refine Wl.pure (PR.assI rfl) ?_
  refine Wl.nil ?_
  refine tn ?_
  refine Wc.seq ?_
  refine Wc.seq ?_
  refine Wc.region rfl ?_
  refine Wl.loadA (i := 2) st tA_31 rfl rfl (all_sub schV_len) schV_len ?_
  refine Wl.loadA (i := 1) st tA_33 rfl rfl rfl rfl ?_
  refine Wl.callV (c_impl_servesCode (s := s) (p := p) (a := a) (b := b) (m := m) (f := f) (by first | assumption | omega) (by first | assumption | omega) ha hb (by first | assumption | omega) hf) rfl ?_
  intro w4 hbel
  replace st := st.call hbel
  clear hbel
  refine Wl.pure (PR.assI rfl) ?_
  refine Wl.nil ?_
  refine tn ?_
  refine Wc.seq ?_
  refine Wc.region rfl ?_
  refine Wl.pure (PR.moveI rfl) ?_
  refine Wl.pure (PR.neq (a := ((svC s p a b m f : Nat) : Int)) (b := 0) rfl rfl) ?_
  refine Wl.nil ?_
  refine tn ?_
  refine Wc.condN (p := ((svC s p a b m f : Nat) : Int) = 0) rfl (fun h5 => ?_) (fun h5 => ?_)
  · refine Wc.seq ?_
    refine Wc.region rfl ?_
    refine Wl.pure (PR.build (ps := []) (cs := [.int .i16 (0), .int .i16 (0)]) tB_38 rfl rfl) ?_
    refine Wl.pure (PR.moveI rfl) ?_
    refine Wl.storeA (i := 0) (cs' := [.int .i16 (0), .int .i16 (0)]) st tA_38 rfl rfl rfl (by simp [Value.oneCell']) rfl (by simp) (all_put rfl) ?_
    clear st
    intro w6 st
    replace st : St [] w w6 [(b4, [.int .i16 (0), .int .i16 (0)], 38), (b3, [.int .i8 (m), .int .u64 (((f : Nat) : Int))], 33), (b2, schV (s) (p) (a) (b), 31)] := st
    refine Wl.pure (PR.assI rfl) ?_
    refine Wl.nil ?_
    refine tn ?_
    refine Wc.ret ?_
    refine tr ?_
    refine postL.many (rvs := [.cell 4 38, .tmp 5]) rfl (.cell (us := [.int .i16 (0), .int .i16 (0)]) tA_38 rfl rfl (st.rdA (i := 0) (n := 2) rfl rfl) (.tmp (v := .int .i64 (((svC s p a b m f : Nat) : Int))) rfl .nil)) ?_
    refine RetV.of ?_ st.below
    exact rat_f (by omega) rfl
  · refine Wc.skip ?_
    refine tn ?_
    refine Wc.seq ?_
    obtain ⟨hok1, hok2, hsm, hfz⟩ := svC_spec (s := s) (p := p) (a := a) (b := b) (m := m) (f := f) (by omega)
    obtain ⟨hs1, hp1, _⟩ := schOk_spec hok1
    have hm6 := fam_spec hok2
    have hpos := fam_pos hok2
    obtain ⟨n, rfl⟩ : ∃ n : Nat, s = ((n : Nat) : Int) := ⟨s.toNat, by omega⟩
    obtain ⟨e_, rfl⟩ : ∃ e_ : Nat, p = ((e_ : Nat) : Int) := ⟨p.toNat, by omega⟩
    have hlb := lg_bd (f := f) ha hb (1 <<< m.toNat)
    refine Wc.quietTail 7 hmix (by kernel_rfl) rfl ?_
    refine Wq.loadA (i := 2) st tA_31 rfl rfl (all_sub schV_len) schV_len ?_
    refine Wq.loadA (i := 1) st tA_33 rfl rfl rfl rfl ?_
    refine Wq.callV (fun _ hbel => c_impl_leastGap (s := n) (p := e_) (a := a) (b := b) (m := m) (f := f) (by first | assumption | omega) ha hb (by first | assumption | omega) hf (by first | assumption | omega) (by first | assumption | omega)) rfl ?_
    refine Wq.pure (PR.fieldAddr tF_31_1 rfl) ?_
    refine Wq.load (i := 2) st tA_22 rfl rfl (rfl) ?_
    refine Wq.pure (PR.conv (n := ((e_ : Nat) : Int)) tI_2 rfl (by simp only [fitI]; omega) Try.underlying22) ?_
    refine Wq.callV (fun _ hbel => c_impl_ratioOf (n := lgF a b f (1 <<< (m).toNat)) (d := e_) (by first | assumption | omega) (by first | assumption | omega)) rfl ?_
    refine Wq.nil (fun w7 hbel => ?_)
    replace st := st.call hbel
    clear hbel
    refine Wl.storeA (i := 0) (cs' := [.int .i16 ((lgF a b f (1 <<< (m).toNat)).tdiv ((Nat.gcd ((lgF a b f (1 <<< (m).toNat)).natAbs) e_ : Nat) : Int)), .int .i16 ((((e_ / (Nat.gcd ((lgF a b f (1 <<< (m).toNat)).natAbs) e_)) : Nat) : Int))]) st tA_38 rfl rfl rfl (by simp [Value.oneCell']) rfl (by simp) (all_put rfl) ?_
    clear st
    intro w8 st
    replace st : St [] w w8 [(b4, [.int .i16 ((lgF a b f (1 <<< (m).toNat)).tdiv ((Nat.gcd ((lgF a b f (1 <<< (m).toNat)).natAbs) e_ : Nat) : Int)), .int .i16 ((((e_ / (Nat.gcd ((lgF a b f (1 <<< (m).toNat)).natAbs) e_)) : Nat) : Int))], 38), (b3, [.int .i8 (m), .int .u64 (((f : Nat) : Int))], 33), (b2, schV ((n : Nat) : Int) ((e_ : Nat) : Int) (a) (b), 31)] := st
    refine Wl.pure (PR.assI rfl) ?_
    refine Wl.nil ?_
    refine tn ?_
    refine Wc.ret ?_
    refine postL.many (rvs := [.cell 4 38, .tmp 5]) rfl (.cell (us := [.int .i16 ((lgF a b f (1 <<< (m).toNat)).tdiv ((Nat.gcd ((lgF a b f (1 <<< (m).toNat)).natAbs) e_ : Nat) : Int)), .int .i16 ((((e_ / (Nat.gcd ((lgF a b f (1 <<< (m).toNat)).natAbs) e_)) : Nat) : Int))]) tA_38 rfl rfl (st.rdA (i := 0) (n := 2) rfl rfl) (.tmp (v := .int .i64 (0)) rfl .nil)) ?_
    refine RetV.of ?_ st.below
    exact rat_t (by omega)

set_option maxHeartbeats 400000 in
set_option maxRecDepth 4000 in
theorem c_spec_LeastRatio {s : Int} {p : Int} {a : Nat → Nat} {b : Nat → Nat} {m : Int} {f : Nat} {w : World} (hs : -128 ≤ s ∧ s ≤ 127) (hp : -128 ≤ p ∧ p ≤ 127) (ha : ∀ k, a k < 256) (hb : ∀ k, b k < 256) (hm : -128 ≤ m ∧ m ≤ 127) (hf : f < 18446744073709551616) :
    CE Try.prog 18 [.agg (schV (s) (p) (a) (b)).toArray, .agg ([.int .i8 (m), .int .u64 (((f : Nat) : Int))]).toArray] w (RetV w (.tuple #[.agg ([.int .i16 (selZ (svC s p a b m f) ((lgF a b f (1 <<< (m).toNat)).tdiv ((Nat.gcd ((lgF a b f (1 <<< (m).toNat)).natAbs) ((p).toNat) : Nat) : Int))), .int .i16 (((selN (svC s p a b m f) ((((p).toNat) / (Nat.gcd ((lgF a b f (1 <<< (m).toNat)).natAbs) ((p).toNat)))) : Nat) : Int))]).toArray, .int .i64 (((svC s p a b m f : Nat) : Int))])) := by
  refine CE.enter 17 [(0, .agg (schV (s) (p) (a) (b)).toArray), (1, .agg ([.int .i8 (m), .int .u64 (((f : Nat) : Int))]).toArray)] en_18 Try.func18 rfl rfl (Nat.le_of_ble_eq_true rfl) rfl ?_
  have st := St.start w
  refine Wc.seq ?_
  refine Wc.region rfl ?_
  refine Wl.boxA st rfl ?_
  clear st
  intro b2 w1 st
  refine Wl.boxA st rfl ?_
  clear st
  intro b3 w2 st
  refine Wl.alloc st tZ_38 rfl ?_
  clear st
  intro b4 w3 st
  refine Wl.pure (PR.assI rfl) ?_
  refine Wl.nil ?_
  refine tn ?_
  refine Wc.seq ?_
  refine Wc.seq ?_
  refine Wc.region rfl ?_
  refine Wl.callV (c_spec_l06Served (bk := b2) (o := 0) (s := s) (p := p) (a := a) (b := b) (bf := b3) (of := 0) (m := m) (f := f) (st.rdA (i := 2) rfl (all_sub schV_len)) (by first | assumption | omega) (by first | assumption | omega) ha hb (st.rdA (i := 1) (n := 2) rfl rfl) (by first | assumption | omega) hf) rfl ?_
  intro w4 hbel
  replace st := st.call hbel
  clear hbel
  refine Wl.pure (PR.assI rfl) ?_
  refine Wl.nil ?_
  refine tn ?_
  refine Wc.seq ?_
  refine Wc.region rfl ?_
  refine Wl.pure (PR.moveI rfl) ?_
  refine Wl.pure (PR.neq (a := ((svC s p a b m f : Nat) : Int)) (b := 0) rfl rfl) ?_
  refine Wl.nil ?_
  refine tn ?_
  refine Wc.condN (p := ((svC s p a b m f : Nat) : Int) = 0) rfl (fun h5 => ?_) (fun h5 => ?_)
  · refine Wc.seq ?_
    refine Wc.region rfl ?_
    refine Wl.pure (PR.build (ps := []) (cs := [.int .i16 (0), .int .i16 (0)]) tB_38 rfl rfl) ?_
    refine Wl.pure (PR.moveI rfl) ?_
    refine Wl.storeA (i := 0) (cs' := [.int .i16 (0), .int .i16 (0)]) st tA_38 rfl rfl rfl (by simp [Value.oneCell']) rfl (by simp) (all_put rfl) ?_
    clear st
    intro w6 st
    replace st : St [] w w6 [(b4, [.int .i16 (0), .int .i16 (0)], 38), (b3, [.int .i8 (m), .int .u64 (((f : Nat) : Int))], 33), (b2, schV (s) (p) (a) (b), 31)] := st
    refine Wl.pure (PR.assI rfl) ?_
    refine Wl.nil ?_
    refine tn ?_
    refine Wc.ret ?_
    refine tr ?_
    refine postL.many (rvs := [.cell 4 38, .tmp 5]) rfl (.cell (us := [.int .i16 (0), .int .i16 (0)]) tA_38 rfl rfl (st.rdA (i := 0) (n := 2) rfl rfl) (.tmp (v := .int .i64 (((svC s p a b m f : Nat) : Int))) rfl .nil)) ?_
    refine RetV.of ?_ st.below
    exact rat_f (by omega) rfl
  · refine Wc.skip ?_
    refine tn ?_
    refine Wc.seq ?_
    obtain ⟨hok1, hok2, hsm, hfz⟩ := svC_spec (s := s) (p := p) (a := a) (b := b) (m := m) (f := f) (by omega)
    obtain ⟨hs1, hp1, _⟩ := schOk_spec hok1
    have hm6 := fam_spec hok2
    have hpos := fam_pos hok2
    obtain ⟨n, rfl⟩ : ∃ n : Nat, s = ((n : Nat) : Int) := ⟨s.toNat, by omega⟩
    obtain ⟨e_, rfl⟩ : ∃ e_ : Nat, p = ((e_ : Nat) : Int) := ⟨p.toNat, by omega⟩
    have hlb := lg_bd (f := f) ha hb (1 <<< m.toNat)
    refine Wc.quietTail 5 hmix (by kernel_rfl) rfl ?_
    refine Wq.callV (fun _ hbel => c_spec_l06Least (bk := b2) (o := 0) (s := n) (p := e_) (a := a) (b := b) (bf := b3) (of := 0) (m := m) (f := f) ((st.rdA (i := 2) rfl (all_sub schV_len)).below hbel) (by first | assumption | omega) ha hb ((st.rdA (i := 1) (n := 2) rfl rfl).below hbel) (by first | assumption | omega) hf (by first | assumption | omega)) rfl ?_
    refine Wq.pure (PR.fieldAddr tF_31_1 rfl) ?_
    refine Wq.load (i := 2) st tA_22 rfl rfl (rfl) ?_
    refine Wq.pure (PR.conv (n := ((e_ : Nat) : Int)) tI_2 rfl (by simp only [fitI]; omega) Try.underlying22) ?_
    refine Wq.callV (fun _ hbel => c_spec_l06Ratio (n := lgF a b f (1 <<< (m).toNat)) (d := e_) (by first | assumption | omega) (by first | assumption | omega)) rfl ?_
    refine Wq.nil (fun w7 hbel => ?_)
    replace st := st.call hbel
    clear hbel
    refine Wl.storeA (i := 0) (cs' := [.int .i16 ((lgF a b f (1 <<< (m).toNat)).tdiv ((Nat.gcd ((lgF a b f (1 <<< (m).toNat)).natAbs) e_ : Nat) : Int)), .int .i16 ((((e_ / (Nat.gcd ((lgF a b f (1 <<< (m).toNat)).natAbs) e_)) : Nat) : Int))]) st tA_38 rfl rfl rfl (by simp [Value.oneCell']) rfl (by simp) (all_put rfl) ?_
    clear st
    intro w8 st
    replace st : St [] w w8 [(b4, [.int .i16 ((lgF a b f (1 <<< (m).toNat)).tdiv ((Nat.gcd ((lgF a b f (1 <<< (m).toNat)).natAbs) e_ : Nat) : Int)), .int .i16 ((((e_ / (Nat.gcd ((lgF a b f (1 <<< (m).toNat)).natAbs) e_)) : Nat) : Int))], 38), (b3, [.int .i8 (m), .int .u64 (((f : Nat) : Int))], 33), (b2, schV ((n : Nat) : Int) ((e_ : Nat) : Int) (a) (b), 31)] := st
    refine Wl.pure (PR.assI rfl) ?_
    refine Wl.nil ?_
    refine tn ?_
    refine Wc.ret ?_
    refine postL.many (rvs := [.cell 4 38, .tmp 5]) rfl (.cell (us := [.int .i16 ((lgF a b f (1 <<< (m).toNat)).tdiv ((Nat.gcd ((lgF a b f (1 <<< (m).toNat)).natAbs) e_ : Nat) : Int)), .int .i16 ((((e_ / (Nat.gcd ((lgF a b f (1 <<< (m).toNat)).natAbs) e_)) : Nat) : Int))]) tA_38 rfl rfl (st.rdA (i := 0) (n := 2) rfl rfl) (.tmp (v := .int .i64 (0)) rfl .nil)) ?_
    refine RetV.of ?_ st.below
    exact rat_t (by omega)

set_option maxHeartbeats 400000 in
set_option maxRecDepth 4000 in
theorem c_laws_FnExactLeastRatio {s : Int} {p : Int} {a : Nat → Nat} {b : Nat → Nat} {m : Int} {f : Nat} {w : World} (hs : -128 ≤ s ∧ s ≤ 127) (hp : -128 ≤ p ∧ p ≤ 127) (ha : ∀ k, a k < 256) (hb : ∀ k, b k < 256) (hm : -128 ≤ m ∧ m ≤ 127) (hf : f < 18446744073709551616) :
    CE Try.prog 6 [.agg (schV (s) (p) (a) (b)).toArray, .agg ([.int .i8 (m), .int .u64 (((f : Nat) : Int))]).toArray] w (RetV w (.bool true)) := by
  refine CE.enter 34 [(0, .agg (schV (s) (p) (a) (b)).toArray), (1, .agg ([.int .i8 (m), .int .u64 (((f : Nat) : Int))]).toArray)] en_6 Try.func6 rfl rfl (Nat.le_of_ble_eq_true rfl) rfl ?_
  have st := St.start w
  refine Wc.seq ?_
  refine Wc.region rfl ?_
  refine Wl.boxA st rfl ?_
  clear st
  intro b2 w1 st
  refine Wl.boxA st rfl ?_
  clear st
  intro b3 w2 st
  refine Wl.pure (PR.assB rfl) ?_
  refine Wl.nil ?_
  refine tn ?_
  refine Wc.seq ?_
  refine Wc.tree (γ := Nat) (w0 := w) (X := []) (Ks := [b2, b3]) (S := fun i => i == 1 || i == 3 || i == 4 || i == 8 || i == 9) (fun g => [(2, .pointer (some ⟨b2, 0, none⟩)), (3, .pointer (some ⟨b3, 0, none⟩)), (4, .bool false), (5, .pointer (some ⟨g, 0, none⟩)), (6, .int .i64 (((svC s p a b m f : Nat) : Int)))]) (fun g w_ => St [] w w_ [(g, [.int .i16 (selZ (svC s p a b m f) ((lgF a b f (1 <<< (m).toNat)).tdiv ((Nat.gcd ((lgF a b f (1 <<< (m).toNat)).natAbs) ((p).toNat) : Nat) : Int))), .int .i16 (((selN (svC s p a b m f) ((((p).toNat) / (Nat.gcd ((lgF a b f (1 <<< (m).toNat)).natAbs) ((p).toNat)))) : Nat) : Int))], 38), (b3, [.int .i8 (m), .int .u64 (((f : Nat) : Int))], 28), (b2, schV (s) (p) (a) (b), 25)]) (.st 0 3 (.st 2 3 (.alt 8 (.st 1 2 (.st 3 2 (.st 4 2 (.st 5 0 (.st 6 0 (.st 7 0 (.st 9 2 (.st 10 0 PT.nil)))))))) (.st 1 2 (.alt 8 (.st 3 2 (.st 4 2 (.st 5 0 (.st 6 0 (.st 7 0 (.st 9 2 (.st 10 0 PT.nil))))))) (.st 3 2 (.alt 8 (.st 4 2 (.st 5 0 (.st 6 0 (.st 7 0 (.st 9 2 (.st 10 0 PT.nil)))))) (.st 4 2 (.st 5 0 (.st 6 0 (.st 7 0 (.st 8 2 (.st 9 2 (.st 10 0 PT.nil)))))))))))))) hmix (by kernel_rfl) (by kernel_rfl) rfl rfl ?_ ?_
  · intro w3 hbel
    replace st := st.call hbel
    clear hbel
    refine WT.loadA (j := 1) rfl (by simp) st tA_25 rfl rfl (all_sub schV_len) schV_len ?_
    refine WT.loadA (j := 0) rfl (by simp) st tA_28 rfl rfl rfl rfl ?_
    refine WT.alt ?_ ?_
    · have st0 := st
      refine WT.s rfl rfl ?_
      refine Wl.alloc st tZ_38 rfl ?_
      clear st
      intro b5 w4 st
      refine Wl.nil ⟨rfl, RK.of st0 st (ksC (i := 1) (j := 2) rfl rfl rfl (ksC (i := 0) (j := 1) rfl rfl rfl ksN)), ?_⟩
      clear st0
      have st0 := st
      refine WT.s rfl rfl ?_
      refine Wl.callV (c_laws_toScheme (s := s) (p := p) (a := a) (b := b) ha hb) rfl ?_
      intro w5 hbel
      replace st := st.call hbel
      clear hbel
      refine Wl.nil ⟨rfl, RK.of st0 st (ksC (i := 2) (j := 2) rfl rfl rfl (ksC (i := 1) (j := 1) rfl rfl rfl ksN)), ?_⟩
      clear st0
      have st0 := st
      refine WT.s rfl rfl ?_
      refine Wl.callV (c_laws_toFamily (m := m) (f := f) (by first | assumption | omega) hf) rfl ?_
      intro w6 hbel
      replace st := st.call hbel
      clear hbel
      refine Wl.nil ⟨rfl, RK.of st0 st (ksC (i := 2) (j := 2) rfl rfl rfl (ksC (i := 1) (j := 1) rfl rfl rfl ksN)), ?_⟩
      clear st0
      have st0 := st
      refine WT.s rfl rfl ?_
      refine Wl.callV (c_spec_LeastRatio (s := s) (p := p) (a := a) (b := b) (m := m) (f := f) (by first | assumption | omega) (by first | assumption | omega) ha hb (by first | assumption | omega) hf) rfl ?_
      intro w7 hbel
      replace st := st.call hbel
      clear hbel
      refine Wl.nil ⟨rfl, RK.of st0 st (ksC (i := 2) (j := 2) rfl rfl rfl (ksC (i := 1) (j := 1) rfl rfl rfl ksN)), ?_⟩
      clear st0
      refine WT.pure rfl (PR.moveV (.tuple #[.agg ([.int .i16 (selZ (svC s p a b m f) ((lgF a b f (1 <<< (m).toNat)).tdiv ((Nat.gcd ((lgF a b f (1 <<< (m).toNat)).natAbs) ((p).toNat) : Nat) : Int))), .int .i16 (((selN (svC s p a b m f) ((((p).toNat) / (Nat.gcd ((lgF a b f (1 <<< (m).toNat)).natAbs) ((p).toNat)))) : Nat) : Int))]).toArray, .int .i64 (((svC s p a b m f : Nat) : Int))]) rfl) ?_
      refine WT.pure rfl (PR.extr (i := 0) (vs := [.agg ([.int .i16 (selZ (svC s p a b m f) ((lgF a b f (1 <<< (m).toNat)).tdiv ((Nat.gcd ((lgF a b f (1 <<< (m).toNat)).natAbs) ((p).toNat) : Nat) : Int))), .int .i16 (((selN (svC s p a b m f) ((((p).toNat) / (Nat.gcd ((lgF a b f (1 <<< (m).toNat)).natAbs) ((p).toNat)))) : Nat) : Int))]).toArray, .int .i64 (((svC s p a b m f : Nat) : Int))]) rfl rfl) ?_
      refine WT.pure rfl (PR.extr (i := 1) (vs := [.agg ([.int .i16 (selZ (svC s p a b m f) ((lgF a b f (1 <<< (m).toNat)).tdiv ((Nat.gcd ((lgF a b f (1 <<< (m).toNat)).natAbs) ((p).toNat) : Nat) : Int))), .int .i16 (((selN (svC s p a b m f) ((((p).toNat) / (Nat.gcd ((lgF a b f (1 <<< (m).toNat)).natAbs) ((p).toNat)))) : Nat) : Int))]).toArray, .int .i64 (((svC s p a b m f : Nat) : Int))]) rfl rfl) ?_
      have st0 := st
      refine WT.s rfl rfl ?_
      refine Wl.storeA (i := 0) (cs' := [.int .i16 (selZ (svC s p a b m f) ((lgF a b f (1 <<< (m).toNat)).tdiv ((Nat.gcd ((lgF a b f (1 <<< (m).toNat)).natAbs) ((p).toNat) : Nat) : Int))), .int .i16 (((selN (svC s p a b m f) ((((p).toNat) / (Nat.gcd ((lgF a b f (1 <<< (m).toNat)).natAbs) ((p).toNat)))) : Nat) : Int))]) st tA_38 rfl rfl rfl (by simp [Value.oneCell']) rfl (by simp) (all_put rfl) ?_
      clear st
      intro w8 st
      replace st : St [] w w8 [(b5, [.int .i16 (selZ (svC s p a b m f) ((lgF a b f (1 <<< (m).toNat)).tdiv ((Nat.gcd ((lgF a b f (1 <<< (m).toNat)).natAbs) ((p).toNat) : Nat) : Int))), .int .i16 (((selN (svC s p a b m f) ((((p).toNat) / (Nat.gcd ((lgF a b f (1 <<< (m).toNat)).natAbs) ((p).toNat)))) : Nat) : Int))], 38), (b3, [.int .i8 (m), .int .u64 (((f : Nat) : Int))], 28), (b2, schV (s) (p) (a) (b), 25)] := st
      refine Wl.nil ⟨rfl, RK.of st0 st (ksC (i := 2) (j := 2) rfl rfl rfl (ksC (i := 1) (j := 1) rfl rfl rfl ksN)), ?_⟩
      clear st0
      refine WT.pure rfl (PR.assI rfl) ?_
      exact WT.nil ⟨b5, (.cons rfl (.cons rfl (.cons rfl (.cons rfl (.cons rfl (.nil _)))))), st⟩
    · have st0 := st
      refine WT.s rfl rfl ?_
      refine Wl.callV (c_laws_toScheme (s := s) (p := p) (a := a) (b := b) ha hb) rfl ?_
      intro w9 hbel
      replace st := st.call hbel
      clear hbel
      refine Wl.nil ⟨rfl, RK.of st0 st (ksC (i := 1) (j := 1) rfl rfl rfl (ksC (i := 0) (j := 0) rfl rfl rfl ksN)), ?_⟩
      clear st0
      refine WT.alt ?_ ?_
      · have st0 := st
        refine WT.s rfl rfl ?_
        refine Wl.alloc st tZ_38 rfl ?_
        clear st
        intro b5 w10 st
        refine Wl.nil ⟨rfl, RK.of st0 st (ksC (i := 1) (j := 2) rfl rfl rfl (ksC (i := 0) (j := 1) rfl rfl rfl ksN)), ?_⟩
        clear st0
        have st0 := st
        refine WT.s rfl rfl ?_
        refine Wl.callV (c_laws_toFamily (m := m) (f := f) (by first | assumption | omega) hf) rfl ?_
        intro w11 hbel
        replace st := st.call hbel
        clear hbel
        refine Wl.nil ⟨rfl, RK.of st0 st (ksC (i := 2) (j := 2) rfl rfl rfl (ksC (i := 1) (j := 1) rfl rfl rfl ksN)), ?_⟩
        clear st0
        have st0 := st
        refine WT.s rfl rfl ?_
        refine Wl.callV (c_spec_LeastRatio (s := s) (p := p) (a := a) (b := b) (m := m) (f := f) (by first | assumption | omega) (by first | assumption | omega) ha hb (by first | assumption | omega) hf) rfl ?_
        intro w12 hbel
        replace st := st.call hbel
        clear hbel
        refine Wl.nil ⟨rfl, RK.of st0 st (ksC (i := 2) (j := 2) rfl rfl rfl (ksC (i := 1) (j := 1) rfl rfl rfl ksN)), ?_⟩
        clear st0
        refine WT.pure rfl (PR.moveV (.tuple #[.agg ([.int .i16 (selZ (svC s p a b m f) ((lgF a b f (1 <<< (m).toNat)).tdiv ((Nat.gcd ((lgF a b f (1 <<< (m).toNat)).natAbs) ((p).toNat) : Nat) : Int))), .int .i16 (((selN (svC s p a b m f) ((((p).toNat) / (Nat.gcd ((lgF a b f (1 <<< (m).toNat)).natAbs) ((p).toNat)))) : Nat) : Int))]).toArray, .int .i64 (((svC s p a b m f : Nat) : Int))]) rfl) ?_
        refine WT.pure rfl (PR.extr (i := 0) (vs := [.agg ([.int .i16 (selZ (svC s p a b m f) ((lgF a b f (1 <<< (m).toNat)).tdiv ((Nat.gcd ((lgF a b f (1 <<< (m).toNat)).natAbs) ((p).toNat) : Nat) : Int))), .int .i16 (((selN (svC s p a b m f) ((((p).toNat) / (Nat.gcd ((lgF a b f (1 <<< (m).toNat)).natAbs) ((p).toNat)))) : Nat) : Int))]).toArray, .int .i64 (((svC s p a b m f : Nat) : Int))]) rfl rfl) ?_
        refine WT.pure rfl (PR.extr (i := 1) (vs := [.agg ([.int .i16 (selZ (svC s p a b m f) ((lgF a b f (1 <<< (m).toNat)).tdiv ((Nat.gcd ((lgF a b f (1 <<< (m).toNat)).natAbs) ((p).toNat) : Nat) : Int))), .int .i16 (((selN (svC s p a b m f) ((((p).toNat) / (Nat.gcd ((lgF a b f (1 <<< (m).toNat)).natAbs) ((p).toNat)))) : Nat) : Int))]).toArray, .int .i64 (((svC s p a b m f : Nat) : Int))]) rfl rfl) ?_
        have st0 := st
        refine WT.s rfl rfl ?_
        refine Wl.storeA (i := 0) (cs' := [.int .i16 (selZ (svC s p a b m f) ((lgF a b f (1 <<< (m).toNat)).tdiv ((Nat.gcd ((lgF a b f (1 <<< (m).toNat)).natAbs) ((p).toNat) : Nat) : Int))), .int .i16 (((selN (svC s p a b m f) ((((p).toNat) / (Nat.gcd ((lgF a b f (1 <<< (m).toNat)).natAbs) ((p).toNat)))) : Nat) : Int))]) st tA_38 rfl rfl rfl (by simp [Value.oneCell']) rfl (by simp) (all_put rfl) ?_
        clear st
        intro w13 st
        replace st : St [] w w13 [(b5, [.int .i16 (selZ (svC s p a b m f) ((lgF a b f (1 <<< (m).toNat)).tdiv ((Nat.gcd ((lgF a b f (1 <<< (m).toNat)).natAbs) ((p).toNat) : Nat) : Int))), .int .i16 (((selN (svC s p a b m f) ((((p).toNat) / (Nat.gcd ((lgF a b f (1 <<< (m).toNat)).natAbs) ((p).toNat)))) : Nat) : Int))], 38), (b3, [.int .i8 (m), .int .u64 (((f : Nat) : Int))], 28), (b2, schV (s) (p) (a) (b), 25)] := st
        refine Wl.nil ⟨rfl, RK.of st0 st (ksC (i := 2) (j := 2) rfl rfl rfl (ksC (i := 1) (j := 1) rfl rfl rfl ksN)), ?_⟩
        clear st0
        refine WT.pure rfl (PR.assI rfl) ?_
        exact WT.nil ⟨b5, (.cons rfl (.cons rfl (.cons rfl (.cons rfl (.cons rfl (.nil _)))))), st⟩
      · have st0 := st
        refine WT.s rfl rfl ?_
        refine Wl.callV (c_laws_toFamily (m := m) (f := f) (by first | assumption | omega) hf) rfl ?_
        intro w14 hbel
        replace st := st.call hbel
        clear hbel
        refine Wl.nil ⟨rfl, RK.of st0 st (ksC (i := 1) (j := 1) rfl rfl rfl (ksC (i := 0) (j := 0) rfl rfl rfl ksN)), ?_⟩
        clear st0
        refine WT.alt ?_ ?_
        · have st0 := st
          refine WT.s rfl rfl ?_
          refine Wl.alloc st tZ_38 rfl ?_
          clear st
          intro b5 w15 st
          refine Wl.nil ⟨rfl, RK.of st0 st (ksC (i := 1) (j := 2) rfl rfl rfl (ksC (i := 0) (j := 1) rfl rfl rfl ksN)), ?_⟩
          clear st0
          have st0 := st
          refine WT.s rfl rfl ?_
          refine Wl.callV (c_spec_LeastRatio (s := s) (p := p) (a := a) (b := b) (m := m) (f := f) (by first | assumption | omega) (by first | assumption | omega) ha hb (by first | assumption | omega) hf) rfl ?_
          intro w16 hbel
          replace st := st.call hbel
          clear hbel
          refine Wl.nil ⟨rfl, RK.of st0 st (ksC (i := 2) (j := 2) rfl rfl rfl (ksC (i := 1) (j := 1) rfl rfl rfl ksN)), ?_⟩
          clear st0
          refine WT.pure rfl (PR.moveV (.tuple #[.agg ([.int .i16 (selZ (svC s p a b m f) ((lgF a b f (1 <<< (m).toNat)).tdiv ((Nat.gcd ((lgF a b f (1 <<< (m).toNat)).natAbs) ((p).toNat) : Nat) : Int))), .int .i16 (((selN (svC s p a b m f) ((((p).toNat) / (Nat.gcd ((lgF a b f (1 <<< (m).toNat)).natAbs) ((p).toNat)))) : Nat) : Int))]).toArray, .int .i64 (((svC s p a b m f : Nat) : Int))]) rfl) ?_
          refine WT.pure rfl (PR.extr (i := 0) (vs := [.agg ([.int .i16 (selZ (svC s p a b m f) ((lgF a b f (1 <<< (m).toNat)).tdiv ((Nat.gcd ((lgF a b f (1 <<< (m).toNat)).natAbs) ((p).toNat) : Nat) : Int))), .int .i16 (((selN (svC s p a b m f) ((((p).toNat) / (Nat.gcd ((lgF a b f (1 <<< (m).toNat)).natAbs) ((p).toNat)))) : Nat) : Int))]).toArray, .int .i64 (((svC s p a b m f : Nat) : Int))]) rfl rfl) ?_
          refine WT.pure rfl (PR.extr (i := 1) (vs := [.agg ([.int .i16 (selZ (svC s p a b m f) ((lgF a b f (1 <<< (m).toNat)).tdiv ((Nat.gcd ((lgF a b f (1 <<< (m).toNat)).natAbs) ((p).toNat) : Nat) : Int))), .int .i16 (((selN (svC s p a b m f) ((((p).toNat) / (Nat.gcd ((lgF a b f (1 <<< (m).toNat)).natAbs) ((p).toNat)))) : Nat) : Int))]).toArray, .int .i64 (((svC s p a b m f : Nat) : Int))]) rfl rfl) ?_
          have st0 := st
          refine WT.s rfl rfl ?_
          refine Wl.storeA (i := 0) (cs' := [.int .i16 (selZ (svC s p a b m f) ((lgF a b f (1 <<< (m).toNat)).tdiv ((Nat.gcd ((lgF a b f (1 <<< (m).toNat)).natAbs) ((p).toNat) : Nat) : Int))), .int .i16 (((selN (svC s p a b m f) ((((p).toNat) / (Nat.gcd ((lgF a b f (1 <<< (m).toNat)).natAbs) ((p).toNat)))) : Nat) : Int))]) st tA_38 rfl rfl rfl (by simp [Value.oneCell']) rfl (by simp) (all_put rfl) ?_
          clear st
          intro w17 st
          replace st : St [] w w17 [(b5, [.int .i16 (selZ (svC s p a b m f) ((lgF a b f (1 <<< (m).toNat)).tdiv ((Nat.gcd ((lgF a b f (1 <<< (m).toNat)).natAbs) ((p).toNat) : Nat) : Int))), .int .i16 (((selN (svC s p a b m f) ((((p).toNat) / (Nat.gcd ((lgF a b f (1 <<< (m).toNat)).natAbs) ((p).toNat)))) : Nat) : Int))], 38), (b3, [.int .i8 (m), .int .u64 (((f : Nat) : Int))], 28), (b2, schV (s) (p) (a) (b), 25)] := st
          refine Wl.nil ⟨rfl, RK.of st0 st (ksC (i := 2) (j := 2) rfl rfl rfl (ksC (i := 1) (j := 1) rfl rfl rfl ksN)), ?_⟩
          clear st0
          refine WT.pure rfl (PR.assI rfl) ?_
          exact WT.nil ⟨b5, (.cons rfl (.cons rfl (.cons rfl (.cons rfl (.cons rfl (.nil _)))))), st⟩
        · have st0 := st
          refine WT.s rfl rfl ?_
          refine Wl.callV (c_spec_LeastRatio (s := s) (p := p) (a := a) (b := b) (m := m) (f := f) (by first | assumption | omega) (by first | assumption | omega) ha hb (by first | assumption | omega) hf) rfl ?_
          intro w18 hbel
          replace st := st.call hbel
          clear hbel
          refine Wl.nil ⟨rfl, RK.of st0 st (ksC (i := 1) (j := 1) rfl rfl rfl (ksC (i := 0) (j := 0) rfl rfl rfl ksN)), ?_⟩
          clear st0
          refine WT.pure rfl (PR.moveV (.tuple #[.agg ([.int .i16 (selZ (svC s p a b m f) ((lgF a b f (1 <<< (m).toNat)).tdiv ((Nat.gcd ((lgF a b f (1 <<< (m).toNat)).natAbs) ((p).toNat) : Nat) : Int))), .int .i16 (((selN (svC s p a b m f) ((((p).toNat) / (Nat.gcd ((lgF a b f (1 <<< (m).toNat)).natAbs) ((p).toNat)))) : Nat) : Int))]).toArray, .int .i64 (((svC s p a b m f : Nat) : Int))]) rfl) ?_
          refine WT.pure rfl (PR.extr (i := 0) (vs := [.agg ([.int .i16 (selZ (svC s p a b m f) ((lgF a b f (1 <<< (m).toNat)).tdiv ((Nat.gcd ((lgF a b f (1 <<< (m).toNat)).natAbs) ((p).toNat) : Nat) : Int))), .int .i16 (((selN (svC s p a b m f) ((((p).toNat) / (Nat.gcd ((lgF a b f (1 <<< (m).toNat)).natAbs) ((p).toNat)))) : Nat) : Int))]).toArray, .int .i64 (((svC s p a b m f : Nat) : Int))]) rfl rfl) ?_
          refine WT.pure rfl (PR.extr (i := 1) (vs := [.agg ([.int .i16 (selZ (svC s p a b m f) ((lgF a b f (1 <<< (m).toNat)).tdiv ((Nat.gcd ((lgF a b f (1 <<< (m).toNat)).natAbs) ((p).toNat) : Nat) : Int))), .int .i16 (((selN (svC s p a b m f) ((((p).toNat) / (Nat.gcd ((lgF a b f (1 <<< (m).toNat)).natAbs) ((p).toNat)))) : Nat) : Int))]).toArray, .int .i64 (((svC s p a b m f : Nat) : Int))]) rfl rfl) ?_
          have st0 := st
          refine WT.s rfl rfl ?_
          refine Wl.alloc st tZ_38 rfl ?_
          clear st
          intro b5 w19 st
          refine Wl.nil ⟨rfl, RK.of st0 st (ksC (i := 1) (j := 2) rfl rfl rfl (ksC (i := 0) (j := 1) rfl rfl rfl ksN)), ?_⟩
          clear st0
          have st0 := st
          refine WT.s rfl rfl ?_
          refine Wl.storeA (i := 0) (cs' := [.int .i16 (selZ (svC s p a b m f) ((lgF a b f (1 <<< (m).toNat)).tdiv ((Nat.gcd ((lgF a b f (1 <<< (m).toNat)).natAbs) ((p).toNat) : Nat) : Int))), .int .i16 (((selN (svC s p a b m f) ((((p).toNat) / (Nat.gcd ((lgF a b f (1 <<< (m).toNat)).natAbs) ((p).toNat)))) : Nat) : Int))]) st tA_38 rfl rfl rfl (by simp [Value.oneCell']) rfl (by simp) (all_put rfl) ?_
          clear st
          intro w20 st
          replace st : St [] w w20 [(b5, [.int .i16 (selZ (svC s p a b m f) ((lgF a b f (1 <<< (m).toNat)).tdiv ((Nat.gcd ((lgF a b f (1 <<< (m).toNat)).natAbs) ((p).toNat) : Nat) : Int))), .int .i16 (((selN (svC s p a b m f) ((((p).toNat) / (Nat.gcd ((lgF a b f (1 <<< (m).toNat)).natAbs) ((p).toNat)))) : Nat) : Int))], 38), (b3, [.int .i8 (m), .int .u64 (((f : Nat) : Int))], 28), (b2, schV (s) (p) (a) (b), 25)] := st
          refine Wl.nil ⟨rfl, RK.of st0 st (ksC (i := 2) (j := 2) rfl rfl rfl (ksC (i := 1) (j := 1) rfl rfl rfl ksN)), ?_⟩
          clear st0
          refine WT.pure rfl (PR.assI rfl) ?_
          exact WT.nil ⟨b5, (.cons rfl (.cons rfl (.cons rfl (.cons rfl (.cons rfl (.nil _)))))), st⟩
  clear st
  rintro b5 w21 st
  try dsimp only at st ⊢
  refine tn ?_
  refine Wc.seq ?_
  refine Wc.tree (γ := Nat) (w0 := w) (X := []) (Ks := [b2, b3]) (S := fun i => i == 1 || i == 3 || i == 4 || i == 8 || i == 9) (fun g => [(4, .bool false), (5, .pointer (some ⟨b5, 0, none⟩)), (6, .int .i64 (((svC s p a b m f : Nat) : Int))), (7, .pointer (some ⟨g, 0, none⟩)), (8, .int .i64 (((svC s p a b m f : Nat) : Int)))]) (fun g w_ => St [] w w_ [(g, [.int .i16 (selZ (svC s p a b m f) ((lgF a b f (1 <<< (m).toNat)).tdiv ((Nat.gcd ((lgF a b f (1 <<< (m).toNat)).natAbs) ((p).toNat) : Nat) : Int))), .int .i16 (((selN (svC s p a b m f) ((((p).toNat) / (Nat.gcd ((lgF a b f (1 <<< (m).toNat)).natAbs) ((p).toNat)))) : Nat) : Int))], 38), (b5, [.int .i16 (selZ (svC s p a b m f) ((lgF a b f (1 <<< (m).toNat)).tdiv ((Nat.gcd ((lgF a b f (1 <<< (m).toNat)).natAbs) ((p).toNat) : Nat) : Int))), .int .i16 (((selN (svC s p a b m f) ((((p).toNat) / (Nat.gcd ((lgF a b f (1 <<< (m).toNat)).natAbs) ((p).toNat)))) : Nat) : Int))], 38), (b3, [.int .i8 (m), .int .u64 (((f : Nat) : Int))], 28), (b2, schV (s) (p) (a) (b), 25)]) (.st 0 3 (.st 2 3 (.alt 8 (.st 1 2 (.st 3 2 (.st 4 2 (.st 5 0 (.st 6 0 (.st 7 0 (.st 9 2 (.st 10 0 PT.nil)))))))) (.st 1 2 (.alt 8 (.st 3 2 (.st 4 2 (.st 5 0 (.st 6 0 (.st 7 0 (.st 9 2 (.st 10 0 PT.nil))))))) (.st 3 2 (.alt 8 (.st 4 2 (.st 5 0 (.st 6 0 (.st 7 0 (.st 9 2 (.st 10 0 PT.nil)))))) (.st 4 2 (.st 5 0 (.st 6 0 (.st 7 0 (.st 8 2 (.st 9 2 (.st 10 0 PT.nil)))))))))))))) hmix (by kernel_rfl) (by kernel_rfl) rfl rfl ?_ ?_
  · intro w22 hbel
    replace st := st.call hbel
    clear hbel
    refine WT.loadA (j := 2) rfl (by simp) st tA_25 rfl rfl (all_sub schV_len) schV_len ?_
    refine WT.loadA (j := 1) rfl (by simp) st tA_28 rfl rfl rfl rfl ?_
    refine WT.alt ?_ ?_
    · have st0 := st
      refine WT.s rfl rfl ?_
      refine Wl.alloc st tZ_38 rfl ?_
      clear st
      intro b7 w23 st
      refine Wl.nil ⟨rfl, RK.of st0 st (ksC (i := 2) (j := 3) rfl rfl rfl (ksC (i := 1) (j := 2) rfl rfl rfl ksN)), ?_⟩
      clear st0
      have st0 := st
      refine WT.s rfl rfl ?_
      refine Wl.callV (c_laws_toScheme (s := s) (p := p) (a := a) (b := b) ha hb) rfl ?_
      intro w24 hbel
      replace st := st.call hbel
      clear hbel
      refine Wl.nil ⟨rfl, RK.of st0 st (ksC (i := 3) (j := 3) rfl rfl rfl (ksC (i := 2) (j := 2) rfl rfl rfl ksN)), ?_⟩
      clear st0
      have st0 := st
      refine WT.s rfl rfl ?_
      refine Wl.callV (c_laws_toFamily (m := m) (f := f) (by first | assumption | omega) hf) rfl ?_
      intro w25 hbel
      replace st := st.call hbel
      clear hbel
      refine Wl.nil ⟨rfl, RK.of st0 st (ksC (i := 3) (j := 3) rfl rfl rfl (ksC (i := 2) (j := 2) rfl rfl rfl ksN)), ?_⟩
      clear st0
      have st0 := st
      refine WT.s rfl rfl ?_
      refine Wl.callV (c_impl_LeastRatio (s := s) (p := p) (a := a) (b := b) (m := m) (f := f) (by first | assumption | omega) (by first | assumption | omega) ha hb (by first | assumption | omega) hf) rfl ?_
      intro w26 hbel
      replace st := st.call hbel
      clear hbel
      refine Wl.nil ⟨rfl, RK.of st0 st (ksC (i := 3) (j := 3) rfl rfl rfl (ksC (i := 2) (j := 2) rfl rfl rfl ksN)), ?_⟩
      clear st0
      refine WT.pure rfl (PR.moveV (.tuple #[.agg ([.int .i16 (selZ (svC s p a b m f) ((lgF a b f (1 <<< (m).toNat)).tdiv ((Nat.gcd ((lgF a b f (1 <<< (m).toNat)).natAbs) ((p).toNat) : Nat) : Int))), .int .i16 (((selN (svC s p a b m f) ((((p).toNat) / (Nat.gcd ((lgF a b f (1 <<< (m).toNat)).natAbs) ((p).toNat)))) : Nat) : Int))]).toArray, .int .i64 (((svC s p a b m f : Nat) : Int))]) rfl) ?_
      refine WT.pure rfl (PR.extr (i := 0) (vs := [.agg ([.int .i16 (selZ (svC s p a b m f) ((lgF a b f (1 <<< (m).toNat)).tdiv ((Nat.gcd ((lgF a b f (1 <<< (m).toNat)).natAbs) ((p).toNat) : Nat) : Int))), .int .i16 (((selN (svC s p a b m f) ((((p).toNat) / (Nat.gcd ((lgF a b f (1 <<< (m).toNat)).natAbs) ((p).toNat)))) : Nat) : Int))]).toArray, .int .i64 (((svC s p a b m f : Nat) : Int))]) rfl rfl) ?_
      refine WT.pure rfl (PR.extr (i := 1) (vs := [.agg ([.int .i16 (selZ (svC s p a b m f) ((lgF a b f (1 <<< (m).toNat)).tdiv ((Nat.gcd ((lgF a b f (1 <<< (m).toNat)).natAbs) ((p).toNat) : Nat) : Int))), .int .i16 (((selN (svC s p a b m f) ((((p).toNat) / (Nat.gcd ((lgF a b f (1 <<< (m).toNat)).natAbs) ((p).toNat)))) : Nat) : Int))]).toArray, .int .i64 (((svC s p a b m f : Nat) : Int))]) rfl rfl) ?_
      have st0 := st
      refine WT.s rfl rfl ?_
      refine Wl.storeA (i := 0) (cs' := [.int .i16 (selZ (svC s p a b m f) ((lgF a b f (1 <<< (m).toNat)).tdiv ((Nat.gcd ((lgF a b f (1 <<< (m).toNat)).natAbs) ((p).toNat) : Nat) : Int))), .int .i16 (((selN (svC s p a b m f) ((((p).toNat) / (Nat.gcd ((lgF a b f (1 <<< (m).toNat)).natAbs) ((p).toNat)))) : Nat) : Int))]) st tA_38 rfl rfl rfl (by simp [Value.oneCell']) rfl (by simp) (all_put rfl) ?_
      clear st
      intro w27 st
      replace st : St [] w w27 [(b7, [.int .i16 (selZ (svC s p a b m f) ((lgF a b f (1 <<< (m).toNat)).tdiv ((Nat.gcd ((lgF a b f (1 <<< (m).toNat)).natAbs) ((p).toNat) : Nat) : Int))), .int .i16 (((selN (svC s p a b m f) ((((p).toNat) / (Nat.gcd ((lgF a b f (1 <<< (m).toNat)).natAbs) ((p).toNat)))) : Nat) : Int))], 38), (b5, [.int .i16 (selZ (svC s p a b m f) ((lgF a b f (1 <<< (m).toNat)).tdiv ((Nat.gcd ((lgF a b f (1 <<< (m).toNat)).natAbs) ((p).toNat) : Nat) : Int))), .int .i16 (((selN (svC s p a b m f) ((((p).toNat) / (Nat.gcd ((lgF a b f (1 <<< (m).toNat)).natAbs) ((p).toNat)))) : Nat) : Int))], 38), (b3, [.int .i8 (m), .int .u64 (((f : Nat) : Int))], 28), (b2, schV (s) (p) (a) (b), 25)] := st
      refine Wl.nil ⟨rfl, RK.of st0 st (ksC (i := 3) (j := 3) rfl rfl rfl (ksC (i := 2) (j := 2) rfl rfl rfl ksN)), ?_⟩
      clear st0
      refine WT.pure rfl (PR.assI rfl) ?_
      exact WT.nil ⟨b7, (.cons rfl (.cons rfl (.cons rfl (.cons rfl (.cons rfl (.nil _)))))), st⟩
    · have st0 := st
      refine WT.s rfl rfl ?_
      refine Wl.callV (c_laws_toScheme (s := s) (p := p) (a := a) (b := b) ha hb) rfl ?_
      intro w28 hbel
      replace st := st.call hbel
      clear hbel
      refine Wl.nil ⟨rfl, RK.of st0 st (ksC (i := 2) (j := 2) rfl rfl rfl (ksC (i := 1) (j := 1) rfl rfl rfl ksN)), ?_⟩
      clear st0
      refine WT.alt ?_ ?_
      · have st0 := st
        refine WT.s rfl rfl ?_
        refine Wl.alloc st tZ_38 rfl ?_
        clear st
        intro b7 w29 st
        refine Wl.nil ⟨rfl, RK.of st0 st (ksC (i := 2) (j := 3) rfl rfl rfl (ksC (i := 1) (j := 2) rfl rfl rfl ksN)), ?_⟩
        clear st0
        have st0 := st
        refine WT.s rfl rfl ?_
        refine Wl.callV (c_laws_toFamily (m := m) (f := f) (by first | assumption | omega) hf) rfl ?_
        intro w30 hbel
        replace st := st.call hbel
        clear hbel
        refine Wl.nil ⟨rfl, RK.of st0 st (ksC (i := 3) (j := 3) rfl rfl rfl (ksC (i := 2) (j := 2) rfl rfl rfl ksN)), ?_⟩
        clear st0
        have st0 := st
        refine WT.s rfl rfl ?_
        refine Wl.callV (c_impl_LeastRatio (s := s) (p := p) (a := a) (b := b) (m := m) (f := f) (by first | assumption | omega) (by first | assumption | omega) ha hb (by first | assumption | omega) hf) rfl ?_
        intro w31 hbel
        replace st := st.call hbel
        clear hbel
        refine Wl.nil ⟨rfl, RK.of st0 st (ksC (i := 3) (j := 3) rfl rfl rfl (ksC (i := 2) (j := 2) rfl rfl rfl ksN)), ?_⟩
        clear st0
        refine WT.pure rfl (PR.moveV (.tuple #[.agg ([.int .i16 (selZ (svC s p a b m f) ((lgF a b f (1 <<< (m).toNat)).tdiv ((Nat.gcd ((lgF a b f (1 <<< (m).toNat)).natAbs) ((p).toNat) : Nat) : Int))), .int .i16 (((selN (svC s p a b m f) ((((p).toNat) / (Nat.gcd ((lgF a b f (1 <<< (m).toNat)).natAbs) ((p).toNat)))) : Nat) : Int))]).toArray, .int .i64 (((svC s p a b m f : Nat) : Int))]) rfl) ?_
        refine WT.pure rfl (PR.extr (i := 0) (vs := [.agg ([.int .i16 (selZ (svC s p a b m f) ((lgF a b f (1 <<< (m).toNat)).tdiv ((Nat.gcd ((lgF a b f (1 <<< (m).toNat)).natAbs) ((p).toNat) : Nat) : Int))), .int .i16 (((selN (svC s p a b m f) ((((p).toNat) / (Nat.gcd ((lgF a b f (1 <<< (m).toNat)).natAbs) ((p).toNat)))) : Nat) : Int))]).toArray, .int .i64 (((svC s p a b m f : Nat) : Int))]) rfl rfl) ?_
        refine WT.pure rfl (PR.extr (i := 1) (vs := [.agg ([.int .i16 (selZ (svC s p a b m f) ((lgF a b f (1 <<< (m).toNat)).tdiv ((Nat.gcd ((lgF a b f (1 <<< (m).toNat)).natAbs) ((p).toNat) : Nat) : Int))), .int .i16 (((selN (svC s p a b m f) ((((p).toNat) / (Nat.gcd ((lgF a b f (1 <<< (m).toNat)).natAbs) ((p).toNat)))) : Nat) : Int))]).toArray, .int .i64 (((svC s p a b m f : Nat) : Int))]) rfl rfl) ?_
        have st0 := st
        refine WT.s rfl rfl ?_
        refine Wl.storeA (i := 0) (cs' := [.int .i16 (selZ (svC s p a b m f) ((lgF a b f (1 <<< (m).toNat)).tdiv ((Nat.gcd ((lgF a b f (1 <<< (m).toNat)).natAbs) ((p).toNat) : Nat) : Int))), .int .i16 (((selN (svC s p a b m f) ((((p).toNat) / (Nat.gcd ((lgF a b f (1 <<< (m).toNat)).natAbs) ((p).toNat)))) : Nat) : Int))]) st tA_38 rfl rfl rfl (by simp [Value.oneCell']) rfl (by simp) (all_put rfl) ?_
        clear st
        intro w32 st
        replace st : St [] w w32 [(b7, [.int .i16 (selZ (svC s p a b m f) ((lgF a b f (1 <<< (m).toNat)).tdiv ((Nat.gcd ((lgF a b f (1 <<< (m).toNat)).natAbs) ((p).toNat) : Nat) : Int))), .int .i16 (((selN (svC s p a b m f) ((((p).toNat) / (Nat.gcd ((lgF a b f (1 <<< (m).toNat)).natAbs) ((p).toNat)))) : Nat) : Int))], 38), (b5, [.int .i16 (selZ (svC s p a b m f) ((lgF a b f (1 <<< (m).toNat)).tdiv ((Nat.gcd ((lgF a b f (1 <<< (m).toNat)).natAbs) ((p).toNat) : Nat) : Int))), .int .i16 (((selN (svC s p a b m f) ((((p).toNat) / (Nat.gcd ((lgF a b f (1 <<< (m).toNat)).natAbs) ((p).toNat)))) : Nat) : Int))], 38), (b3, [.int .i8 (m), .int .u64 (((f : Nat) : Int))], 28), (b2, schV (s) (p) (a) (b), 25)] := st
        refine Wl.nil ⟨rfl, RK.of st0 st (ksC (i := 3) (j := 3) rfl rfl rfl (ksC (i := 2) (j := 2) rfl rfl rfl ksN)), ?_⟩
        clear st0
        refine WT.pure rfl (PR.assI rfl) ?_
        exact WT.nil ⟨b7, (.cons rfl (.cons rfl (.cons rfl (.cons rfl (.cons rfl (.nil _)))))), st⟩
      · have st0 := st
        refine WT.s rfl rfl ?_
        refine Wl.callV (c_laws_toFamily (m := m) (f := f) (by first | assumption | omega) hf) rfl ?_
        intro w33 hbel
        replace st := st.call hbel
        clear hbel
        refine Wl.nil ⟨rfl, RK.of st0 st (ksC (i := 2) (j := 2) rfl rfl rfl (ksC (i := 1) (j := 1) rfl rfl rfl ksN)), ?_⟩
        clear st0
        refine WT.alt ?_ ?_
        · have st0 := st
          refine WT.s rfl rfl ?_
          refine Wl.alloc st tZ_38 rfl ?_
          clear st
          intro b7 w34 st
          refine Wl.nil ⟨rfl, RK.of st0 st (ksC (i := 2) (j := 3) rfl rfl rfl (ksC (i := 1) (j := 2) rfl rfl rfl ksN)), ?_⟩
          clear st0
          have st0 := st
          refine WT.s rfl rfl ?_
          refine Wl.callV (c_impl_LeastRatio (s := s) (p := p) (a := a) (b := b) (m := m) (f := f) (by first | assumption | omega) (by first | assumption | omega) ha hb (by first | assumption | omega) hf) rfl ?_
          intro w35 hbel
          replace st := st.call hbel
          clear hbel
          refine Wl.nil ⟨rfl, RK.of st0 st (ksC (i := 3) (j := 3) rfl rfl rfl (ksC (i := 2) (j := 2) rfl rfl rfl ksN)), ?_⟩
          clear st0
          refine WT.pure rfl (PR.moveV (.tuple #[.agg ([.int .i16 (selZ (svC s p a b m f) ((lgF a b f (1 <<< (m).toNat)).tdiv ((Nat.gcd ((lgF a b f (1 <<< (m).toNat)).natAbs) ((p).toNat) : Nat) : Int))), .int .i16 (((selN (svC s p a b m f) ((((p).toNat) / (Nat.gcd ((lgF a b f (1 <<< (m).toNat)).natAbs) ((p).toNat)))) : Nat) : Int))]).toArray, .int .i64 (((svC s p a b m f : Nat) : Int))]) rfl) ?_
          refine WT.pure rfl (PR.extr (i := 0) (vs := [.agg ([.int .i16 (selZ (svC s p a b m f) ((lgF a b f (1 <<< (m).toNat)).tdiv ((Nat.gcd ((lgF a b f (1 <<< (m).toNat)).natAbs) ((p).toNat) : Nat) : Int))), .int .i16 (((selN (svC s p a b m f) ((((p).toNat) / (Nat.gcd ((lgF a b f (1 <<< (m).toNat)).natAbs) ((p).toNat)))) : Nat) : Int))]).toArray, .int .i64 (((svC s p a b m f : Nat) : Int))]) rfl rfl) ?_
          refine WT.pure rfl (PR.extr (i := 1) (vs := [.agg ([.int .i16 (selZ (svC s p a b m f) ((lgF a b f (1 <<< (m).toNat)).tdiv ((Nat.gcd ((lgF a b f (1 <<< (m).toNat)).natAbs) ((p).toNat) : Nat) : Int))), .int .i16 (((selN (svC s p a b m f) ((((p).toNat) / (Nat.gcd ((lgF a b f (1 <<< (m).toNat)).natAbs) ((p).toNat)))) : Nat) : Int))]).toArray, .int .i64 (((svC s p a b m f : Nat) : Int))]) rfl rfl) ?_
          have st0 := st
          refine WT.s rfl rfl ?_
          refine Wl.storeA (i := 0) (cs' := [.int .i16 (selZ (svC s p a b m f) ((lgF a b f (1 <<< (m).toNat)).tdiv ((Nat.gcd ((lgF a b f (1 <<< (m).toNat)).natAbs) ((p).toNat) : Nat) : Int))), .int .i16 (((selN (svC s p a b m f) ((((p).toNat) / (Nat.gcd ((lgF a b f (1 <<< (m).toNat)).natAbs) ((p).toNat)))) : Nat) : Int))]) st tA_38 rfl rfl rfl (by simp [Value.oneCell']) rfl (by simp) (all_put rfl) ?_
          clear st
          intro w36 st
          replace st : St [] w w36 [(b7, [.int .i16 (selZ (svC s p a b m f) ((lgF a b f (1 <<< (m).toNat)).tdiv ((Nat.gcd ((lgF a b f (1 <<< (m).toNat)).natAbs) ((p).toNat) : Nat) : Int))), .int .i16 (((selN (svC s p a b m f) ((((p).toNat) / (Nat.gcd ((lgF a b f (1 <<< (m).toNat)).natAbs) ((p).toNat)))) : Nat) : Int))], 38), (b5, [.int .i16 (selZ (svC s p a b m f) ((lgF a b f (1 <<< (m).toNat)).tdiv ((Nat.gcd ((lgF a b f (1 <<< (m).toNat)).natAbs) ((p).toNat) : Nat) : Int))), .int .i16 (((selN (svC s p a b m f) ((((p).toNat) / (Nat.gcd ((lgF a b f (1 <<< (m).toNat)).natAbs) ((p).toNat)))) : Nat) : Int))], 38), (b3, [.int .i8 (m), .int .u64 (((f : Nat) : Int))], 28), (b2, schV (s) (p) (a) (b), 25)] := st
          refine Wl.nil ⟨rfl, RK.of st0 st (ksC (i := 3) (j := 3) rfl rfl rfl (ksC (i := 2) (j := 2) rfl rfl rfl ksN)), ?_⟩
          clear st0
          refine WT.pure rfl (PR.assI rfl) ?_
          exact WT.nil ⟨b7, (.cons rfl (.cons rfl (.cons rfl (.cons rfl (.cons rfl (.nil _)))))), st⟩
        · have st0 := st
          refine WT.s rfl rfl ?_
          refine Wl.callV (c_impl_LeastRatio (s := s) (p := p) (a := a) (b := b) (m := m) (f := f) (by first | assumption | omega) (by first | assumption | omega) ha hb (by first | assumption | omega) hf) rfl ?_
          intro w37 hbel
          replace st := st.call hbel
          clear hbel
          refine Wl.nil ⟨rfl, RK.of st0 st (ksC (i := 2) (j := 2) rfl rfl rfl (ksC (i := 1) (j := 1) rfl rfl rfl ksN)), ?_⟩
          clear st0
          refine WT.pure rfl (PR.moveV (.tuple #[.agg ([.int .i16 (selZ (svC s p a b m f) ((lgF a b f (1 <<< (m).toNat)).tdiv ((Nat.gcd ((lgF a b f (1 <<< (m).toNat)).natAbs) ((p).toNat) : Nat) : Int))), .int .i16 (((selN (svC s p a b m f) ((((p).toNat) / (Nat.gcd ((lgF a b f (1 <<< (m).toNat)).natAbs) ((p).toNat)))) : Nat) : Int))]).toArray, .int .i64 (((svC s p a b m f : Nat) : Int))]) rfl) ?_
          refine WT.pure rfl (PR.extr (i := 0) (vs := [.agg ([.int .i16 (selZ (svC s p a b m f) ((lgF a b f (1 <<< (m).toNat)).tdiv ((Nat.gcd ((lgF a b f (1 <<< (m).toNat)).natAbs) ((p).toNat) : Nat) : Int))), .int .i16 (((selN (svC s p a b m f) ((((p).toNat) / (Nat.gcd ((lgF a b f (1 <<< (m).toNat)).natAbs) ((p).toNat)))) : Nat) : Int))]).toArray, .int .i64 (((svC s p a b m f : Nat) : Int))]) rfl rfl) ?_
          refine WT.pure rfl (PR.extr (i := 1) (vs := [.agg ([.int .i16 (selZ (svC s p a b m f) ((lgF a b f (1 <<< (m).toNat)).tdiv ((Nat.gcd ((lgF a b f (1 <<< (m).toNat)).natAbs) ((p).toNat) : Nat) : Int))), .int .i16 (((selN (svC s p a b m f) ((((p).toNat) / (Nat.gcd ((lgF a b f (1 <<< (m).toNat)).natAbs) ((p).toNat)))) : Nat) : Int))]).toArray, .int .i64 (((svC s p a b m f : Nat) : Int))]) rfl rfl) ?_
          have st0 := st
          refine WT.s rfl rfl ?_
          refine Wl.alloc st tZ_38 rfl ?_
          clear st
          intro b7 w38 st
          refine Wl.nil ⟨rfl, RK.of st0 st (ksC (i := 2) (j := 3) rfl rfl rfl (ksC (i := 1) (j := 2) rfl rfl rfl ksN)), ?_⟩
          clear st0
          have st0 := st
          refine WT.s rfl rfl ?_
          refine Wl.storeA (i := 0) (cs' := [.int .i16 (selZ (svC s p a b m f) ((lgF a b f (1 <<< (m).toNat)).tdiv ((Nat.gcd ((lgF a b f (1 <<< (m).toNat)).natAbs) ((p).toNat) : Nat) : Int))), .int .i16 (((selN (svC s p a b m f) ((((p).toNat) / (Nat.gcd ((lgF a b f (1 <<< (m).toNat)).natAbs) ((p).toNat)))) : Nat) : Int))]) st tA_38 rfl rfl rfl (by simp [Value.oneCell']) rfl (by simp) (all_put rfl) ?_
          clear st
          intro w39 st
          replace st : St [] w w39 [(b7, [.int .i16 (selZ (svC s p a b m f) ((lgF a b f (1 <<< (m).toNat)).tdiv ((Nat.gcd ((lgF a b f (1 <<< (m).toNat)).natAbs) ((p).toNat) : Nat) : Int))), .int .i16 (((selN (svC s p a b m f) ((((p).toNat) / (Nat.gcd ((lgF a b f (1 <<< (m).toNat)).natAbs) ((p).toNat)))) : Nat) : Int))], 38), (b5, [.int .i16 (selZ (svC s p a b m f) ((lgF a b f (1 <<< (m).toNat)).tdiv ((Nat.gcd ((lgF a b f (1 <<< (m).toNat)).natAbs) ((p).toNat) : Nat) : Int))), .int .i16 (((selN (svC s p a b m f) ((((p).toNat) / (Nat.gcd ((lgF a b f (1 <<< (m).toNat)).natAbs) ((p).toNat)))) : Nat) : Int))], 38), (b3, [.int .i8 (m), .int .u64 (((f : Nat) : Int))], 28), (b2, schV (s) (p) (a) (b), 25)] := st
          refine Wl.nil ⟨rfl, RK.of st0 st (ksC (i := 3) (j := 3) rfl rfl rfl (ksC (i := 2) (j := 2) rfl rfl rfl ksN)), ?_⟩
          clear st0
          refine WT.pure rfl (PR.assI rfl) ?_
          exact WT.nil ⟨b7, (.cons rfl (.cons rfl (.cons rfl (.cons rfl (.cons rfl (.nil _)))))), st⟩
  clear st
  rintro b7 w40 st
  try dsimp only at st ⊢
  refine tn ?_
  refine Wc.seq ?_
  refine Wc.seq ?_
  refine Wc.region rfl ?_
  refine Wl.loadA (i := 0) st tA_38 rfl rfl rfl rfl ?_
  refine Wl.loadA (i := 1) st tA_38 rfl rfl rfl rfl ?_
  refine Wl.callV (c_laws_eqRatio (n := selZ (svC s p a b m f) ((lgF a b f (1 <<< (m).toNat)).tdiv ((Nat.gcd ((lgF a b f (1 <<< (m).toNat)).natAbs) ((p).toNat) : Nat) : Int))) (d := ((selN (svC s p a b m f) ((((p).toNat) / (Nat.gcd ((lgF a b f (1 <<< (m).toNat)).natAbs) ((p).toNat)))) : Nat) : Int))) rfl ?_
  intro w41 hbel
  replace st := st.call hbel
  clear hbel
  refine Wl.pure (PR.not_ rfl) ?_
  refine Wl.pure (PR.moveB rfl) ?_
  refine Wl.on rfl rfl ?_
  refine Wl.pure (PR.moveI rfl) ?_
  refine Wl.on rfl rfl ?_
  refine Wl.pure (PR.moveI rfl) ?_
  refine Wl.on rfl rfl ?_
  refine Wl.pure (PR.neqS (a := ((svC s p a b m f : Nat) : Int)) rfl rfl) ?_
  refine Wl.pure (PR.pickFB rfl rfl) ?_
  refine Wl.nil ?_
  refine tn ?_
  refine Wc.condF rfl ?_
  refine Wc.skip ?_
  refine tn ?_
  refine Wc.seq ?_
  refine Wc.region rfl ?_
  refine Wl.pure (PR.assB rfl) ?_
  refine Wl.nil ?_
  refine tn ?_
  refine Wc.ret ?_
  refine postL.tmp rfl rfl ?_
  exact RetV.of rfl st.below

end Go.Proofs.Ytdlmbdclbnlmlaa
