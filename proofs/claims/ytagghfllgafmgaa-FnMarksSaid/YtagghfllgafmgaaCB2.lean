/-
  Contracts of functions, printed by a program of ours.
-/
import Derived.Test.YtagghfllgafmgaaCB1
namespace Go.Proofs.Ytagghfllgafmgaa
open Go.RowKit
set_option linter.unusedVariables false
set_option linter.unusedSimpArgs false

set_option maxHeartbeats 400000 in
set_option maxRecDepth 4000 in
theorem c_math_bits_OnesCount8 {x : Nat} {w : World} (hx : x < 256) :
    CE Try.prog 102 [.int .u8 (((x : Nat) : Int))] w (RetV w (.int .i64 (((pc x : Nat) : Int)))) := by
  refine CE.enter 6 [(0, .int .u8 (((x : Nat) : Int)))] en_102 Try.func102 rfl rfl (Nat.le_of_ble_eq_true rfl) rfl ?_
  have st := St.start w
  refine Wc.seq ?_
  refine Wc.region rfl ?_
  refine Wl.pure (PR.assI rfl) ?_
  refine Wl.nil ?_
  refine tn ?_
  refine Wc.seq ?_
  refine Wc.region rfl ?_
  refine Wl.pure (PR.moveI rfl) ?_
  refine Wl.pure (PR.idxStr (i := x) (c := UInt8.ofNat (pc x)) Try.underlying9 rfl rfl (tab_of _ (by kernel_rfl) hx)) ?_
  refine Wl.pure (PR.conv (n := (((UInt8.ofNat (pc x)).toNat : Nat) : Int)) tI_3 rfl (fitN (show (UInt8.ofNat (pc x)).toNat < 256 from by rw [tab_nat hx]; have := pc_le8 hx; omega) rfl) Try.underlying5) ?_
  refine Wl.pure (PR.assI rfl) ?_
  refine Wl.nil ?_
  refine tn ?_
  refine Wc.ret ?_
  refine postL.tmp rfl rfl ?_
  refine RetV.of ?_ st.below
  refine congrArg (fun x : Nat => Value.int .i64 (x : Int)) ?_
  exact tab_nat hx

set_option maxHeartbeats 400000 in
set_option maxRecDepth 4000 in
theorem c_spec_l01Count {x : Nat} {w : World} (hx : x < 18446744073709551616) :
    CE Try.prog 84 [.int .u64 (((x : Nat) : Int))] w (RetV w (.int .i64 (((pc x : Nat) : Int)))) := by
  refine CE.enter 14 [(0, .int .u64 (((x : Nat) : Int)))] en_84 Try.func84 rfl rfl (Nat.le_of_ble_eq_true rfl) rfl ?_
  have st := St.start w
  refine Wc.seq ?_
  refine Wc.region rfl ?_
  refine Wl.pure (PR.assI rfl) ?_
  refine Wl.nil ?_
  refine tn ?_
  refine Wc.seq ?_
  refine Wc.region rfl ?_
  refine Wl.pure (PR.assI rfl) ?_
  refine Wl.nil ?_
  refine tn ?_
  refine Wc.seq ?_
  refine Wc.block ?_
  refine Wc.loopF (γ := Nat × Nat) (fun g => [(0, .int .u64 (((g.1 : Nat) : Int))), (2, .int .i64 (0)), (3, .int .i64 (((g.2 : Nat) : Int)))]) (fun g w_ => St [] w w_ [] ∧ (g.1 < 18446744073709551616) ∧ (pc x = g.2 + pc g.1)) (fun g => g.1) ?_ ?_
  · exact ⟨(x, 0), (.cons rfl (.cons rfl (.cons rfl (.nil _)))), st, hx, (Nat.zero_add _).symm⟩
  clear st
  rintro ⟨y, c⟩ w1 ⟨st, hy, hc⟩
  try dsimp only at st hy hc ⊢
  refine Wc.seq ?_
  refine Wc.seq ?_
  refine Wc.region rfl ?_
  refine Wl.pure (PR.moveI rfl) ?_
  refine Wl.pure (PR.neq (a := ((y : Nat) : Int)) (b := 0) rfl rfl) ?_
  refine Wl.nil ?_
  refine tn ?_
  refine Wc.condN (p := ((y : Nat) : Int) = 0) rfl (fun h2 => ?_) (fun h2 => ?_)
  · refine Wc.skip ?_
    refine tn ?_
    refine Wc.seq ?_
    refine Wc.block ?_
    refine Wc.region rfl ?_
    refine Wl.pure (PR.moveI rfl) ?_
    refine Wl.pure (PR.moveI rfl) ?_
    refine Wl.pure (PR.and (a := y) (b := 1) rfl rfl (by decide) hy (by decide)) ?_
    refine Wl.pure (PR.conv (n := (((y &&& 1) : Nat) : Int)) tI_2 rfl (by have : y &&& 1 ≤ 1 := Nat.and_le_right; simp only [fitI]; omega) Try.underlying51) ?_
    refine Wl.pure (PR.add (a := ((c : Nat) : Int)) (b := (((y &&& 1) : Nat) : Int)) rfl rfl (by have := pc_le x; have : y &&& 1 ≤ 1 := Nat.and_le_right; simp only [fitI]; omega)) ?_
    refine Wl.pure (PR.assI rfl) ?_
    refine Wl.nil ?_
    refine bn ?_
    refine tn ?_
    refine Wc.region rfl ?_
    refine Wl.pure (PR.moveI rfl) ?_
    refine Wl.pure (PR.shr (a := y) (n := 1) rfl rfl (by decide) hy) ?_
    refine Wl.pure (PR.assI rfl) ?_
    refine Wl.nil ?_
    refine tn ?_
    exact ⟨((y >>> 1), (c + (y &&& 1))), (.cons rfl (.cons rfl (.cons rfl (.nil _)))), ⟨st, (shr_lt hy), (pc_next hy hc)⟩, (by have := shr1 y; dsimp only; omega)⟩
  · refine Wc.exit ?_
    refine tx ?_
    refine tx ?_
    refine bh ?_
    refine tn ?_
    refine Wc.seq ?_
    refine Wc.region rfl ?_
    refine Wl.pure (PR.moveI rfl) ?_
    refine Wl.pure (PR.assI rfl) ?_
    refine Wl.nil ?_
    refine tn ?_
    refine Wc.ret ?_
    refine postL.tmp rfl rfl ?_
    refine RetV.of ?_ st.below
    refine congrArg (fun x : Nat => Value.int .i64 (x : Int)) ?_
    obtain rfl : y = 0 := by omega
    rw [hc]; unfold pc; rfl

set_option maxHeartbeats 400000 in
set_option maxRecDepth 4000 in
theorem c_impl_Layer_count {p : Int} {c : Nat → Nat} {k : Nat} {w : World} (hc : ∀ k, c k < 256) (hk : k < 64) :
    CE Try.prog 78 [.agg (layV (p) (c)).toArray, .int .i64 (((k : Nat) : Int))] w (RetV w (.int .i64 (((pc (c k) : Nat) : Int)))) := by
  refine CE.enter 10 [(0, .agg (layV (p) (c)).toArray), (1, .int .i64 (((k : Nat) : Int)))] en_78 Try.func78 rfl rfl (Nat.le_of_ble_eq_true rfl) rfl ?_
  have st := St.start w
  refine Wc.seq ?_
  refine Wc.region rfl ?_
  refine Wl.boxA st rfl ?_
  clear st
  intro b2 w1 st
  refine Wl.pure (PR.assI rfl) ?_
  refine Wl.nil ?_
  refine tn ?_
  refine Wc.seq ?_
  refine Wc.region rfl ?_
  refine Wl.pure (PR.moveI rfl) ?_
  refine Wl.pure (PR.fieldAddr tF_29_1 rfl) ?_
  refine Wl.pure (PR.idxAddrA1 (i := k) tE_23 rfl rfl (by omega)) ?_
  refine Wl.load (i := 0) st tA_5 rfl rfl (layV_get_c (by omega)) ?_
  refine Wl.callV (c_math_bits_OnesCount8 (x := c (k)) (hc (k))) rfl ?_
  intro w2 hbel
  replace st := st.call hbel
  clear hbel
  refine Wl.pure (PR.assI rfl) ?_
  refine Wl.nil ?_
  refine tn ?_
  refine Wc.ret ?_
  refine postL.tmp rfl rfl ?_
  refine RetV.of ?_ st.below
  refine congrArg (Value.int .i64) ?_
  first | rfl | omega | simp_all

set_option maxHeartbeats 400000 in
set_option maxRecDepth 4000 in
theorem c_bit_impl {x : Nat} {k : Nat} {w : World} (hx : x < 18446744073709551616) (hk : k < 64) :
    CE Try.prog 77 [.int .u64 (((x : Nat) : Int)), .int .i64 (((k : Nat) : Int))] w (RetV w (.bool (bitB x k))) := by
  refine CE.enter 10 [(0, .int .u64 (((x : Nat) : Int))), (1, .int .i64 (((k : Nat) : Int)))] en_77 Try.func77 rfl rfl (Nat.le_of_ble_eq_true rfl) rfl ?_
  have st := St.start w
  refine Wc.seq ?_
  refine Wc.region rfl ?_
  refine Wl.pure (PR.assB rfl) ?_
  refine Wl.nil ?_
  refine tn ?_
  refine Wc.seq ?_
  refine Wc.region rfl ?_
  refine Wl.pure (PR.moveI rfl) ?_
  refine Wl.pure (PR.moveI rfl) ?_
  refine Wl.pure (PR.shr (a := x) (n := k) rfl rfl (by decide) hx) ?_
  refine Wl.pure (PR.and (a := (x >>> k)) (b := 1) rfl rfl (by decide) (shr_lt hx) (by decide)) ?_
  refine Wl.pure (PR.eql (a := ((((x >>> k) &&& 1) : Nat) : Int)) (b := 1) rfl rfl) ?_
  refine Wl.pure (PR.assB rfl) ?_
  refine Wl.nil ?_
  refine tn ?_
  refine Wc.ret ?_
  refine postL.tmp rfl rfl ?_
  refine RetV.of ?_ st.below
  refine congrArg Value.bool ?_
  unfold bitB; exact decide_eq_decide.2 (by omega)

set_option maxHeartbeats 400000 in
set_option maxRecDepth 4000 in
theorem c_bit_pec {x : Nat} {k : Nat} {w : World} (hx : x < 18446744073709551616) (hk : k < 64) :
    CE Try.prog 85 [.int .u64 (((x : Nat) : Int)), .int .i64 (((k : Nat) : Int))] w (RetV w (.bool (bitB x k))) := by
  refine CE.enter 11 [(0, .int .u64 (((x : Nat) : Int))), (1, .int .i64 (((k : Nat) : Int)))] en_85 Try.func85 rfl rfl (Nat.le_of_ble_eq_true rfl) rfl ?_
  have st := St.start w
  refine Wc.seq ?_
  refine Wc.region rfl ?_
  refine Wl.pure (PR.assB rfl) ?_
  refine Wl.nil ?_
  refine tn ?_
  refine Wc.seq ?_
  refine Wc.region rfl ?_
  refine Wl.pure (PR.moveI rfl) ?_
  refine Wl.pure (PR.moveI rfl) ?_
  refine Wl.pure (PR.conv (n := ((k : Nat) : Int)) tI_76 rfl (by simp only [fitI]; omega) Try.underlying3) ?_
  refine Wl.pure (PR.shr (a := x) (n := k) rfl rfl (by decide) hx) ?_
  refine Wl.pure (PR.and (a := (x >>> k)) (b := 1) rfl rfl (by decide) (shr_lt hx) (by decide)) ?_
  refine Wl.pure (PR.eql (a := ((((x >>> k) &&& 1) : Nat) : Int)) (b := 1) rfl rfl) ?_
  refine Wl.pure (PR.assB rfl) ?_
  refine Wl.nil ?_
  refine tn ?_
  refine Wc.ret ?_
  refine postL.tmp rfl rfl ?_
  refine RetV.of ?_ st.below
  refine congrArg Value.bool ?_
  unfold bitB; exact decide_eq_decide.2 (by omega)

set_option maxHeartbeats 400000 in
set_option maxRecDepth 4000 in
theorem c_spec_l00Min {n : Nat} {m : Nat} {w : World} :
    CE Try.prog 86 [.int .i64 (((n : Nat) : Int)), .int .i64 (((m : Nat) : Int))] w (RetV w (.int .i64 ((((min n m) : Nat) : Int)))) := by
  refine CE.enter 10 [(0, .int .i64 (((n : Nat) : Int))), (1, .int .i64 (((m : Nat) : Int)))] en_86 Try.func86 rfl rfl (Nat.le_of_ble_eq_true rfl) rfl ?_
  have st := St.start w
  refine Wc.seq ?_
  refine Wc.region rfl ?_
  refine Wl.pure (PR.assI rfl) ?_
  refine Wl.nil ?_
  refine tn ?_
  refine Wc.seq ?_
  refine Wc.seq ?_
  refine Wc.region rfl ?_
  refine Wl.pure (PR.moveI rfl) ?_
  refine Wl.pure (PR.moveI rfl) ?_
  refine Wl.pure (PR.lss (a := ((n : Nat) : Int)) (b := ((m : Nat) : Int)) rfl rfl) ?_
  refine Wl.nil ?_
  refine tn ?_
  refine Wc.condD (p := ((n : Nat) : Int) < ((m : Nat) : Int)) rfl (fun h1 => ?_) (fun h1 => ?_)
  · refine Wc.seq ?_
    refine Wc.region rfl ?_
    refine Wl.pure (PR.moveI rfl) ?_
    refine Wl.pure (PR.assI rfl) ?_
    refine Wl.nil ?_
    refine tn ?_
    refine Wc.ret ?_
    refine tr ?_
    refine postL.tmp rfl rfl ?_
    refine RetV.of ?_ st.below
    refine congrArg (Value.int .i64) ?_
    omega
  · refine Wc.skip ?_
    refine tn ?_
    refine Wc.seq ?_
    refine Wc.region rfl ?_
    refine Wl.pure (PR.moveI rfl) ?_
    refine Wl.pure (PR.assI rfl) ?_
    refine Wl.nil ?_
    refine tn ?_
    refine Wc.ret ?_
    refine postL.tmp rfl rfl ?_
    refine RetV.of ?_ st.below
    refine congrArg (Value.int .i64) ?_
    omega

set_option maxHeartbeats 400000 in
set_option maxRecDepth 4000 in
theorem c_spec_l00Max {n : Nat} {m : Nat} {w : World} :
    CE Try.prog 87 [.int .i64 (((n : Nat) : Int)), .int .i64 (((m : Nat) : Int))] w (RetV w (.int .i64 ((((max n m) : Nat) : Int)))) := by
  refine CE.enter 10 [(0, .int .i64 (((n : Nat) : Int))), (1, .int .i64 (((m : Nat) : Int)))] en_87 Try.func87 rfl rfl (Nat.le_of_ble_eq_true rfl) rfl ?_
  have st := St.start w
  refine Wc.seq ?_
  refine Wc.region rfl ?_
  refine Wl.pure (PR.assI rfl) ?_
  refine Wl.nil ?_
  refine tn ?_
  refine Wc.seq ?_
  refine Wc.seq ?_
  refine Wc.region rfl ?_
  refine Wl.pure (PR.moveI rfl) ?_
  refine Wl.pure (PR.moveI rfl) ?_
  refine Wl.pure (PR.gtr (a := ((n : Nat) : Int)) (b := ((m : Nat) : Int)) rfl rfl) ?_
  refine Wl.nil ?_
  refine tn ?_
  refine Wc.condD (p := ((m : Nat) : Int) < ((n : Nat) : Int)) rfl (fun h1 => ?_) (fun h1 => ?_)
  · refine Wc.seq ?_
    refine Wc.region rfl ?_
    refine Wl.pure (PR.moveI rfl) ?_
    refine Wl.pure (PR.assI rfl) ?_
    refine Wl.nil ?_
    refine tn ?_
    refine Wc.ret ?_
    refine tr ?_
    refine postL.tmp rfl rfl ?_
    refine RetV.of ?_ st.below
    refine congrArg (Value.int .i64) ?_
    omega
  · refine Wc.skip ?_
    refine tn ?_
    refine Wc.seq ?_
    refine Wc.region rfl ?_
    refine Wl.pure (PR.moveI rfl) ?_
    refine Wl.pure (PR.assI rfl) ?_
    refine Wl.nil ?_
    refine tn ?_
    refine Wc.ret ?_
    refine postL.tmp rfl rfl ?_
    refine RetV.of ?_ st.below
    refine congrArg (Value.int .i64) ?_
    omega

set_option maxHeartbeats 400000 in
set_option maxRecDepth 4000 in
theorem c_impl_ContrastOf {p : Int} {c : Nat → Nat} {q : Nat} {w : World} (hp : -128 ≤ p ∧ p ≤ 127) (hc : ∀ k, c k < 256) (hq : q < 18446744073709551616) (hok : layOk p c = true) (hqg : q ≠ 0 ∧ q ≠ 18446744073709551615) :
    CE Try.prog 44 [.agg (layV (p) (c)).toArray, .int .u64 (((q : Nat) : Int))] w (RetV w (.tuple #[.int .i64 (conZ q c), .int .i64 (0)])) := by
  refine CE.enter 47 [(0, .agg (layV (p) (c)).toArray), (1, .int .u64 (((q : Nat) : Int)))] en_44 Try.func44 rfl rfl (Nat.le_of_ble_eq_true rfl) rfl ?_
  have st := St.start w
  refine Wc.seq ?_
  refine Wc.region rfl ?_
  refine Wl.boxA st rfl ?_
  clear st
  intro b2 w1 st
  refine Wl.pure (PR.assI rfl) ?_
  refine Wl.pure (PR.assI rfl) ?_
  refine Wl.nil ?_
  refine tn ?_
  refine Wc.seq ?_
  refine Wc.seq ?_
  refine Wc.region rfl ?_
  refine Wl.loadA (i := 0) st tA_29 rfl rfl (all_sub layV_len) layV_len ?_
  refine Wl.callV (c_impl_ValidLayer (p := p) (c := c) (by first | assumption | omega) hc) rfl ?_
  intro w2 hbel
  replace st := st.call hbel
  clear hbel
  refine Wl.pure (PR.not_ rfl) ?_
  refine Wl.pure (PR.build (ps := [(0, .bool (!(layOk p c))), (1, .int .i64 (1))]) (cs := [.bool (!(layOk p c)), .int .i64 (1)]) tB_95 rfl rfl) ?_
  refine Wl.pure (PR.moveI rfl) ?_
  refine Wl.pure (PR.eql (a := ((q : Nat) : Int)) (b := 0) rfl rfl) ?_
  refine Wl.pure (PR.moveB rfl) ?_
  refine Wl.splitF (q := ((q : Nat) : Int) = 0) rfl rfl (fun h3 => ?_) (fun h3 => ?_)
  · refine Wl.pure (PR.moveI rfl) ?_
    refine Wl.on rfl rfl ?_
    refine Wl.pure (PR.compl (n := q) rfl (by decide) hq) ?_
    refine Wl.on rfl rfl ?_
    refine Wl.pure (PR.eql (a := (((18446744073709551615 - (q)) : Nat) : Int)) (b := 0) rfl rfl) ?_
    refine Wl.pure (PR.pickFB rfl rfl) ?_
    refine Wl.pure (PR.build (ps := [(0, .bool (decide ((((18446744073709551615 - (q)) : Nat) : Int) = 0))), (1, .int .i64 (6))]) (cs := [.bool (decide ((((18446744073709551615 - (q)) : Nat) : Int) = 0)), .int .i64 (6)]) tB_95 rfl rfl) ?_
    refine Wl.buildSlice (ps := [(0, .agg ([.bool (!(layOk p c)), .int .i64 (1)]).toArray), (1, .agg ([.bool (decide ((((18446744073709551615 - (q)) : Nat) : Int) = 0)), .int .i64 (6)]).toArray)]) (cs := [.bool (!(layOk p c)), .int .i64 (1), .bool (decide ((((18446744073709551615 - (q)) : Nat) : Int) = 0)), .int .i64 (6)]) st tS_127 tZ_95 rfl rfl rfl ?_
    clear st
    intro b22 w4 st
    refine Wl.callV (c_impl_firstOf (bk := b22) (o := 0) (n := 2) (cp := 2) (c := (fun i => [(!(layOk p c)), (decide ((((18446744073709551615 - (q)) : Nat) : Int) = 0))].getD i false)) (e := (fun i => [1, 6].getD i 0)) (st.rdA (i := 0) (n := 4) rfl rfl) (by first | assumption | omega)) rfl ?_
    intro w5 hbel
    replace st := st.call hbel
    clear hbel
    refine Wl.pure (PR.assI rfl) ?_
    refine Wl.nil ?_
    refine tn ?_
    refine Wc.seq ?_
    have hq9 : firstZ 2 (fun i => [(!(layOk p c)), (decide ((((18446744073709551615 - (q)) : Nat) : Int) = 0))].getD i false) (fun i => [1, 6].getD i 0) = 0 := by
      first
      | (rw [firstZ2, hok, decide_eq_false (by omega)]; rfl)
      | (exfalso; omega)
    refine Wc.region rfl ?_
    refine Wl.pure (PR.moveI rfl) ?_
    refine Wl.pure (PR.neq (a := firstZ 2 (fun i => [(!(layOk p c)), (decide ((((18446744073709551615 - (q)) : Nat) : Int) = 0))].getD i false) (fun i => [1, 6].getD i 0)) (b := 0) rfl rfl) ?_
    refine Wl.nil ?_
    refine tn ?_
    refine Wc.condN (p := firstZ 2 (fun i => [(!(layOk p c)), (decide ((((18446744073709551615 - (q)) : Nat) : Int) = 0))].getD i false) (fun i => [1, 6].getD i 0) = 0) rfl (fun h6 => ?_) (fun h6 => ?_)
    · refine Wc.seq ?_
      exfalso
      omega
    · refine Wc.skip ?_
      refine tn ?_
      refine Wc.seq ?_
      refine Wc.region rfl ?_
      refine Wl.pure (PR.assI rfl) ?_
      refine Wl.pure (PR.assI rfl) ?_
      refine Wl.nil ?_
      refine tn ?_
      refine Wc.seq ?_
      refine Wc.seq ?_
      refine Wc.region rfl ?_
      refine Wl.pure (PR.moveI rfl) ?_
      refine Wl.nil ?_
      refine tn ?_
      refine Wc.block ?_
      refine Wc.loopF (γ := Nat × Nat × Nat) (fun g => [(1, .int .u64 (((q : Nat) : Int))), (2, .pointer (some ⟨b2, 0, none⟩)), (4, .int .i64 (0)), (5, .int .i64 (0)), (7, .int .i64 (((g.2.1 : Nat) : Int))), (8, .int .i64 (((g.2.2 : Nat) : Int))), (27, .int .i64 (((g.1 : Nat) : Int)))]) (fun g w_ => St [] w w_ [(b22, [.bool (!(layOk p c)), .int .i64 (1), .bool (decide ((((18446744073709551615 - (q)) : Nat) : Int) = 0)), .int .i64 (6)], 95), (b2, layV (p) (c), 29)] ∧ (g.1 ≤ 64) ∧ (g.2.1 = mnF q c g.1) ∧ (g.2.2 = mxF' q c g.1)) (fun g => 64 - g.1) ?_ ?_
      · exact ⟨(0, 8, 0), (.cons rfl (.cons rfl (.cons rfl (.cons rfl (.cons rfl (.cons rfl (.cons rfl (.nil _)))))))), st, (by first | omega | (dsimp only; omega)), rfl, rfl⟩
      clear st
      rintro ⟨k, x, y⟩ w7 ⟨st, hk, hx, hy⟩
      try dsimp only at st hk hx hy ⊢
      refine Wc.seq ?_
      refine Wc.region rfl ?_
      refine Wl.pure (PR.lss (a := ((k : Nat) : Int)) (b := 64) rfl rfl) ?_
      refine Wl.nil ?_
      refine tn ?_
      refine Wc.seq ?_
      refine Wc.condD (p := ((k : Nat) : Int) < 64) rfl (fun h8 => ?_) (fun h8 => ?_)
      · refine Wc.skip ?_
        refine tn ?_
        refine Wc.seq ?_
        refine Wc.block ?_
        refine Wc.seq ?_
        refine Wc.region rfl ?_
        refine Wl.pure (PR.moveI rfl) ?_
        refine Wl.pure (PR.assI rfl) ?_
        refine Wl.nil ?_
        refine tn ?_
        refine Wc.seq ?_
        refine Wc.region rfl ?_
        refine Wl.pure (PR.moveI rfl) ?_
        refine Wl.pure (PR.moveI rfl) ?_
        refine Wl.callV (c_bit_impl (x := q) (k := k) hq (by first | assumption | omega)) rfl ?_
        intro w9 hbel
        replace st := st.call hbel
        clear hbel
        refine Wl.nil ?_
        refine tn ?_
        refine Wc.condB (b := bitB q k) rfl (fun h10 => ?_) (fun h10 => ?_)
        · refine Wc.region rfl ?_
          refine Wl.pure (PR.moveI rfl) ?_
          refine Wl.loadA (i := 1) st tA_29 rfl rfl (all_sub layV_len) layV_len ?_
          refine Wl.pure (PR.moveI rfl) ?_
          refine Wl.callV (c_impl_Layer_count (p := p) (c := c) (k := k) hc (by first | assumption | omega)) rfl ?_
          intro w11 hbel
          replace st := st.call hbel
          clear hbel
          refine Wl.pure (PR.min2N (a := x) (b := pc (c k)) rfl rfl) ?_
          refine Wl.pure (PR.assI rfl) ?_
          refine Wl.nil ?_
          refine bn ?_
          refine tn ?_
          refine Wc.region rfl ?_
          refine Wl.pure (PR.add (a := ((k : Nat) : Int)) (b := 1) rfl rfl (by simp only [fitI]; omega)) ?_
          refine Wl.pure (PR.moveI rfl) ?_
          refine Wl.nil ?_
          refine tn ?_
          exact ⟨(k + 1, (min x (pc (c k))), y), (.cons rfl (.cons rfl (.cons rfl (.cons rfl (.cons rfl (.cons rfl (.cons rfl (.nil _)))))))), ⟨st, (by first | omega | (dsimp only; omega)), (by first | exact mn_t hx (by assumption) | exact mn_f hx (by assumption)), (by first | exact mx_t hy (by assumption) | exact mx_f hy (by assumption))⟩, (by first | omega | (dsimp only; omega))⟩
        · refine Wc.region rfl ?_
          refine Wl.pure (PR.moveI rfl) ?_
          refine Wl.loadA (i := 1) st tA_29 rfl rfl (all_sub layV_len) layV_len ?_
          refine Wl.pure (PR.moveI rfl) ?_
          refine Wl.callV (c_impl_Layer_count (p := p) (c := c) (k := k) hc (by first | assumption | omega)) rfl ?_
          intro w12 hbel
          replace st := st.call hbel
          clear hbel
          refine Wl.pure (PR.max2N (a := y) (b := pc (c k)) rfl rfl) ?_
          refine Wl.pure (PR.assI rfl) ?_
          refine Wl.nil ?_
          refine bn ?_
          refine tn ?_
          refine Wc.region rfl ?_
          refine Wl.pure (PR.add (a := ((k : Nat) : Int)) (b := 1) rfl rfl (by simp only [fitI]; omega)) ?_
          refine Wl.pure (PR.moveI rfl) ?_
          refine Wl.nil ?_
          refine tn ?_
          exact ⟨(k + 1, x, (max y (pc (c k)))), (.cons rfl (.cons rfl (.cons rfl (.cons rfl (.cons rfl (.cons rfl (.cons rfl (.nil _)))))))), ⟨st, (by first | omega | (dsimp only; omega)), (by first | exact mn_t hx (by assumption) | exact mn_f hx (by assumption)), (by first | exact mx_t hy (by assumption) | exact mx_f hy (by assumption))⟩, (by first | omega | (dsimp only; omega))⟩
      · refine Wc.exit ?_
        refine tx ?_
        refine tx ?_
        refine bh ?_
        refine tn ?_
        refine Wc.seq ?_
        obtain rfl : k = 64 := by omega
        have hx8 := mnF_le q c 64
        have hy8 := mxF'_le hc q 64
        refine Wc.region rfl ?_
        refine Wl.pure (PR.moveI rfl) ?_
        refine Wl.pure (PR.moveI rfl) ?_
        refine Wl.pure (PR.sub (a := ((x : Nat) : Int)) (b := ((y : Nat) : Int)) rfl rfl (by simp only [fitI]; omega)) ?_
        refine Wl.pure (PR.assI rfl) ?_
        refine Wl.pure (PR.assI rfl) ?_
        refine Wl.nil ?_
        refine tn ?_
        refine Wc.ret ?_
        refine postL.tmp2 rfl rfl rfl ?_
        refine RetV.of ?_ st.below
        exact tup_2 (congrArg (Value.int .i64) (con_e hx hy)) rfl
  · refine Wl.off rfl rfl rfl ?_
    refine Wl.off rfl rfl rfl ?_
    refine Wl.pure (PR.pickTB rfl rfl) ?_
    refine Wl.pure (PR.build (ps := [(0, .bool true), (1, .int .i64 (6))]) (cs := [.bool true, .int .i64 (6)]) tB_95 rfl rfl) ?_
    refine Wl.buildSlice (ps := [(0, .agg ([.bool (!(layOk p c)), .int .i64 (1)]).toArray), (1, .agg ([.bool true, .int .i64 (6)]).toArray)]) (cs := [.bool (!(layOk p c)), .int .i64 (1), .bool true, .int .i64 (6)]) st tS_127 tZ_95 rfl rfl rfl ?_
    clear st
    intro b22 w13 st
    refine Wl.callV (c_impl_firstOf (bk := b22) (o := 0) (n := 2) (cp := 2) (c := (fun i => [(!(layOk p c)), true].getD i false)) (e := (fun i => [1, 6].getD i 0)) (st.rdA (i := 0) (n := 4) rfl rfl) (by first | assumption | omega)) rfl ?_
    intro w14 hbel
    replace st := st.call hbel
    clear hbel
    refine Wl.pure (PR.assI rfl) ?_
    refine Wl.nil ?_
    refine tn ?_
    refine Wc.seq ?_
    have hq9 : firstZ 2 (fun i => [(!(layOk p c)), true].getD i false) (fun i => [1, 6].getD i 0) = 0 := by
      first
      | (rw [firstZ2, hok, decide_eq_false (by omega)]; rfl)
      | (exfalso; omega)
    refine Wc.region rfl ?_
    refine Wl.pure (PR.moveI rfl) ?_
    refine Wl.pure (PR.neq (a := firstZ 2 (fun i => [(!(layOk p c)), true].getD i false) (fun i => [1, 6].getD i 0)) (b := 0) rfl rfl) ?_
    refine Wl.nil ?_
    refine tn ?_
    refine Wc.condN (p := firstZ 2 (fun i => [(!(layOk p c)), true].getD i false) (fun i => [1, 6].getD i 0) = 0) rfl (fun h15 => ?_) (fun h15 => ?_)
    · refine Wc.seq ?_
      exfalso
      omega
    · refine Wc.skip ?_
      refine tn ?_
      refine Wc.seq ?_
      refine Wc.region rfl ?_
      refine Wl.pure (PR.assI rfl) ?_
      refine Wl.pure (PR.assI rfl) ?_
      refine Wl.nil ?_
      refine tn ?_
      refine Wc.seq ?_
      refine Wc.seq ?_
      refine Wc.region rfl ?_
      refine Wl.pure (PR.moveI rfl) ?_
      refine Wl.nil ?_
      refine tn ?_
      refine Wc.block ?_
      refine Wc.loopF (γ := Nat × Nat × Nat) (fun g => [(1, .int .u64 (((q : Nat) : Int))), (2, .pointer (some ⟨b2, 0, none⟩)), (4, .int .i64 (0)), (5, .int .i64 (0)), (7, .int .i64 (((g.2.1 : Nat) : Int))), (8, .int .i64 (((g.2.2 : Nat) : Int))), (27, .int .i64 (((g.1 : Nat) : Int)))]) (fun g w_ => St [] w w_ [(b22, [.bool (!(layOk p c)), .int .i64 (1), .bool true, .int .i64 (6)], 95), (b2, layV (p) (c), 29)] ∧ (g.1 ≤ 64) ∧ (g.2.1 = mnF q c g.1) ∧ (g.2.2 = mxF' q c g.1)) (fun g => 64 - g.1) ?_ ?_
      · exact ⟨(0, 8, 0), (.cons rfl (.cons rfl (.cons rfl (.cons rfl (.cons rfl (.cons rfl (.cons rfl (.nil _)))))))), st, (by first | omega | (dsimp only; omega)), rfl, rfl⟩
      clear st
      rintro ⟨k, x, y⟩ w16 ⟨st, hk, hx, hy⟩
      try dsimp only at st hk hx hy ⊢
      refine Wc.seq ?_
      refine Wc.region rfl ?_
      refine Wl.pure (PR.lss (a := ((k : Nat) : Int)) (b := 64) rfl rfl) ?_
      refine Wl.nil ?_
      refine tn ?_
      refine Wc.seq ?_
      refine Wc.condD (p := ((k : Nat) : Int) < 64) rfl (fun h17 => ?_) (fun h17 => ?_)
      · refine Wc.skip ?_
        refine tn ?_
        refine Wc.seq ?_
        refine Wc.block ?_
        refine Wc.seq ?_
        refine Wc.region rfl ?_
        refine Wl.pure (PR.moveI rfl) ?_
        refine Wl.pure (PR.assI rfl) ?_
        refine Wl.nil ?_
        refine tn ?_
        refine Wc.seq ?_
        refine Wc.region rfl ?_
        refine Wl.pure (PR.moveI rfl) ?_
        refine Wl.pure (PR.moveI rfl) ?_
        refine Wl.callV (c_bit_impl (x := q) (k := k) hq (by first | assumption | omega)) rfl ?_
        intro w18 hbel
        replace st := st.call hbel
        clear hbel
        refine Wl.nil ?_
        refine tn ?_
        refine Wc.condB (b := bitB q k) rfl (fun h19 => ?_) (fun h19 => ?_)
        · refine Wc.region rfl ?_
          refine Wl.pure (PR.moveI rfl) ?_
          refine Wl.loadA (i := 1) st tA_29 rfl rfl (all_sub layV_len) layV_len ?_
          refine Wl.pure (PR.moveI rfl) ?_
          refine Wl.callV (c_impl_Layer_count (p := p) (c := c) (k := k) hc (by first | assumption | omega)) rfl ?_
          intro w20 hbel
          replace st := st.call hbel
          clear hbel
          refine Wl.pure (PR.min2N (a := x) (b := pc (c k)) rfl rfl) ?_
          refine Wl.pure (PR.assI rfl) ?_
          refine Wl.nil ?_
          refine bn ?_
          refine tn ?_
          refine Wc.region rfl ?_
          refine Wl.pure (PR.add (a := ((k : Nat) : Int)) (b := 1) rfl rfl (by simp only [fitI]; omega)) ?_
          refine Wl.pure (PR.moveI rfl) ?_
          refine Wl.nil ?_
          refine tn ?_
          exact ⟨(k + 1, (min x (pc (c k))), y), (.cons rfl (.cons rfl (.cons rfl (.cons rfl (.cons rfl (.cons rfl (.cons rfl (.nil _)))))))), ⟨st, (by first | omega | (dsimp only; omega)), (by first | exact mn_t hx (by assumption) | exact mn_f hx (by assumption)), (by first | exact mx_t hy (by assumption) | exact mx_f hy (by assumption))⟩, (by first | omega | (dsimp only; omega))⟩
        · refine Wc.region rfl ?_
          refine Wl.pure (PR.moveI rfl) ?_
          refine Wl.loadA (i := 1) st tA_29 rfl rfl (all_sub layV_len) layV_len ?_
          refine Wl.pure (PR.moveI rfl) ?_
          refine Wl.callV (c_impl_Layer_count (p := p) (c := c) (k := k) hc (by first | assumption | omega)) rfl ?_
          intro w21 hbel
          replace st := st.call hbel
          clear hbel
          refine Wl.pure (PR.max2N (a := y) (b := pc (c k)) rfl rfl) ?_
          refine Wl.pure (PR.assI rfl) ?_
          refine Wl.nil ?_
          refine bn ?_
          refine tn ?_
          refine Wc.region rfl ?_
          refine Wl.pure (PR.add (a := ((k : Nat) : Int)) (b := 1) rfl rfl (by simp only [fitI]; omega)) ?_
          refine Wl.pure (PR.moveI rfl) ?_
          refine Wl.nil ?_
          refine tn ?_
          exact ⟨(k + 1, x, (max y (pc (c k)))), (.cons rfl (.cons rfl (.cons rfl (.cons rfl (.cons rfl (.cons rfl (.cons rfl (.nil _)))))))), ⟨st, (by first | omega | (dsimp only; omega)), (by first | exact mn_t hx (by assumption) | exact mn_f hx (by assumption)), (by first | exact mx_t hy (by assumption) | exact mx_f hy (by assumption))⟩, (by first | omega | (dsimp only; omega))⟩
      · refine Wc.exit ?_
        refine tx ?_
        refine tx ?_
        refine bh ?_
        refine tn ?_
        refine Wc.seq ?_
        obtain rfl : k = 64 := by omega
        have hx8 := mnF_le q c 64
        have hy8 := mxF'_le hc q 64
        refine Wc.region rfl ?_
        refine Wl.pure (PR.moveI rfl) ?_
        refine Wl.pure (PR.moveI rfl) ?_
        refine Wl.pure (PR.sub (a := ((x : Nat) : Int)) (b := ((y : Nat) : Int)) rfl rfl (by simp only [fitI]; omega)) ?_
        refine Wl.pure (PR.assI rfl) ?_
        refine Wl.pure (PR.assI rfl) ?_
        refine Wl.nil ?_
        refine tn ?_
        refine Wc.ret ?_
        refine postL.tmp2 rfl rfl rfl ?_
        refine RetV.of ?_ st.below
        exact tup_2 (congrArg (Value.int .i64) (con_e hx hy)) rfl

set_option maxHeartbeats 400000 in
set_option maxRecDepth 4000 in
theorem c_l01Contrast_t {bk : Nat} {o : Nat} {p : Int} {c : Nat → Nat} {q : Nat} {w : World} (hR : RdA w bk o (layV p c)) (hp : -128 ≤ p ∧ p ≤ 127) (hc : ∀ k, c k < 256) (hq : q < 18446744073709551616) (hqg : q ≠ 0 ∧ q ≠ 18446744073709551615) :
    CE Try.prog 56 [.pointer (some ⟨bk, o, none⟩), .int .u64 (((q : Nat) : Int))] w (RetV w (.tuple #[.int .i64 (conZ q c), .bool true])) := by
  refine CE.enter 41 [(0, .pointer (some ⟨bk, o, none⟩)), (1, .int .u64 (((q : Nat) : Int)))] en_56 Try.func56 rfl rfl (Nat.le_of_ble_eq_true rfl) rfl ?_
  have st := St.start w
  refine Wc.seq ?_
  refine Wc.region rfl ?_
  refine Wl.pure (PR.assI rfl) ?_
  refine Wl.pure (PR.assB rfl) ?_
  refine Wl.nil ?_
  refine tn ?_
  refine Wc.seq ?_
  refine Wc.seq ?_
  refine Wc.region rfl ?_
  refine Wl.pure (PR.moveI rfl) ?_
  refine Wl.pure (PR.eql (a := ((q : Nat) : Int)) (b := 0) rfl rfl) ?_
  refine Wl.pure (PR.moveB rfl) ?_
  refine Wl.splitF (q := ((q : Nat) : Int) = 0) rfl rfl (fun h1 => ?_) (fun h1 => ?_)
  · refine Wl.pure (PR.moveI rfl) ?_
    refine Wl.on rfl rfl ?_
    refine Wl.pure (PR.compl (n := q) rfl (by decide) hq) ?_
    refine Wl.on rfl rfl ?_
    refine Wl.pure (PR.eql (a := (((18446744073709551615 - (q)) : Nat) : Int)) (b := 0) rfl rfl) ?_
    refine Wl.pure (PR.pickFB rfl rfl) ?_
    refine Wl.nil ?_
    refine tn ?_
    refine Wc.condD (p := (((18446744073709551615 - (q)) : Nat) : Int) = 0) rfl (fun h2 => ?_) (fun h2 => ?_)
    · refine Wc.seq ?_
      exfalso
      omega
    · refine Wc.skip ?_
      refine tn ?_
      refine Wc.seq ?_
      refine Wc.region rfl ?_
      refine Wl.pure (PR.assI rfl) ?_
      refine Wl.nil ?_
      refine tn ?_
      refine Wc.seq ?_
      refine Wc.region rfl ?_
      refine Wl.pure (PR.assI rfl) ?_
      refine Wl.nil ?_
      refine tn ?_
      refine Wc.seq ?_
      refine Wc.seq ?_
      refine Wc.region rfl ?_
      refine Wl.pure (PR.assI rfl) ?_
      refine Wl.nil ?_
      refine tn ?_
      refine Wc.block ?_
      refine Wc.loopF (γ := Nat × Nat × Nat) (fun g => [(0, .pointer (some ⟨bk, o, none⟩)), (1, .int .u64 (((q : Nat) : Int))), (4, .int .i64 (0)), (5, .bool false), (6, .int .i64 (((g.2.1 : Nat) : Int))), (7, .int .i64 (((g.2.2 : Nat) : Int))), (8, .int .i64 (((g.1 : Nat) : Int)))]) (fun g w_ => St [] w w_ [] ∧ (g.1 ≤ 64) ∧ (g.2.1 = mnF q c g.1) ∧ (g.2.2 = mxF' q c g.1)) (fun g => 64 - g.1) ?_ ?_
      · exact ⟨(0, 8, 0), (.cons rfl (.cons rfl (.cons rfl (.cons rfl (.cons rfl (.cons rfl (.cons rfl (.nil _)))))))), st, (by first | omega | (dsimp only; omega)), rfl, rfl⟩
      clear st
      rintro ⟨k, x, y⟩ w3 ⟨st, hk, hx, hy⟩
      try dsimp only at st hk hx hy ⊢
      refine Wc.seq ?_
      refine Wc.seq ?_
      refine Wc.region rfl ?_
      refine Wl.pure (PR.moveI rfl) ?_
      refine Wl.pure (PR.lss (a := ((k : Nat) : Int)) (b := 64) rfl rfl) ?_
      refine Wl.nil ?_
      refine tn ?_
      refine Wc.condD (p := ((k : Nat) : Int) < 64) rfl (fun h4 => ?_) (fun h4 => ?_)
      · refine Wc.skip ?_
        refine tn ?_
        refine Wc.seq ?_
        refine Wc.block ?_
        refine Wc.seq ?_
        refine Wc.region rfl ?_
        refine Wl.pure (PR.moveP rfl) ?_
        refine Wl.pure (PR.moveI rfl) ?_
        refine Wl.pure (PR.nil_ rfl) ?_
        refine Wl.pure (PR.fieldAddr tF_29_1 rfl) ?_
        refine Wl.pure (PR.idxAddrA1 (i := k) tE_23 rfl rfl (by omega)) ?_
        refine Wl.loadC tA_5 rfl ((hR.st st).at_ (layV_get_c (by omega)) (Nat.add_assoc _ _ _).symm) ?_
        refine Wl.pure (PR.conv (n := ((c (k) : Nat) : Int)) tI_51 rfl (fitN (hc (k)) rfl) Try.underlying5) ?_
        refine Wl.callV (c_spec_l01Count (x := c (k)) (Nat.lt_of_lt_of_le (hc (k)) (by decide))) rfl ?_
        intro w5 hbel
        replace st := st.call hbel
        clear hbel
        refine Wl.pure (PR.assI rfl) ?_
        refine Wl.nil ?_
        refine tn ?_
        refine Wc.seq ?_
        refine Wc.region rfl ?_
        refine Wl.pure (PR.moveI rfl) ?_
        refine Wl.pure (PR.moveI rfl) ?_
        refine Wl.callV (c_bit_pec (x := q) (k := k) hq (by first | assumption | omega)) rfl ?_
        intro w6 hbel
        replace st := st.call hbel
        clear hbel
        refine Wl.nil ?_
        refine tn ?_
        refine Wc.condB (b := bitB q k) rfl (fun h7 => ?_) (fun h7 => ?_)
        · refine Wc.region rfl ?_
          refine Wl.pure (PR.moveI rfl) ?_
          refine Wl.pure (PR.moveI rfl) ?_
          refine Wl.callV (c_spec_l00Min (n := x) (m := pc (c (k)))) rfl ?_
          intro w8 hbel
          replace st := st.call hbel
          clear hbel
          refine Wl.pure (PR.assI rfl) ?_
          refine Wl.nil ?_
          refine bn ?_
          refine tn ?_
          refine Wc.region rfl ?_
          refine Wl.pure (PR.moveI rfl) ?_
          refine Wl.pure (PR.add (a := ((k : Nat) : Int)) (b := 1) rfl rfl (by simp only [fitI]; omega)) ?_
          refine Wl.pure (PR.assI rfl) ?_
          refine Wl.nil ?_
          refine tn ?_
          exact ⟨(k + 1, (min x (pc (c (k)))), y), (.cons rfl (.cons rfl (.cons rfl (.cons rfl (.cons rfl (.cons rfl (.cons rfl (.nil _)))))))), ⟨st, (by first | omega | (dsimp only; omega)), (by first | exact mn_t hx (by assumption) | exact mn_f hx (by assumption)), (by first | exact mx_t hy (by assumption) | exact mx_f hy (by assumption))⟩, (by first | omega | (dsimp only; omega))⟩
        · refine Wc.region rfl ?_
          refine Wl.pure (PR.moveI rfl) ?_
          refine Wl.pure (PR.moveI rfl) ?_
          refine Wl.callV (c_spec_l00Max (n := y) (m := pc (c (k)))) rfl ?_
          intro w9 hbel
          replace st := st.call hbel
          clear hbel
          refine Wl.pure (PR.assI rfl) ?_
          refine Wl.nil ?_
          refine bn ?_
          refine tn ?_
          refine Wc.region rfl ?_
          refine Wl.pure (PR.moveI rfl) ?_
          refine Wl.pure (PR.add (a := ((k : Nat) : Int)) (b := 1) rfl rfl (by simp only [fitI]; omega)) ?_
          refine Wl.pure (PR.assI rfl) ?_
          refine Wl.nil ?_
          refine tn ?_
          exact ⟨(k + 1, x, (max y (pc (c (k))))), (.cons rfl (.cons rfl (.cons rfl (.cons rfl (.cons rfl (.cons rfl (.cons rfl (.nil _)))))))), ⟨st, (by first | omega | (dsimp only; omega)), (by first | exact mn_t hx (by assumption) | exact mn_f hx (by assumption)), (by first | exact mx_t hy (by assumption) | exact mx_f hy (by assumption))⟩, (by first | omega | (dsimp only; omega))⟩
      · refine Wc.exit ?_
        refine tx ?_
        refine tx ?_
        refine bh ?_
        refine tn ?_
        refine Wc.seq ?_
        obtain rfl : k = 64 := by omega
        have hx8 := mnF_le q c 64
        have hy8 := mxF'_le hc q 64
        refine Wc.region rfl ?_
        refine Wl.pure (PR.moveI rfl) ?_
        refine Wl.pure (PR.moveI rfl) ?_
        refine Wl.pure (PR.sub (a := ((x : Nat) : Int)) (b := ((y : Nat) : Int)) rfl rfl (by simp only [fitI]; omega)) ?_
        refine Wl.pure (PR.assI rfl) ?_
        refine Wl.pure (PR.assB rfl) ?_
        refine Wl.nil ?_
        refine tn ?_
        refine Wc.ret ?_
        refine postL.tmp2 rfl rfl rfl ?_
        refine RetV.of ?_ st.below
        exact tup_2 (congrArg (Value.int .i64) (con_e hx hy)) rfl
  · refine Wl.off rfl rfl rfl ?_
    refine Wl.off rfl rfl rfl ?_
    refine Wl.pure (PR.pickTB rfl rfl) ?_
    refine Wl.nil ?_
    refine tn ?_
    refine Wc.condT rfl ?_
    refine Wc.seq ?_
    exfalso
    omega

set_option maxHeartbeats 400000 in
set_option maxRecDepth 4000 in
theorem c_l01Contrast_f {bk : Nat} {o : Nat} {p : Int} {c : Nat → Nat} {q : Nat} {w : World} (hR : RdA w bk o (layV p c)) (hp : -128 ≤ p ∧ p ≤ 127) (hc : ∀ k, c k < 256) (hq : q < 18446744073709551616) (hqg : ¬ (q ≠ 0 ∧ q ≠ 18446744073709551615)) :
    CE Try.prog 56 [.pointer (some ⟨bk, o, none⟩), .int .u64 (((q : Nat) : Int))] w (RetV w (.tuple #[.int .i64 (0), .bool false])) := by
  refine CE.enter 41 [(0, .pointer (some ⟨bk, o, none⟩)), (1, .int .u64 (((q : Nat) : Int)))] en_56 Try.func56 rfl rfl (Nat.le_of_ble_eq_true rfl) rfl ?_
  have st := St.start w
  refine Wc.seq ?_
  refine Wc.region rfl ?_
  refine Wl.pure (PR.assI rfl) ?_
  refine Wl.pure (PR.assB rfl) ?_
  refine Wl.nil ?_
  refine tn ?_
  refine Wc.seq ?_
  refine Wc.seq ?_
  refine Wc.region rfl ?_
  refine Wl.pure (PR.moveI rfl) ?_
  refine Wl.pure (PR.eql (a := ((q : Nat) : Int)) (b := 0) rfl rfl) ?_
  refine Wl.pure (PR.moveB rfl) ?_
  refine Wl.splitF (q := ((q : Nat) : Int) = 0) rfl rfl (fun h1 => ?_) (fun h1 => ?_)
  · refine Wl.pure (PR.moveI rfl) ?_
    refine Wl.on rfl rfl ?_
    refine Wl.pure (PR.compl (n := q) rfl (by decide) hq) ?_
    refine Wl.on rfl rfl ?_
    refine Wl.pure (PR.eql (a := (((18446744073709551615 - (q)) : Nat) : Int)) (b := 0) rfl rfl) ?_
    refine Wl.pure (PR.pickFB rfl rfl) ?_
    refine Wl.nil ?_
    refine tn ?_
    refine Wc.condD (p := (((18446744073709551615 - (q)) : Nat) : Int) = 0) rfl (fun h2 => ?_) (fun h2 => ?_)
    · refine Wc.seq ?_
      refine Wc.region rfl ?_
      refine Wl.pure (PR.assI rfl) ?_
      refine Wl.pure (PR.assB rfl) ?_
      refine Wl.nil ?_
      refine tn ?_
      refine Wc.ret ?_
      refine tr ?_
      refine postL.tmp2 rfl rfl rfl ?_
      exact RetV.of rfl st.below
    · refine Wc.skip ?_
      refine tn ?_
      refine Wc.seq ?_
      exfalso
      omega
  · refine Wl.off rfl rfl rfl ?_
    refine Wl.off rfl rfl rfl ?_
    refine Wl.pure (PR.pickTB rfl rfl) ?_
    refine Wl.nil ?_
    refine tn ?_
    refine Wc.condT rfl ?_
    refine Wc.seq ?_
    refine Wc.region rfl ?_
    refine Wl.pure (PR.assI rfl) ?_
    refine Wl.pure (PR.assB rfl) ?_
    refine Wl.nil ?_
    refine tn ?_
    refine Wc.ret ?_
    refine tr ?_
    refine postL.tmp2 rfl rfl rfl ?_
    exact RetV.of rfl st.below

set_option maxHeartbeats 400000 in
set_option maxRecDepth 4000 in
theorem c_impl_stack_1 {b1 : Nat} {o1 : Nat} {A : Option Addr} {n : Nat} {cp : Nat} {p : Nat → Int} {c : Nat → Nat → Nat} {k : Nat} {w : World} (h1 : RdA w b1 o1 [.slice A n cp]) (hR : RdS w A n (layS n p c)) (hp : ∀ i, i < n → -128 ≤ p i ∧ p i ≤ 127) (hc : ∀ i k, c i k < 256) (hn : n ≤ 1048576) (hk : k < 64) :
    CE Try.prog 88 [.int .i64 (((k : Nat) : Int)), .pointer (some ⟨b1, o1, none⟩)] w (RetV w (.int .u8 (((orC c n k : Nat) : Int)))) := by
  refine CE.enter 21 [(0, .int .i64 (((k : Nat) : Int))), (1, .pointer (some ⟨b1, o1, none⟩))] en_88 Try.func88 rfl rfl (Nat.le_of_ble_eq_true rfl) rfl ?_
  have st := St.start w
  refine Wc.seq ?_
  refine Wc.region rfl ?_
  refine Wl.pure (PR.assI rfl) ?_
  refine Wl.nil ?_
  refine tn ?_
  refine Wc.seq ?_
  refine Wc.region rfl ?_
  refine Wl.pure (PR.assI rfl) ?_
  refine Wl.nil ?_
  refine tn ?_
  refine Wc.seq ?_
  refine Wc.seq ?_
  refine Wc.region rfl ?_
  refine Wl.loadC tA_37 rfl ((h1.st st).at_ (j := 0) (rfl) rfl) ?_
  refine Wl.pure (PR.lenL tS_37 rfl) ?_
  refine Wl.pure (PR.moveI rfl) ?_
  refine Wl.nil ?_
  refine tn ?_
  refine Wc.block ?_
  refine Wc.loopF (γ := Nat × Nat) (fun g => [(0, .int .i64 (((k : Nat) : Int))), (3, .int .u8 (0)), (4, .int .u8 (((g.2 : Nat) : Int))), (7, .slice (A) (n) (cp)), (8, .int .i64 (((n : Nat) : Int))), (9, .int .i64 (((g.1 : Nat) : Int)))]) (fun g w_ => St [] w w_ [] ∧ (g.1 ≤ n) ∧ (g.2 = orC c g.1 k) ∧ (g.2 < 256)) (fun g => n - g.1) ?_ ?_
  · exact ⟨(0, 0), (.cons rfl (.cons rfl (.cons rfl (.cons rfl (.cons rfl (.cons rfl (.nil _))))))), st, (by first | omega | (dsimp only; omega)), rfl, (by decide)⟩
  clear st
  rintro ⟨i, v⟩ w1 ⟨st, hi, hv, hvb⟩
  try dsimp only at st hi hv hvb ⊢
  refine Wc.seq ?_
  refine Wc.region rfl ?_
  refine Wl.pure (PR.lss (a := ((i : Nat) : Int)) (b := ((n : Nat) : Int)) rfl rfl) ?_
  refine Wl.nil ?_
  refine tn ?_
  refine Wc.seq ?_
  refine Wc.condD (p := ((i : Nat) : Int) < ((n : Nat) : Int)) rfl (fun h2 => ?_) (fun h2 => ?_)
  · refine Wc.skip ?_
    refine tn ?_
    refine Wc.seq ?_
    refine Wc.block ?_
    refine Wc.seq ?_
    refine Wc.region rfl ?_
    obtain ⟨bs3, os4, rfl, hs5⟩ := hR (by omega)
    have := hp (i) (by omega)
    refine Wl.pure (PR.idxAddrS (i := i) tS_37 rfl rfl (by omega)) ?_
    refine Wl.loadAC (vs := layV (p i) ((c i))) tA_29 rfl layV_len ((hs5.st st).sub (recV_sub (n := n) (i := i) (layS_row _ _) (by omega)) rfl) ?_
    refine Wl.alloc st tZ_29 rfl ?_
    clear st
    intro b6 w6 st
    refine Wl.storeA (i := 0) (cs' := layV (p i) ((c i))) st tA_29 rfl rfl layV_len layV_one rfl (le_of_len layV_len (by omega)) (all_put layV_len) ?_
    clear st
    intro w7 st
    replace st : St [] w w7 [(b6, layV (p i) ((c i)), 29)] := st
    refine Wl.nil ?_
    refine tn ?_
    refine Wc.region rfl ?_
    refine Wl.pure (PR.moveI rfl) ?_
    refine Wl.pure (PR.moveI rfl) ?_
    refine Wl.pure (PR.fieldAddr tF_29_1 rfl) ?_
    refine Wl.pure (PR.idxAddrA1 (i := k) tE_23 rfl rfl (by omega)) ?_
    refine Wl.load (i := 0) st tA_5 rfl rfl (layV_get_c (by omega)) ?_
    refine Wl.pure (PR.or (a := v) (b := (c i) (k)) rfl rfl (by decide) hvb ((hc i) (k))) ?_
    refine Wl.pure (PR.assI rfl) ?_
    refine Wl.nil ?_
    refine bn ?_
    refine tn ?_
    refine Wc.region rfl ?_
    refine Wl.pure (PR.add (a := ((i : Nat) : Int)) (b := 1) rfl rfl (by simp only [fitI]; omega)) ?_
    refine Wl.pure (PR.moveI rfl) ?_
    refine Wl.nil ?_
    refine tn ?_
    replace st := st.tail
    exact ⟨(i + 1, (v ||| ((c i) (k)))), (.cons rfl (.cons rfl (.cons rfl (.cons rfl (.cons rfl (.cons rfl (.nil _))))))), ⟨st, (by first | omega | (dsimp only; omega)), (orC_next hv), (or_lt_u8 hvb (hc i k))⟩, (by first | omega | (dsimp only; omega))⟩
  · refine Wc.exit ?_
    refine tx ?_
    refine tx ?_
    refine bh ?_
    refine tn ?_
    refine Wc.seq ?_
    refine Wc.region rfl ?_
    refine Wl.pure (PR.moveI rfl) ?_
    refine Wl.pure (PR.assI rfl) ?_
    refine Wl.nil ?_
    refine tn ?_
    refine Wc.ret ?_
    refine postL.tmp rfl rfl ?_
    refine RetV.of ?_ st.below
    refine congrArg (fun x : Nat => Value.int .u8 (x : Int)) ?_
    obtain rfl : i = n := by omega
    exact hv

set_option maxHeartbeats 400000 in
set_option maxRecDepth 4000 in
theorem c_impl_stack {A : Option Addr} {n : Nat} {cp : Nat} {p : Nat → Int} {c : Nat → Nat → Nat} {w : World} (hR : RdS w A n (layS n p c)) (hp : ∀ i, i < n → -128 ≤ p i ∧ p i ≤ 127) (hc : ∀ i k, c i k < 256) (hn : n ≤ 1048576) (hn0 : 0 < n) :
    CE Try.prog 57 [.slice (A) (n) (cp)] w (RetV w (.agg (layV (p 0) ((orC c n))).toArray)) := by
  refine CE.enter 8 [(0, .slice (A) (n) (cp))] en_57 Try.func57 rfl rfl (Nat.le_of_ble_eq_true rfl) rfl ?_
  have st := St.start w
  refine Wc.seq ?_
  refine Wc.region rfl ?_
  refine Wl.boxL st rfl ?_
  clear st
  intro b1 w1 st
  refine Wl.alloc st tZ_29 rfl ?_
  clear st
  intro b2 w2 st
  refine Wl.nil ?_
  refine tn ?_
  refine Wc.seq ?_
  refine Wc.region rfl ?_
  refine Wl.load (i := 1) st tA_37 rfl rfl (rfl) ?_
  obtain ⟨bs3, os4, rfl, hs5⟩ := hR (by omega)
  have := hp (0) (by omega)
  refine Wl.pure (PR.idxAddrS (i := 0) tS_37 rfl rfl (by omega)) ?_
  refine Wl.loadAC (vs := layV (p 0) ((c 0))) tA_29 rfl layV_len ((hs5.st st).sub (recV_sub (n := n) (i := 0) (layS_row _ _) (by omega)) rfl) ?_
  refine Wl.pure (PR.mkFunc (vs := [.pointer (some ⟨b1, 0, none⟩)]) rfl) ?_
  refine Wl.callV (c_impl_Layer_each (p := p 0) (c := (c 0)) (fk := 88) (cap := [.pointer (some ⟨b1, 0, none⟩)]) (q := (orC c n)) (hc 0) (fun i hi w' hb => c_impl_stack_1 ((st.rdA (i := 1) (n := 1) rfl rfl).below hb) ((hR.st st).below hb) hp hc hn hi) (orC_lt hc n)) rfl ?_
  intro w6 hbel
  replace st := st.call hbel
  clear hbel
  refine Wl.storeA (i := 0) (cs' := layV (p 0) ((orC c n))) st tA_29 rfl rfl layV_len layV_one rfl (le_of_len layV_len (by omega)) (all_put layV_len) ?_
  clear st
  intro w7 st
  replace st : St [] w w7 [(b2, layV (p 0) ((orC c n)), 29), (b1, [.slice (some ⟨bs3, os4, none⟩) (n) (cp)], 37)] := st
  refine Wl.nil ?_
  refine tn ?_
  refine Wc.ret ?_
  refine postL.cell (i := 0) st rfl tA_29 rfl rfl layV_len ?_
  exact RetV.of rfl st.below

set_option maxHeartbeats 400000 in
set_option maxRecDepth 4000 in
theorem c_spec_l01Stack {A : Option Addr} {n : Nat} {cp : Nat} {p : Nat → Int} {c : Nat → Nat → Nat} {w : World} (hR : RdS w A n (layS n p c)) (hp : ∀ i, i < n → -128 ≤ p i ∧ p i ≤ 127) (hc : ∀ i k, c i k < 256) (hn : n ≤ 1048576) (hn0 : 0 < n) :
    CE Try.prog 54 [.slice (A) (n) (cp)] w (RetV w (.agg (layV (p 0) ((orC c n))).toArray)) := by
  refine CE.enter 34 [(0, .slice (A) (n) (cp))] en_54 Try.func54 rfl rfl (Nat.le_of_ble_eq_true rfl) rfl ?_
  have st := St.start w
  refine Wc.seq ?_
  refine Wc.region rfl ?_
  refine Wl.alloc st tZ_29 rfl ?_
  clear st
  intro b2 w1 st
  refine Wl.nil ?_
  refine tn ?_
  refine Wc.seq ?_
  refine Wc.region rfl ?_
  refine Wl.pure (PR.moveL rfl) ?_
  obtain ⟨bs2, os3, rfl, hs4⟩ := hR (by omega)
  have := hp (0) (by omega)
  refine Wl.pure (PR.idxAddrS (i := 0) tS_37 rfl rfl (by omega)) ?_
  refine Wl.loadAC (vs := layV (p 0) ((c 0))) tA_29 rfl layV_len ((hs4.st st).sub (recV_sub (n := n) (i := 0) (layS_row _ _) (by omega)) rfl) ?_
  refine Wl.alloc st tZ_29 rfl ?_
  clear st
  intro b3 w5 st
  refine Wl.storeA (i := 0) (cs' := layV (p 0) ((c 0))) st tA_29 rfl rfl layV_len layV_one rfl (le_of_len layV_len (by omega)) (all_put layV_len) ?_
  clear st
  intro w6 st
  replace st : St [] w w6 [(b3, layV (p 0) ((c 0)), 29), (b2, layV (0) ((fun _ => 0)), 29)] := st
  refine Wl.nil ?_
  refine tn ?_
  refine Wc.seq ?_
  refine Wc.seq ?_
  refine Wc.region rfl ?_
  refine Wl.pure (PR.assI rfl) ?_
  refine Wl.nil ?_
  refine tn ?_
  refine Wc.block ?_
  rw [← orC_1 c] at st
  refine Wc.loopF (γ := Nat) (fun g => [(0, .slice (some ⟨bs2, os3, none⟩) (n) (cp)), (2, .pointer (some ⟨b2, 0, none⟩)), (3, .pointer (some ⟨b3, 0, none⟩)), (4, .int .i64 (((g : Nat) : Int)))]) (fun g w_ => St [] w w_ [(b3, layV (p 0) ((orC c g)), 29), (b2, layV (0) ((fun _ => 0)), 29)] ∧ (1 ≤ g ∧ g ≤ n)) (fun g => n - g) ?_ ?_
  · exact ⟨1, (.cons rfl (.cons rfl (.cons rfl (.cons rfl (.nil _))))), st, (by first | omega | (dsimp only; omega))⟩
  clear st
  rintro i w7 ⟨st, hi⟩
  try dsimp only at st hi ⊢
  refine Wc.seq ?_
  refine Wc.seq ?_
  refine Wc.region rfl ?_
  refine Wl.pure (PR.moveI rfl) ?_
  refine Wl.pure (PR.moveL rfl) ?_
  refine Wl.pure (PR.lenL tS_37 rfl) ?_
  refine Wl.pure (PR.lss (a := ((i : Nat) : Int)) (b := ((n : Nat) : Int)) rfl rfl) ?_
  refine Wl.nil ?_
  refine tn ?_
  refine Wc.condD (p := ((i : Nat) : Int) < ((n : Nat) : Int)) rfl (fun h8 => ?_) (fun h8 => ?_)
  · refine Wc.skip ?_
    refine tn ?_
    refine Wc.seq ?_
    refine Wc.block ?_
    refine Wc.seq ?_
    refine Wc.region rfl ?_
    refine Wl.pure (PR.assI rfl) ?_
    refine Wl.nil ?_
    refine tn ?_
    refine Wc.block ?_
    rw [mix_zero (orC c (i + 1)) (orC c i)] at st
    refine Wc.loopF (γ := Nat) (fun g => [(0, .slice (some ⟨bs2, os3, none⟩) (n) (cp)), (2, .pointer (some ⟨b2, 0, none⟩)), (3, .pointer (some ⟨b3, 0, none⟩)), (4, .int .i64 (((i : Nat) : Int))), (5, .int .i64 (((g : Nat) : Int))), (9, .int .i64 (((i : Nat) : Int))), (10, .slice (some ⟨bs2, os3, none⟩) (n) (cp)), (11, .int .i64 (((n : Nat) : Int))), (12, .bool (decide (((i : Nat) : Int) < ((n : Nat) : Int))))]) (fun g w_ => St [] w w_ [(b3, layV (p 0) ((mixF (orC c (i + 1)) (orC c i) g)), 29), (b2, layV (0) ((fun _ => 0)), 29)] ∧ (g ≤ 64)) (fun g => 64 - g) ?_ ?_
    · exact ⟨0, (.cons rfl (.cons rfl (.cons rfl (.cons rfl (.cons rfl (.cons rfl (.cons rfl (.cons rfl (.cons rfl (.nil _)))))))))), st, (by first | omega | (dsimp only; omega))⟩
    clear st
    rintro k w9 ⟨st, hk⟩
    try dsimp only at st hk ⊢
    refine Wc.seq ?_
    refine Wc.seq ?_
    refine Wc.region rfl ?_
    refine Wl.pure (PR.moveI rfl) ?_
    refine Wl.pure (PR.lss (a := ((k : Nat) : Int)) (b := 64) rfl rfl) ?_
    refine Wl.nil ?_
    refine tn ?_
    refine Wc.condD (p := ((k : Nat) : Int) < 64) rfl (fun h10 => ?_) (fun h10 => ?_)
    · refine Wc.skip ?_
      refine tn ?_
      refine Wc.seq ?_
      refine Wc.block ?_
      refine Wc.quietTail 14 hmix (by kernel_rfl) rfl ?_
      refine Wq.pure (PR.moveI rfl) ?_
      refine Wq.pure (PR.fieldAddr tF_29_1 rfl) ?_
      refine Wq.pure (PR.idxAddrA1 (i := k) tE_23 rfl rfl (by omega)) ?_
      refine Wq.load (i := 0) st tA_5 rfl rfl (layV_get_c (by omega)) ?_
      refine Wq.pure (PR.moveL rfl) ?_
      refine Wq.pure (PR.moveI rfl) ?_
      refine Wq.pure (PR.moveI rfl) ?_
      have := hp (i) (by omega)
      refine Wq.pure (PR.idxAddrS (i := i) tS_37 rfl rfl (by omega)) ?_
      refine Wq.pure (PR.fieldAddr tF_29_1 rfl) ?_
      refine Wq.pure (PR.idxAddrA1 (i := k) tE_23 rfl rfl (by omega)) ?_
      refine Wq.loadC tA_5 rfl ((hs4.st st).at_ (recV_get (i := i) (j := 1 + k) (layS_row _ _) (by omega) (layV_get_c (by omega))) (by omega)) ?_
      refine Wq.pure (PR.or (a := (mixF (orC c (i + 1)) (orC c i) k) (k)) (b := (c i) (k)) rfl rfl (by decide) ((mix_lt (orC_lt hc (i + 1)) (orC_lt hc i) k) (k)) ((hc i) (k))) ?_
      refine Wq.pure (PR.fieldAddr tF_29_1 rfl) ?_
      refine Wq.pure (PR.idxAddrA1 (i := k) tE_23 rfl rfl (by omega)) ?_
      refine Wq.nil (fun w11 hbel => ?_)
      replace st := st.call hbel
      clear hbel
      refine Wl.store (i := 0) (cs' := layV (p 0) (upd (mixF (orC c (i + 1)) (orC c i) k) (k) ((((mixF (orC c (i + 1)) (orC c i) k) (k)) ||| ((c i) (k)))))) st tA_5 rfl rfl rfl rfl (lt_of_len layV_len (by omega)) (layV_set_c) ?_
      clear st
      intro w12 st
      replace st : St [] w w12 [(b3, layV (p 0) (upd (mixF (orC c (i + 1)) (orC c i) k) (k) ((((mixF (orC c (i + 1)) (orC c i) k) (k)) ||| ((c i) (k))))), 29), (b2, layV (0) ((fun _ => 0)), 29)] := st
      refine Wl.nil ?_
      refine bn ?_
      refine tn ?_
      refine Wc.region rfl ?_
      refine Wl.pure (PR.moveI rfl) ?_
      refine Wl.pure (PR.add (a := ((k : Nat) : Int)) (b := 1) rfl rfl (by simp only [fitI]; omega)) ?_
      refine Wl.pure (PR.assI rfl) ?_
      refine Wl.nil ?_
      refine tn ?_
      rw [st_or, mix_upd] at st
      exact ⟨k + 1, (.cons rfl (.cons rfl (.cons rfl (.cons rfl (.cons rfl (.cons rfl (.cons rfl (.cons rfl (.cons rfl (.nil _)))))))))), ⟨st, (by first | omega | (dsimp only; omega))⟩, (by first | omega | (dsimp only; omega))⟩
    · refine Wc.exit ?_
      refine tx ?_
      refine tx ?_
      refine bh ?_
      refine bn ?_
      refine tn ?_
      refine Wc.region rfl ?_
      refine Wl.pure (PR.moveI rfl) ?_
      refine Wl.pure (PR.add (a := ((i : Nat) : Int)) (b := 1) rfl rfl (by simp only [fitI]; omega)) ?_
      refine Wl.pure (PR.assI rfl) ?_
      refine Wl.nil ?_
      refine tn ?_
      obtain rfl : k = 64 := by omega
      rw [layV_mix] at st
      exact ⟨i + 1, (.cons rfl (.cons rfl (.cons rfl (.cons rfl (.nil _))))), ⟨st, (by first | omega | (dsimp only; omega))⟩, (by first | omega | (dsimp only; omega))⟩
  · refine Wc.exit ?_
    refine tx ?_
    refine tx ?_
    refine bh ?_
    refine tn ?_
    refine Wc.seq ?_
    refine Wc.region rfl ?_
    refine Wl.loadA (i := 0) st tA_29 rfl rfl (all_sub layV_len) layV_len ?_
    refine Wl.storeA (i := 1) (cs' := layV (p 0) ((orC c i))) st tA_29 rfl rfl layV_len layV_one rfl (le_of_len layV_len (by omega)) (all_put layV_len) ?_
    clear st
    intro w13 st
    replace st : St [] w w13 [(b3, layV (p 0) ((orC c i)), 29), (b2, layV (p 0) ((orC c i)), 29)] := st
    refine Wl.nil ?_
    refine tn ?_
    refine Wc.ret ?_
    refine postL.cell (i := 1) st rfl tA_29 rfl rfl layV_len ?_
    refine RetV.of ?_ st.below
    exact congrArg (fun l : List Value => Value.agg l.toArray) (layV_congr rfl fun j hj => by first | rfl | (obtain rfl : i = n := (by omega); rfl))

end Go.Proofs.Ytagghfllgafmgaa
