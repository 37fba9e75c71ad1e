/-
  Contracts of functions, printed by a program of ours.
-/
import Derived.Test.YtjkicobdokcjfaaRat
namespace Go.Proofs.Ytjkicobdokcjfaa
open Go.RowKit
set_option linter.unusedVariables false
set_option linter.unusedSimpArgs false

set_option maxHeartbeats 400000 in
set_option maxRecDepth 4000 in
theorem c_impl_within {n : Int} {lo : Int} {hi : Int} {w : World} :
    CE Try.prog 39 [.int .i64 (n), .int .i64 (lo), .int .i64 (hi)] w (RetV w (.bool (decide (lo ≤ n ∧ n ≤ hi)))) := by
  refine CE.enter 15 [(0, .int .i64 (n)), (1, .int .i64 (lo)), (2, .int .i64 (hi))] en_39 Try.func39 rfl rfl (Nat.le_of_ble_eq_true rfl) rfl ?_
  have st := St.start w
  refine Wc.seq ?_
  refine Wc.region rfl ?_
  refine Wl.pure (PR.assB rfl) ?_
  refine Wl.nil ?_
  refine tn ?_
  refine Wc.seq ?_
  refine Wc.region rfl ?_
  refine Wl.pure (PR.moveI rfl) ?_
  refine Wl.pure (PR.moveI rfl) ?_
  refine Wl.pure (PR.geq (a := n) (b := lo) rfl rfl) ?_
  refine Wl.pure (PR.moveB rfl) ?_
  refine Wl.splitT (q := lo ≤ n) rfl rfl (fun h1 => ?_) (fun h1 => ?_)
  · refine Wl.pure (PR.moveI rfl) ?_
    refine Wl.on rfl rfl ?_
    refine Wl.pure (PR.moveI rfl) ?_
    refine Wl.on rfl rfl ?_
    refine Wl.pure (PR.leq (a := n) (b := hi) rfl rfl) ?_
    refine Wl.pure (PR.pickTB rfl rfl) ?_
    refine Wl.pure (PR.assB rfl) ?_
    refine Wl.nil ?_
    refine tn ?_
    refine Wc.ret ?_
    refine postL.tmp rfl rfl ?_
    refine RetV.of ?_ st.below
    refine congrArg Value.bool ?_
    first | rfl | (simp only [*, decide_true, decide_false, Bool.not_true, Bool.not_false]; done) | (simp; omega) | (rw [Bool.eq_iff_iff]; simp; omega) | simp_all
  · refine Wl.off rfl rfl rfl ?_
    refine Wl.off rfl rfl rfl ?_
    refine Wl.pure (PR.pickFB rfl rfl) ?_
    refine Wl.pure (PR.assB rfl) ?_
    refine Wl.nil ?_
    refine tn ?_
    refine Wc.ret ?_
    refine postL.tmp rfl rfl ?_
    refine RetV.of ?_ st.below
    refine congrArg Value.bool ?_
    first | rfl | (simp only [*, decide_true, decide_false, Bool.not_true, Bool.not_false]; done) | (simp; omega) | (rw [Bool.eq_iff_iff]; simp; omega) | simp_all

set_option maxHeartbeats 400000 in
set_option maxRecDepth 4000 in
theorem c_spec_l00In {n : Int} {lo : Int} {hi : Int} {w : World} :
    CE Try.prog 34 [.int .i64 (n), .int .i64 (lo), .int .i64 (hi)] w (RetV w (.bool (decide (lo ≤ n ∧ n ≤ hi)))) := by
  refine CE.enter 15 [(0, .int .i64 (n)), (1, .int .i64 (lo)), (2, .int .i64 (hi))] en_34 Try.func34 rfl rfl (Nat.le_of_ble_eq_true rfl) rfl ?_
  have st := St.start w
  refine Wc.seq ?_
  refine Wc.region rfl ?_
  refine Wl.pure (PR.assB rfl) ?_
  refine Wl.nil ?_
  refine tn ?_
  refine Wc.seq ?_
  refine Wc.region rfl ?_
  refine Wl.pure (PR.moveI rfl) ?_
  refine Wl.pure (PR.moveI rfl) ?_
  refine Wl.pure (PR.geq (a := n) (b := lo) rfl rfl) ?_
  refine Wl.pure (PR.moveB rfl) ?_
  refine Wl.splitT (q := lo ≤ n) rfl rfl (fun h1 => ?_) (fun h1 => ?_)
  · refine Wl.pure (PR.moveI rfl) ?_
    refine Wl.on rfl rfl ?_
    refine Wl.pure (PR.moveI rfl) ?_
    refine Wl.on rfl rfl ?_
    refine Wl.pure (PR.leq (a := n) (b := hi) rfl rfl) ?_
    refine Wl.pure (PR.pickTB rfl rfl) ?_
    refine Wl.pure (PR.assB rfl) ?_
    refine Wl.nil ?_
    refine tn ?_
    refine Wc.ret ?_
    refine postL.tmp rfl rfl ?_
    refine RetV.of ?_ st.below
    refine congrArg Value.bool ?_
    first | rfl | (simp only [*, decide_true, decide_false, Bool.not_true, Bool.not_false]; done) | (simp; omega) | (rw [Bool.eq_iff_iff]; simp; omega) | simp_all
  · refine Wl.off rfl rfl rfl ?_
    refine Wl.off rfl rfl rfl ?_
    refine Wl.pure (PR.pickFB rfl rfl) ?_
    refine Wl.pure (PR.assB rfl) ?_
    refine Wl.nil ?_
    refine tn ?_
    refine Wc.ret ?_
    refine postL.tmp rfl rfl ?_
    refine RetV.of ?_ st.below
    refine congrArg Value.bool ?_
    first | rfl | (simp only [*, decide_true, decide_false, Bool.not_true, Bool.not_false]; done) | (simp; omega) | (rw [Bool.eq_iff_iff]; simp; omega) | simp_all

set_option maxHeartbeats 400000 in
set_option maxRecDepth 4000 in
theorem c_laws_toRatio {n : Int} {d : Int} {w : World} :
    CE Try.prog 11 [.agg ([.int .i16 (n), .int .i16 (d)]).toArray] w (RetV w (.agg ([.int .i16 (n), .int .i16 (d)]).toArray)) := by
  refine CE.enter 11 [(0, .agg ([.int .i16 (n), .int .i16 (d)]).toArray)] en_11 Try.func11 rfl rfl (Nat.le_of_ble_eq_true rfl) rfl ?_
  have st := St.start w
  refine Wc.seq ?_
  refine Wc.region rfl ?_
  refine Wl.boxA st rfl ?_
  clear st
  intro b1 w1 st
  refine Wl.alloc st tZ_27 rfl ?_
  clear st
  intro b2 w2 st
  refine Wl.nil ?_
  refine tn ?_
  refine Wc.seq ?_
  refine Wc.region rfl ?_
  refine Wl.alloc st tZ_27 rfl ?_
  clear st
  intro b3 w3 st
  refine Wl.nil ?_
  refine tn ?_
  refine Wc.seq ?_
  refine Wc.region rfl ?_
  refine Wl.pure (PR.fieldAddr tF_24_0 rfl) ?_
  refine Wl.load (i := 2) st tA_22 rfl rfl (rfl) ?_
  refine Wl.pure (PR.fieldAddr tF_27_0 rfl) ?_
  refine Wl.store (i := 0) (cs' := [.int .i16 (n), .int .i16 (0)]) st tA_22 rfl rfl rfl rfl (by simp) (rfl) ?_
  clear st
  intro w4 st
  replace st : St [] w w4 [(b3, [.int .i16 (n), .int .i16 (0)], 27), (b2, [.int .i16 (0), .int .i16 (0)], 27), (b1, [.int .i16 (n), .int .i16 (d)], 24)] := st
  refine Wl.nil ?_
  refine tn ?_
  refine Wc.seq ?_
  refine Wc.region rfl ?_
  refine Wl.pure (PR.fieldAddr tF_24_1 rfl) ?_
  refine Wl.load (i := 2) st tA_22 rfl rfl (rfl) ?_
  refine Wl.pure (PR.fieldAddr tF_27_1 rfl) ?_
  refine Wl.store (i := 0) (cs' := [.int .i16 (n), .int .i16 (d)]) st tA_22 rfl rfl rfl rfl (by simp) (rfl) ?_
  clear st
  intro w5 st
  replace st : St [] w w5 [(b3, [.int .i16 (n), .int .i16 (d)], 27), (b2, [.int .i16 (0), .int .i16 (0)], 27), (b1, [.int .i16 (n), .int .i16 (d)], 24)] := st
  refine Wl.nil ?_
  refine tn ?_
  refine Wc.seq ?_
  refine Wc.region rfl ?_
  refine Wl.loadA (i := 0) st tA_27 rfl rfl rfl rfl ?_
  refine Wl.storeA (i := 1) (cs' := [.int .i16 (n), .int .i16 (d)]) st tA_27 rfl rfl rfl (by simp [Value.oneCell']) rfl (by simp) rfl ?_
  clear st
  intro w6 st
  replace st : St [] w w6 [(b3, [.int .i16 (n), .int .i16 (d)], 27), (b2, [.int .i16 (n), .int .i16 (d)], 27), (b1, [.int .i16 (n), .int .i16 (d)], 24)] := st
  refine Wl.nil ?_
  refine tn ?_
  refine Wc.ret ?_
  refine postL.cell (i := 1) st rfl tA_27 rfl rfl rfl ?_
  exact RetV.of rfl st.below

set_option maxHeartbeats 400000 in
set_option maxRecDepth 4000 in
theorem c_impl_isRatio {n : Int} {d : Int} {w : World} (hn : -32768 ≤ n ∧ n ≤ 32767) (hd : -32768 ≤ d ∧ d ≤ 32767) :
    CE Try.prog 31 [.agg ([.int .i16 (n), .int .i16 (d)]).toArray] w (RetV w (.bool (decide (ratOk n d)))) := by
  refine CE.enter 13 [(0, .agg ([.int .i16 (n), .int .i16 (d)]).toArray)] en_31 Try.func31 rfl rfl (Nat.le_of_ble_eq_true rfl) rfl ?_
  have st := St.start w
  refine Wc.seq ?_
  refine Wc.region rfl ?_
  refine Wl.boxA st rfl ?_
  clear st
  intro b1 w1 st
  refine Wl.pure (PR.assB rfl) ?_
  refine Wl.nil ?_
  refine tn ?_
  refine Wc.seq ?_
  refine Wc.region rfl ?_
  refine Wl.pure (PR.fieldAddr tF_27_0 rfl) ?_
  refine Wl.load (i := 0) st tA_22 rfl rfl (rfl) ?_
  refine Wl.pure (PR.conv (n := n) tI_2 rfl (by simp only [fitI]; omega) Try.underlying22) ?_
  refine Wl.callV (c_impl_within (n := n) (lo := (-100)) (hi := 100)) rfl ?_
  intro w2 hb
  replace st := st.call hb
  clear hb
  refine Wl.pure (PR.moveB rfl) ?_
  refine Wl.splitT (q := (-100) ≤ n ∧ n ≤ 100) rfl rfl (fun h3 => ?_) (fun h3 => ?_)
  · refine Wl.pure (PR.fieldAddr tF_27_1 rfl) ?_
    refine Wl.on rfl rfl ?_
    refine Wl.load (i := 0) st tA_22 rfl rfl (rfl) ?_
    refine Wl.on rfl rfl ?_
    refine Wl.pure (PR.conv (n := d) tI_2 rfl (by simp only [fitI]; omega) Try.underlying22) ?_
    refine Wl.on rfl rfl ?_
    refine Wl.callV (c_impl_within (n := d) (lo := 1) (hi := 100)) rfl ?_
    intro w4 hb
    replace st := st.call hb
    clear hb
    refine Wl.pure (PR.pickTB rfl rfl) ?_
    refine Wl.pure (PR.assB rfl) ?_
    refine Wl.nil ?_
    refine tn ?_
    refine Wc.ret ?_
    refine postL.tmp rfl rfl ?_
    refine RetV.of ?_ st.below
    refine congrArg Value.bool ?_
    first | exact ratOk_t (by assumption) | exact ratOk_f (by assumption)
  · refine Wl.off rfl rfl rfl ?_
    refine Wl.off rfl rfl rfl ?_
    refine Wl.off rfl rfl rfl ?_
    refine Wl.pure (PR.pickFB rfl rfl) ?_
    refine Wl.pure (PR.assB rfl) ?_
    refine Wl.nil ?_
    refine tn ?_
    refine Wc.ret ?_
    refine postL.tmp rfl rfl ?_
    refine RetV.of ?_ st.below
    refine congrArg Value.bool ?_
    first | exact ratOk_t (by assumption) | exact ratOk_f (by assumption)

set_option maxHeartbeats 400000 in
set_option maxRecDepth 4000 in
theorem c_spec_l06Fraction {n : Int} {d : Int} {w : World} (hn : -32768 ≤ n ∧ n ≤ 32767) (hd : -32768 ≤ d ∧ d ≤ 32767) :
    CE Try.prog 29 [.agg ([.int .i16 (n), .int .i16 (d)]).toArray] w (RetV w (.bool (decide (ratOk n d)))) := by
  refine CE.enter 13 [(0, .agg ([.int .i16 (n), .int .i16 (d)]).toArray)] en_29 Try.func29 rfl rfl (Nat.le_of_ble_eq_true rfl) rfl ?_
  have st := St.start w
  refine Wc.seq ?_
  refine Wc.region rfl ?_
  refine Wl.boxA st rfl ?_
  clear st
  intro b1 w1 st
  refine Wl.pure (PR.assB rfl) ?_
  refine Wl.nil ?_
  refine tn ?_
  refine Wc.seq ?_
  refine Wc.region rfl ?_
  refine Wl.pure (PR.fieldAddr tF_27_0 rfl) ?_
  refine Wl.load (i := 0) st tA_22 rfl rfl (rfl) ?_
  refine Wl.pure (PR.conv (n := n) tI_2 rfl (by simp only [fitI]; omega) Try.underlying22) ?_
  refine Wl.callV (c_spec_l00In (n := n) (lo := (-100)) (hi := 100)) rfl ?_
  intro w2 hb
  replace st := st.call hb
  clear hb
  refine Wl.pure (PR.moveB rfl) ?_
  refine Wl.splitT (q := (-100) ≤ n ∧ n ≤ 100) rfl rfl (fun h3 => ?_) (fun h3 => ?_)
  · refine Wl.pure (PR.fieldAddr tF_27_1 rfl) ?_
    refine Wl.on rfl rfl ?_
    refine Wl.load (i := 0) st tA_22 rfl rfl (rfl) ?_
    refine Wl.on rfl rfl ?_
    refine Wl.pure (PR.conv (n := d) tI_2 rfl (by simp only [fitI]; omega) Try.underlying22) ?_
    refine Wl.on rfl rfl ?_
    refine Wl.callV (c_spec_l00In (n := d) (lo := 1) (hi := 100)) rfl ?_
    intro w4 hb
    replace st := st.call hb
    clear hb
    refine Wl.pure (PR.pickTB rfl rfl) ?_
    refine Wl.pure (PR.assB rfl) ?_
    refine Wl.nil ?_
    refine tn ?_
    refine Wc.ret ?_
    refine postL.tmp rfl rfl ?_
    refine RetV.of ?_ st.below
    refine congrArg Value.bool ?_
    first | exact ratOk_t (by assumption) | exact ratOk_f (by assumption)
  · refine Wl.off rfl rfl rfl ?_
    refine Wl.off rfl rfl rfl ?_
    refine Wl.off rfl rfl rfl ?_
    refine Wl.pure (PR.pickFB rfl rfl) ?_
    refine Wl.pure (PR.assB rfl) ?_
    refine Wl.nil ?_
    refine tn ?_
    refine Wc.ret ?_
    refine postL.tmp rfl rfl ?_
    refine RetV.of ?_ st.below
    refine congrArg Value.bool ?_
    first | exact ratOk_t (by assumption) | exact ratOk_f (by assumption)

set_option maxHeartbeats 400000 in
set_option maxRecDepth 4000 in
theorem c_impl_sign3 {n : Int} {w : World} :
    CE Try.prog 54 [.int .i64 (n)] w (RetV w (.int .i64 ((cmpZ n 0)))) := by
  refine CE.enter 6 [(0, .int .i64 (n))] en_54 Try.func54 rfl rfl (Nat.le_of_ble_eq_true rfl) rfl ?_
  have st := St.start w
  refine Wc.seq ?_
  refine Wc.region rfl ?_
  refine Wl.pure (PR.assI rfl) ?_
  refine Wl.nil ?_
  refine tn ?_
  refine Wc.seq ?_
  refine Wc.region rfl ?_
  refine Wl.pure (PR.moveI rfl) ?_
  refine Wl.pure (PR.max2 (a := (-1)) (b := n) rfl rfl) ?_
  refine Wl.pure (PR.min2 (a := 1) (b := (max (-1) n)) rfl rfl) ?_
  refine Wl.pure (PR.assI rfl) ?_
  refine Wl.nil ?_
  refine tn ?_
  refine Wc.ret ?_
  refine postL.tmp rfl rfl ?_
  refine RetV.of ?_ st.below
  refine congrArg (Value.int .i64) ?_
  unfold cmpZ
  split
  · omega
  · split <;> omega

set_option maxHeartbeats 400000 in
set_option maxRecDepth 4000 in
theorem c_impl_compareRatios {n : Int} {d : Int} {m : Int} {e : Int} {w : World} (hn : -32768 ≤ n ∧ n ≤ 32767) (hd : -32768 ≤ d ∧ d ≤ 32767) (hm : -32768 ≤ m ∧ m ≤ 32767) (he : -32768 ≤ e ∧ e ≤ 32767) :
    CE Try.prog 32 [.agg ([.int .i16 (n), .int .i16 (d)]).toArray, .agg ([.int .i16 (m), .int .i16 (e)]).toArray] w (RetV w (.int .i64 ((cmpZ (n * e) (m * d))))) := by
  refine CE.enter 21 [(0, .agg ([.int .i16 (n), .int .i16 (d)]).toArray), (1, .agg ([.int .i16 (m), .int .i16 (e)]).toArray)] en_32 Try.func32 rfl rfl (Nat.le_of_ble_eq_true rfl) rfl ?_
  have st := St.start w
  refine Wc.seq ?_
  refine Wc.region rfl ?_
  refine Wl.boxA st rfl ?_
  clear st
  intro b2 w1 st
  refine Wl.boxA st rfl ?_
  clear st
  intro b3 w2 st
  refine Wl.pure (PR.assI rfl) ?_
  refine Wl.nil ?_
  refine tn ?_
  refine Wc.seq ?_
  refine Wc.region rfl ?_
  refine Wl.pure (PR.fieldAddr tF_27_0 rfl) ?_
  refine Wl.load (i := 1) st tA_22 rfl rfl (rfl) ?_
  refine Wl.pure (PR.conv (n := n) tI_2 rfl (by simp only [fitI]; omega) Try.underlying22) ?_
  refine Wl.pure (PR.fieldAddr tF_27_1 rfl) ?_
  refine Wl.load (i := 0) st tA_22 rfl rfl (rfl) ?_
  refine Wl.pure (PR.conv (n := e) tI_2 rfl (by simp only [fitI]; omega) Try.underlying22) ?_
  refine Wl.pure (PR.mul (a := n) (b := e) rfl rfl (by have := mul_bd16 hn he; simp only [fitI]; omega)) ?_
  refine Wl.pure (PR.fieldAddr tF_27_0 rfl) ?_
  refine Wl.load (i := 0) st tA_22 rfl rfl (rfl) ?_
  refine Wl.pure (PR.conv (n := m) tI_2 rfl (by simp only [fitI]; omega) Try.underlying22) ?_
  refine Wl.pure (PR.fieldAddr tF_27_1 rfl) ?_
  refine Wl.load (i := 1) st tA_22 rfl rfl (rfl) ?_
  refine Wl.pure (PR.conv (n := d) tI_2 rfl (by simp only [fitI]; omega) Try.underlying22) ?_
  refine Wl.pure (PR.mul (a := m) (b := d) rfl rfl (by have := mul_bd16 hm hd; simp only [fitI]; omega)) ?_
  refine Wl.pure (PR.sub (a := (n * e)) (b := (m * d)) rfl rfl (by have := mul_bd16 hn he; have := mul_bd16 hm hd; simp only [fitI]; omega)) ?_
  refine Wl.callV (c_impl_sign3 (n := ((n * e) - (m * d)))) rfl ?_
  intro w3 hb
  replace st := st.call hb
  clear hb
  refine Wl.pure (PR.assI rfl) ?_
  refine Wl.nil ?_
  refine tn ?_
  refine Wc.ret ?_
  refine postL.tmp rfl rfl ?_
  refine RetV.of ?_ st.below
  exact congrArg (Value.int .i64) (cmpZ_sub _ _)

set_option maxHeartbeats 400000 in
set_option maxRecDepth 4000 in
theorem c_spec_l06Compare {n : Int} {d : Int} {m : Int} {e : Int} {w : World} (hn : -32768 ≤ n ∧ n ≤ 32767) (hd : -32768 ≤ d ∧ d ≤ 32767) (hm : -32768 ≤ m ∧ m ≤ 32767) (he : -32768 ≤ e ∧ e ≤ 32767) :
    CE Try.prog 30 [.agg ([.int .i16 (n), .int .i16 (d)]).toArray, .agg ([.int .i16 (m), .int .i16 (e)]).toArray] w (RetV w (.int .i64 ((cmpZ (n * e) (m * d))))) := by
  refine CE.enter 29 [(0, .agg ([.int .i16 (n), .int .i16 (d)]).toArray), (1, .agg ([.int .i16 (m), .int .i16 (e)]).toArray)] en_30 Try.func30 rfl rfl (Nat.le_of_ble_eq_true rfl) rfl ?_
  have st := St.start w
  refine Wc.seq ?_
  refine Wc.region rfl ?_
  refine Wl.boxA st rfl ?_
  clear st
  intro b2 w1 st
  refine Wl.boxA st rfl ?_
  clear st
  intro b3 w2 st
  refine Wl.pure (PR.assI rfl) ?_
  refine Wl.nil ?_
  refine tn ?_
  refine Wc.seq ?_
  refine Wc.region rfl ?_
  refine Wl.pure (PR.fieldAddr tF_27_0 rfl) ?_
  refine Wl.load (i := 1) st tA_22 rfl rfl (rfl) ?_
  refine Wl.pure (PR.conv (n := n) tI_2 rfl (by simp only [fitI]; omega) Try.underlying22) ?_
  refine Wl.pure (PR.fieldAddr tF_27_1 rfl) ?_
  refine Wl.load (i := 0) st tA_22 rfl rfl (rfl) ?_
  refine Wl.pure (PR.conv (n := e) tI_2 rfl (by simp only [fitI]; omega) Try.underlying22) ?_
  refine Wl.pure (PR.mul (a := n) (b := e) rfl rfl (by have := mul_bd16 hn he; simp only [fitI]; omega)) ?_
  refine Wl.pure (PR.assI rfl) ?_
  refine Wl.nil ?_
  refine tn ?_
  refine Wc.seq ?_
  refine Wc.region rfl ?_
  refine Wl.pure (PR.fieldAddr tF_27_0 rfl) ?_
  refine Wl.load (i := 0) st tA_22 rfl rfl (rfl) ?_
  refine Wl.pure (PR.conv (n := m) tI_2 rfl (by simp only [fitI]; omega) Try.underlying22) ?_
  refine Wl.pure (PR.fieldAddr tF_27_1 rfl) ?_
  refine Wl.load (i := 1) st tA_22 rfl rfl (rfl) ?_
  refine Wl.pure (PR.conv (n := d) tI_2 rfl (by simp only [fitI]; omega) Try.underlying22) ?_
  refine Wl.pure (PR.mul (a := m) (b := d) rfl rfl (by have := mul_bd16 hm hd; simp only [fitI]; omega)) ?_
  refine Wl.pure (PR.assI rfl) ?_
  refine Wl.nil ?_
  refine tn ?_
  refine Wc.seq ?_
  refine Wc.block ?_
  refine Wc.seq ?_
  refine Wc.region rfl ?_
  refine Wl.pure (PR.moveI rfl) ?_
  refine Wl.pure (PR.moveI rfl) ?_
  refine Wl.pure (PR.lss (a := (n * e)) (b := (m * d)) rfl rfl) ?_
  refine Wl.pure (PR.assB rfl) ?_
  refine Wl.nil ?_
  refine tn ?_
  refine Wc.condD (p := (n * e) < (m * d)) rfl (fun h3 => ?_) (fun h3 => ?_)
  · refine Wc.seq ?_
    refine Wc.region rfl ?_
    refine Wl.pure (PR.assI rfl) ?_
    refine Wl.nil ?_
    refine tn ?_
    refine Wc.ret ?_
    refine br ?_
    refine tr ?_
    refine postL.tmp rfl rfl ?_
    refine RetV.of ?_ st.below
    refine congrArg (Value.int .i64) ?_
    first | exact cmpZ_lt (by assumption) | exact cmpZ_gt (by assumption) | exact cmpZ_eq (by assumption) (by assumption)
  · refine Wc.seq ?_
    refine Wc.region rfl ?_
    refine Wl.pure (PR.moveI rfl) ?_
    refine Wl.pure (PR.moveI rfl) ?_
    refine Wl.pure (PR.gtr (a := (n * e)) (b := (m * d)) rfl rfl) ?_
    refine Wl.pure (PR.assB rfl) ?_
    refine Wl.nil ?_
    refine tn ?_
    refine Wc.condD (p := (m * d) < (n * e)) rfl (fun h4 => ?_) (fun h4 => ?_)
    · refine Wc.seq ?_
      refine Wc.region rfl ?_
      refine Wl.pure (PR.assI rfl) ?_
      refine Wl.nil ?_
      refine tn ?_
      refine Wc.ret ?_
      refine br ?_
      refine tr ?_
      refine postL.tmp rfl rfl ?_
      refine RetV.of ?_ st.below
      refine congrArg (Value.int .i64) ?_
      first | exact cmpZ_lt (by assumption) | exact cmpZ_gt (by assumption) | exact cmpZ_eq (by assumption) (by assumption)
    · refine Wc.skip ?_
      refine bn ?_
      refine tn ?_
      refine Wc.seq ?_
      refine Wc.region rfl ?_
      refine Wl.pure (PR.assI rfl) ?_
      refine Wl.nil ?_
      refine tn ?_
      refine Wc.ret ?_
      refine postL.tmp rfl rfl ?_
      refine RetV.of ?_ st.below
      refine congrArg (Value.int .i64) ?_
      first | exact cmpZ_lt (by assumption) | exact cmpZ_gt (by assumption) | exact cmpZ_eq (by assumption) (by assumption)

set_option maxHeartbeats 400000 in
set_option maxRecDepth 4000 in
theorem c_impl_CompareRatios {n : Int} {d : Int} {m : Int} {e : Int} {w : World} (hn : -32768 ≤ n ∧ n ≤ 32767) (hd : -32768 ≤ d ∧ d ≤ 32767) (hm : -32768 ≤ m ∧ m ≤ 32767) (he : -32768 ≤ e ∧ e ≤ 32767) :
    CE Try.prog 12 [.agg ([.int .i16 (n), .int .i16 (d)]).toArray, .agg ([.int .i16 (m), .int .i16 (e)]).toArray] w (RetV w (.tuple #[.int .i64 ((cmpF n d m e)), .int .i64 ((((codeIf (decide (ratOk n d) && decide (ratOk m e)) 1) : Nat) : Int))])) := by
  refine CE.enter 17 [(0, .agg ([.int .i16 (n), .int .i16 (d)]).toArray), (1, .agg ([.int .i16 (m), .int .i16 (e)]).toArray)] en_12 Try.func12 rfl rfl (Nat.le_of_ble_eq_true rfl) rfl ?_
  have st := St.start w
  refine Wc.seq ?_
  refine Wc.region rfl ?_
  refine Wl.boxA st rfl ?_
  clear st
  intro b2 w1 st
  refine Wl.boxA st rfl ?_
  clear st
  intro b3 w2 st
  refine Wl.pure (PR.assI rfl) ?_
  refine Wl.pure (PR.assI rfl) ?_
  refine Wl.nil ?_
  refine tn ?_
  refine Wc.seq ?_
  refine Wc.seq ?_
  refine Wc.region rfl ?_
  refine Wl.loadA (i := 1) st tA_27 rfl rfl rfl rfl ?_
  refine Wl.callV (c_impl_isRatio (n := n) (d := d) (by first | assumption | omega) (by first | assumption | omega)) rfl ?_
  intro w3 hb
  replace st := st.call hb
  clear hb
  refine Wl.pure (PR.not_ rfl) ?_
  refine Wl.pure (PR.moveB rfl) ?_
  refine Wl.splitB (b := (!decide (ratOk n d))) rfl rfl (fun h4 => ?_) (fun h4 => ?_)
  · simp only [Bool.not_eq_true', Bool.not_eq_false', Bool.not_true, Bool.not_false, decide_eq_true_eq, decide_eq_false_iff_not] at h4
    refine Wl.loadA (i := 0) st tA_27 rfl rfl rfl rfl ?_
    refine Wl.on rfl rfl ?_
    refine Wl.callV (c_impl_isRatio (n := m) (d := e) (by first | assumption | omega) (by first | assumption | omega)) rfl ?_
    intro w5 hb
    replace st := st.call hb
    clear hb
    refine Wl.on rfl rfl ?_
    refine Wl.pure (PR.not_ rfl) ?_
    refine Wl.pure (PR.pickFB rfl rfl) ?_
    refine Wl.nil ?_
    refine tn ?_
    refine Wc.condN (p := ratOk m e) rfl (fun h6 => ?_) (fun h6 => ?_)
    · refine Wc.seq ?_
      refine Wc.region rfl ?_
      refine Wl.pure (PR.assI rfl) ?_
      refine Wl.pure (PR.assI rfl) ?_
      refine Wl.nil ?_
      refine tn ?_
      refine Wc.ret ?_
      refine tr ?_
      refine postL.tmp2 rfl rfl rfl ?_
      refine RetV.of ?_ st.below
      first | exact cmpR_t (by assumption) (by assumption) | exact cmpR_f1 (by assumption) | exact cmpR_f2 (by assumption)
    · refine Wc.skip ?_
      refine tn ?_
      refine Wc.seq ?_
      refine Wc.region rfl ?_
      refine Wl.loadA (i := 1) st tA_27 rfl rfl rfl rfl ?_
      refine Wl.loadA (i := 0) st tA_27 rfl rfl rfl rfl ?_
      refine Wl.callV (c_impl_compareRatios (n := n) (d := d) (m := m) (e := e) (by first | assumption | omega) (by first | assumption | omega) (by first | assumption | omega) (by first | assumption | omega)) rfl ?_
      intro w7 hb
      replace st := st.call hb
      clear hb
      refine Wl.pure (PR.assI rfl) ?_
      refine Wl.pure (PR.assI rfl) ?_
      refine Wl.nil ?_
      refine tn ?_
      refine Wc.ret ?_
      refine postL.tmp2 rfl rfl rfl ?_
      refine RetV.of ?_ st.below
      first | exact cmpR_t (by assumption) (by assumption) | exact cmpR_f1 (by assumption) | exact cmpR_f2 (by assumption)
  · simp only [Bool.not_eq_true', Bool.not_eq_false', Bool.not_true, Bool.not_false, decide_eq_true_eq, decide_eq_false_iff_not] at h4
    refine Wl.off rfl rfl rfl ?_
    refine Wl.off rfl rfl rfl ?_
    refine Wl.pure (PR.pickTB rfl rfl) ?_
    refine Wl.nil ?_
    refine tn ?_
    refine Wc.condT rfl ?_
    refine Wc.seq ?_
    refine Wc.region rfl ?_
    refine Wl.pure (PR.assI rfl) ?_
    refine Wl.pure (PR.assI rfl) ?_
    refine Wl.nil ?_
    refine tn ?_
    refine Wc.ret ?_
    refine tr ?_
    refine postL.tmp2 rfl rfl rfl ?_
    refine RetV.of ?_ st.below
    first | exact cmpR_t (by assumption) (by assumption) | exact cmpR_f1 (by assumption) | exact cmpR_f2 (by assumption)

set_option maxHeartbeats 400000 in
set_option maxRecDepth 4000 in
theorem c_spec_CompareRatios {n : Int} {d : Int} {m : Int} {e : Int} {w : World} (hn : -32768 ≤ n ∧ n ≤ 32767) (hd : -32768 ≤ d ∧ d ≤ 32767) (hm : -32768 ≤ m ∧ m ≤ 32767) (he : -32768 ≤ e ∧ e ≤ 32767) :
    CE Try.prog 10 [.agg ([.int .i16 (n), .int .i16 (d)]).toArray, .agg ([.int .i16 (m), .int .i16 (e)]).toArray] w (RetV w (.tuple #[.int .i64 ((cmpF n d m e)), .int .i64 ((((codeIf (decide (ratOk n d) && decide (ratOk m e)) 1) : Nat) : Int))])) := by
  refine CE.enter 17 [(0, .agg ([.int .i16 (n), .int .i16 (d)]).toArray), (1, .agg ([.int .i16 (m), .int .i16 (e)]).toArray)] en_10 Try.func10 rfl rfl (Nat.le_of_ble_eq_true rfl) rfl ?_
  have st := St.start w
  refine Wc.seq ?_
  refine Wc.region rfl ?_
  refine Wl.boxA st rfl ?_
  clear st
  intro b2 w1 st
  refine Wl.boxA st rfl ?_
  clear st
  intro b3 w2 st
  refine Wl.pure (PR.assI rfl) ?_
  refine Wl.pure (PR.assI rfl) ?_
  refine Wl.nil ?_
  refine tn ?_
  refine Wc.seq ?_
  refine Wc.seq ?_
  refine Wc.region rfl ?_
  refine Wl.loadA (i := 1) st tA_27 rfl rfl rfl rfl ?_
  refine Wl.callV (c_spec_l06Fraction (n := n) (d := d) (by first | assumption | omega) (by first | assumption | omega)) rfl ?_
  intro w3 hb
  replace st := st.call hb
  clear hb
  refine Wl.pure (PR.not_ rfl) ?_
  refine Wl.pure (PR.moveB rfl) ?_
  refine Wl.splitB (b := (!decide (ratOk n d))) rfl rfl (fun h4 => ?_) (fun h4 => ?_)
  · simp only [Bool.not_eq_true', Bool.not_eq_false', Bool.not_true, Bool.not_false, decide_eq_true_eq, decide_eq_false_iff_not] at h4
    refine Wl.loadA (i := 0) st tA_27 rfl rfl rfl rfl ?_
    refine Wl.on rfl rfl ?_
    refine Wl.callV (c_spec_l06Fraction (n := m) (d := e) (by first | assumption | omega) (by first | assumption | omega)) rfl ?_
    intro w5 hb
    replace st := st.call hb
    clear hb
    refine Wl.on rfl rfl ?_
    refine Wl.pure (PR.not_ rfl) ?_
    refine Wl.pure (PR.pickFB rfl rfl) ?_
    refine Wl.nil ?_
    refine tn ?_
    refine Wc.condN (p := ratOk m e) rfl (fun h6 => ?_) (fun h6 => ?_)
    · refine Wc.seq ?_
      refine Wc.region rfl ?_
      refine Wl.pure (PR.assI rfl) ?_
      refine Wl.pure (PR.assI rfl) ?_
      refine Wl.nil ?_
      refine tn ?_
      refine Wc.ret ?_
      refine tr ?_
      refine postL.tmp2 rfl rfl rfl ?_
      refine RetV.of ?_ st.below
      first | exact cmpR_t (by assumption) (by assumption) | exact cmpR_f1 (by assumption) | exact cmpR_f2 (by assumption)
    · refine Wc.skip ?_
      refine tn ?_
      refine Wc.seq ?_
      refine Wc.region rfl ?_
      refine Wl.loadA (i := 1) st tA_27 rfl rfl rfl rfl ?_
      refine Wl.loadA (i := 0) st tA_27 rfl rfl rfl rfl ?_
      refine Wl.callV (c_spec_l06Compare (n := n) (d := d) (m := m) (e := e) (by first | assumption | omega) (by first | assumption | omega) (by first | assumption | omega) (by first | assumption | omega)) rfl ?_
      intro w7 hb
      replace st := st.call hb
      clear hb
      refine Wl.pure (PR.assI rfl) ?_
      refine Wl.pure (PR.assI rfl) ?_
      refine Wl.nil ?_
      refine tn ?_
      refine Wc.ret ?_
      refine postL.tmp2 rfl rfl rfl ?_
      refine RetV.of ?_ st.below
      first | exact cmpR_t (by assumption) (by assumption) | exact cmpR_f1 (by assumption) | exact cmpR_f2 (by assumption)
  · simp only [Bool.not_eq_true', Bool.not_eq_false', Bool.not_true, Bool.not_false, decide_eq_true_eq, decide_eq_false_iff_not] at h4
    refine Wl.off rfl rfl rfl ?_
    refine Wl.off rfl rfl rfl ?_
    refine Wl.pure (PR.pickTB rfl rfl) ?_
    refine Wl.nil ?_
    refine tn ?_
    refine Wc.condT rfl ?_
    refine Wc.seq ?_
    refine Wc.region rfl ?_
    refine Wl.pure (PR.assI rfl) ?_
    refine Wl.pure (PR.assI rfl) ?_
    refine Wl.nil ?_
    refine tn ?_
    refine Wc.ret ?_
    refine tr ?_
    refine postL.tmp2 rfl rfl rfl ?_
    refine RetV.of ?_ st.below
    first | exact cmpR_t (by assumption) (by assumption) | exact cmpR_f1 (by assumption) | exact cmpR_f2 (by assumption)

set_option maxHeartbeats 400000 in
set_option maxRecDepth 4000 in
theorem c_laws_FnExactCompareRatios {n : Int} {d : Int} {m : Int} {e : Int} {w : World} (hn : -32768 ≤ n ∧ n ≤ 32767) (hd : -32768 ≤ d ∧ d ≤ 32767) (hm : -32768 ≤ m ∧ m ≤ 32767) (he : -32768 ≤ e ∧ e ≤ 32767) :
    CE Try.prog 3 [.agg ([.int .i16 (n), .int .i16 (d)]).toArray, .agg ([.int .i16 (m), .int .i16 (e)]).toArray] w (RetV w (.bool true)) := by
  refine CE.enter 33 [(0, .agg ([.int .i16 (n), .int .i16 (d)]).toArray), (1, .agg ([.int .i16 (m), .int .i16 (e)]).toArray)] en_3 Try.func3 rfl rfl (Nat.le_of_ble_eq_true rfl) rfl ?_
  have st := St.start w
  refine Wc.seq ?_
  refine Wc.region rfl ?_
  refine Wl.boxA st rfl ?_
  clear st
  intro b2 w1 st
  refine Wl.boxA st rfl ?_
  clear st
  intro b3 w2 st
  refine Wl.pure (PR.assB rfl) ?_
  refine Wl.nil ?_
  refine tn ?_
  refine Wc.seq ?_
  refine Wc.quiet hmix (by kernel_rfl) rfl ?_
  refine Wq.loadA (i := 1) st tA_24 rfl rfl rfl rfl ?_
  refine Wq.callV (fun _ hb => c_laws_toRatio (n := n) (d := d)) rfl ?_
  refine Wq.loadA (i := 0) st tA_24 rfl rfl rfl rfl ?_
  refine Wq.callV (fun _ hb => c_laws_toRatio (n := m) (d := e)) rfl ?_
  refine Wq.callV (fun _ hb => c_spec_CompareRatios (n := n) (d := d) (m := m) (e := e) (by first | assumption | omega) (by first | assumption | omega) (by first | assumption | omega) (by first | assumption | omega)) rfl ?_
  refine Wq.pure (PR.moveV (.tuple #[.int .i64 ((cmpF n d m e)), .int .i64 ((((codeIf (decide (ratOk n d) && decide (ratOk m e)) 1) : Nat) : Int))]) rfl) ?_
  refine Wq.pure (PR.extr (i := 0) (vs := [.int .i64 ((cmpF n d m e)), .int .i64 ((((codeIf (decide (ratOk n d) && decide (ratOk m e)) 1) : Nat) : Int))]) rfl rfl) ?_
  refine Wq.pure (PR.extr (i := 1) (vs := [.int .i64 ((cmpF n d m e)), .int .i64 ((((codeIf (decide (ratOk n d) && decide (ratOk m e)) 1) : Nat) : Int))]) rfl rfl) ?_
  refine Wq.pure (PR.assI rfl) ?_
  refine Wq.pure (PR.assI rfl) ?_
  refine Wq.nil (fun w3 hb => ?_)
  replace st := st.call hb
  clear hb
  refine tn ?_
  refine Wc.seq ?_
  refine Wc.quiet hmix (by kernel_rfl) rfl ?_
  refine Wq.loadA (i := 1) st tA_24 rfl rfl rfl rfl ?_
  refine Wq.callV (fun _ hb => c_laws_toRatio (n := n) (d := d)) rfl ?_
  refine Wq.loadA (i := 0) st tA_24 rfl rfl rfl rfl ?_
  refine Wq.callV (fun _ hb => c_laws_toRatio (n := m) (d := e)) rfl ?_
  refine Wq.callV (fun _ hb => c_impl_CompareRatios (n := n) (d := d) (m := m) (e := e) (by first | assumption | omega) (by first | assumption | omega) (by first | assumption | omega) (by first | assumption | omega)) rfl ?_
  refine Wq.pure (PR.moveV (.tuple #[.int .i64 ((cmpF n d m e)), .int .i64 ((((codeIf (decide (ratOk n d) && decide (ratOk m e)) 1) : Nat) : Int))]) rfl) ?_
  refine Wq.pure (PR.extr (i := 0) (vs := [.int .i64 ((cmpF n d m e)), .int .i64 ((((codeIf (decide (ratOk n d) && decide (ratOk m e)) 1) : Nat) : Int))]) rfl rfl) ?_
  refine Wq.pure (PR.extr (i := 1) (vs := [.int .i64 ((cmpF n d m e)), .int .i64 ((((codeIf (decide (ratOk n d) && decide (ratOk m e)) 1) : Nat) : Int))]) rfl rfl) ?_
  refine Wq.pure (PR.assI rfl) ?_
  refine Wq.pure (PR.assI rfl) ?_
  refine Wq.nil (fun w4 hb => ?_)
  replace st := st.call hb
  clear hb
  refine tn ?_
  refine Wc.seq ?_
  refine Wc.seq ?_
  refine Wc.region rfl ?_
  refine Wl.pure (PR.moveI rfl) ?_
  refine Wl.pure (PR.moveI rfl) ?_
  refine Wl.pure (PR.neqS (a := (cmpF n d m e)) rfl rfl) ?_
  refine Wl.pure (PR.moveB rfl) ?_
  refine Wl.on rfl rfl ?_
  refine Wl.pure (PR.moveI rfl) ?_
  refine Wl.on rfl rfl ?_
  refine Wl.pure (PR.moveI rfl) ?_
  refine Wl.on rfl rfl ?_
  refine Wl.pure (PR.neqS (a := (((codeIf (decide (ratOk n d) && decide (ratOk m e)) 1) : Nat) : Int)) rfl rfl) ?_
  refine Wl.pure (PR.pickFB rfl rfl) ?_
  refine Wl.nil ?_
  refine tn ?_
  refine Wc.condF rfl ?_
  refine Wc.skip ?_
  refine tn ?_
  refine Wc.seq ?_
  refine Wc.region rfl ?_
  refine Wl.pure (PR.assB rfl) ?_
  refine Wl.nil ?_
  refine tn ?_
  refine Wc.ret ?_
  refine postL.tmp rfl rfl ?_
  exact RetV.of rfl st.below

set_option maxHeartbeats 400000 in
set_option maxRecDepth 4000 in
theorem c_laws_eqRatio {n : Int} {d : Int} {w : World} :
    CE Try.prog 28 [.agg ([.int .i16 (n), .int .i16 (d)]).toArray, .agg ([.int .i16 (n), .int .i16 (d)]).toArray] w (RetV w (.bool true)) := by
  refine CE.enter 15 [(0, .agg ([.int .i16 (n), .int .i16 (d)]).toArray), (1, .agg ([.int .i16 (n), .int .i16 (d)]).toArray)] en_28 Try.func28 rfl rfl (Nat.le_of_ble_eq_true rfl) rfl ?_
  have st := St.start w
  refine Wc.seq ?_
  refine Wc.region rfl ?_
  refine Wl.boxA st rfl ?_
  clear st
  intro b2 w1 st
  refine Wl.boxA st rfl ?_
  clear st
  intro b3 w2 st
  refine Wl.pure (PR.assB rfl) ?_
  refine Wl.nil ?_
  refine tn ?_
  refine Wc.seq ?_
  refine Wc.seq ?_
  refine Wc.region rfl ?_
  refine Wl.pure (PR.fieldAddr tF_27_0 rfl) ?_
  refine Wl.load (i := 1) st tA_22 rfl rfl (rfl) ?_
  refine Wl.pure (PR.fieldAddr tF_27_0 rfl) ?_
  refine Wl.load (i := 0) st tA_22 rfl rfl (rfl) ?_
  refine Wl.pure (PR.neqS (a := n) rfl rfl) ?_
  refine Wl.nil ?_
  refine tn ?_
  refine Wc.condF rfl ?_
  refine Wc.skip ?_
  refine tn ?_
  refine Wc.seq ?_
  refine Wc.seq ?_
  refine Wc.region rfl ?_
  refine Wl.pure (PR.fieldAddr tF_27_1 rfl) ?_
  refine Wl.load (i := 1) st tA_22 rfl rfl (rfl) ?_
  refine Wl.pure (PR.fieldAddr tF_27_1 rfl) ?_
  refine Wl.load (i := 0) st tA_22 rfl rfl (rfl) ?_
  refine Wl.pure (PR.neqS (a := d) rfl rfl) ?_
  refine Wl.nil ?_
  refine tn ?_
  refine Wc.condF rfl ?_
  refine Wc.skip ?_
  refine tn ?_
  refine Wc.seq ?_
  refine Wc.region rfl ?_
  refine Wl.pure (PR.assB rfl) ?_
  refine Wl.nil ?_
  refine tn ?_
  refine Wc.ret ?_
  refine postL.tmp rfl rfl ?_
  exact RetV.of rfl st.below

end Go.Proofs.Ytjkicobdokcjfaa
