/-
  Contracts of functions, printed by a program of ours.
-/
import Derived.Test.YtajkjhjnbfcpfaaCW4
namespace Go.Proofs.Ytajkjhjnbfcpfaa
open Go.RowKit
set_option linter.unusedVariables false
set_option linter.unusedSimpArgs false

set_option maxHeartbeats 400000 in
set_option maxRecDepth 4000 in
theorem c_spec_l05Cover {a : Bool} {b : Bool} {z : Bool} {w : World} :
    CE Try.prog 82 [.bool (a), .bool (b), .bool (z)] w (RetV w (.tuple #[.int .u8 (((cvA a b z : Nat) : Int)), .int .u8 (((cvB a b z : Nat) : Int))])) := by
  refine CE.enter 28 [(0, .bool (a)), (1, .bool (b)), (2, .bool (z))] en_82 Try.func82 rfl rfl (Nat.le_of_ble_eq_true rfl) rfl ?_
  have st := St.start w
  refine Wc.seq ?_
  refine Wc.region rfl ?_
  refine Wl.pure (PR.assI rfl) ?_
  refine Wl.pure (PR.assI rfl) ?_
  refine Wl.nil ?_
  refine tn ?_
  refine Wc.seq ?_
  refine Wc.region rfl ?_
  refine Wl.pure (PR.build (ps := [(0, .int .u8 (3)), (1, .int .u8 (7)), (2, .int .u8 (3)), (3, .int .u8 (7)), (4, .int .u8 (3)), (5, .int .u8 (7)), (6, .int .u8 (9)), (7, .int .u8 (7))]) (cs := arrU .u8 8 (upd (upd (upd (upd (upd (upd (upd (upd (fun _ => 0) (0) (3)) (1) (7)) (2) (3)) (3) (7)) (4) (3)) (5) (7)) (6) (9)) (7) (7))) tB_151 rfl rfl) ?_
  refine Wl.alloc st tZ_151 rfl ?_
  clear st
  intro b8 w1 st
  refine Wl.storeA (i := 0) (cs' := arrU .u8 8 (upd (upd (upd (upd (upd (upd (upd (upd (fun _ => 0) (0) (3)) (1) (7)) (2) (3)) (3) (7)) (4) (3)) (5) (7)) (6) (9)) (7) (7))) st tA_151 rfl rfl (arrU_len _) (arrU_one _) rfl (le_of_len (arrU_len _) (by omega)) (all_put (arrU_len _)) ?_
  clear st
  intro w2 st
  replace st : St [] w w2 [(b8, arrU .u8 8 (upd (upd (upd (upd (upd (upd (upd (upd (fun _ => 0) (0) (3)) (1) (7)) (2) (3)) (3) (7)) (4) (3)) (5) (7)) (6) (9)) (7) (7)), 151)] := st
  refine Wl.nil ?_
  refine tn ?_
  refine Wc.seq ?_
  refine Wc.region rfl ?_
  refine Wl.pure (PR.build (ps := [(0, .int .u8 (5)), (1, .int .u8 (3)), (2, .int .u8 (7)), (3, .int .u8 (7)), (4, .int .u8 (12)), (5, .int .u8 (9)), (6, .int .u8 (7)), (7, .int .u8 (14))]) (cs := arrU .u8 8 (upd (upd (upd (upd (upd (upd (upd (upd (fun _ => 0) (0) (5)) (1) (3)) (2) (7)) (3) (7)) (4) (12)) (5) (9)) (6) (7)) (7) (14))) tB_151 rfl rfl) ?_
  refine Wl.alloc st tZ_151 rfl ?_
  clear st
  intro b9 w3 st
  refine Wl.storeA (i := 0) (cs' := arrU .u8 8 (upd (upd (upd (upd (upd (upd (upd (upd (fun _ => 0) (0) (5)) (1) (3)) (2) (7)) (3) (7)) (4) (12)) (5) (9)) (6) (7)) (7) (14))) st tA_151 rfl rfl (arrU_len _) (arrU_one _) rfl (le_of_len (arrU_len _) (by omega)) (all_put (arrU_len _)) ?_
  clear st
  intro w4 st
  replace st : St [] w w4 [(b9, arrU .u8 8 (upd (upd (upd (upd (upd (upd (upd (upd (fun _ => 0) (0) (5)) (1) (3)) (2) (7)) (3) (7)) (4) (12)) (5) (9)) (6) (7)) (7) (14)), 151), (b8, arrU .u8 8 (upd (upd (upd (upd (upd (upd (upd (upd (fun _ => 0) (0) (3)) (1) (7)) (2) (3)) (3) (7)) (4) (3)) (5) (7)) (6) (9)) (7) (7)), 151)] := st
  refine Wl.nil ?_
  refine tn ?_
  refine Wc.seq ?_
  refine Wc.region rfl ?_
  refine Wl.pure (PR.assI rfl) ?_
  refine Wl.nil ?_
  refine tn ?_
  refine Wc.seq ?_
  refine Wc.seq ?_
  refine Wc.region rfl ?_
  refine Wl.pure (PR.moveB rfl) ?_
  refine Wl.nil ?_
  refine tn ?_
  refine Wc.condB (b := a) rfl (fun h5 => ?_) (fun h5 => ?_)
  · refine Wc.region rfl ?_
    refine Wl.pure (PR.moveI rfl) ?_
    refine Wl.pure (PR.add (a := 0) (b := 1) rfl rfl (by simp only [fitI]; omega)) ?_
    refine Wl.pure (PR.assI rfl) ?_
    refine Wl.nil ?_
    refine tn ?_
    refine Wc.seq ?_
    refine Wc.seq ?_
    refine Wc.region rfl ?_
    refine Wl.pure (PR.moveB rfl) ?_
    refine Wl.nil ?_
    refine tn ?_
    refine Wc.condB (b := b) rfl (fun h6 => ?_) (fun h6 => ?_)
    · refine Wc.region rfl ?_
      refine Wl.pure (PR.moveI rfl) ?_
      refine Wl.pure (PR.add (a := (((0 + 1) : Nat) : Int)) (b := 2) rfl rfl (by simp only [fitI]; omega)) ?_
      refine Wl.pure (PR.assI rfl) ?_
      refine Wl.nil ?_
      refine tn ?_
      refine Wc.seq ?_
      refine Wc.seq ?_
      refine Wc.region rfl ?_
      refine Wl.pure (PR.moveB rfl) ?_
      refine Wl.nil ?_
      refine tn ?_
      refine Wc.condB (b := z) rfl (fun h7 => ?_) (fun h7 => ?_)
      · refine Wc.region rfl ?_
        refine Wl.pure (PR.moveI rfl) ?_
        refine Wl.pure (PR.add (a := ((((0 + 1) + 2) : Nat) : Int)) (b := 4) rfl rfl (by simp only [fitI]; omega)) ?_
        refine Wl.pure (PR.assI rfl) ?_
        refine Wl.nil ?_
        refine tn ?_
        refine Wc.seq ?_
        refine Wc.quiet hmix (by kernel_rfl) rfl ?_
        refine Wq.pure (PR.moveI rfl) ?_
        refine Wq.pure (PR.idxAddrA1 (i := (((0 + 1) + 2) + 4)) tE_151 rfl rfl (by omega)) ?_
        refine Wq.load (i := 1) st tA_5 rfl rfl (arrU_get0 (by omega)) ?_
        refine Wq.pure (PR.moveI rfl) ?_
        refine Wq.pure (PR.idxAddrA1 (i := (((0 + 1) + 2) + 4)) tE_151 rfl rfl (by omega)) ?_
        refine Wq.load (i := 0) st tA_5 rfl rfl (arrU_get0 (by omega)) ?_
        refine Wq.pure (PR.assI rfl) ?_
        refine Wq.pure (PR.assI rfl) ?_
        refine Wq.nil (fun w8 hbel => ?_)
        replace st := st.call hbel
        clear hbel
        refine tn ?_
        refine Wc.ret ?_
        refine postL.tmp2 rfl rfl rfl ?_
        refine RetV.of ?_ st.below
        cases a <;> cases b <;> cases z <;> first | rfl | contradiction
      · refine Wc.skip ?_
        refine tn ?_
        refine Wc.seq ?_
        refine Wc.quiet hmix (by kernel_rfl) rfl ?_
        refine Wq.pure (PR.moveI rfl) ?_
        refine Wq.pure (PR.idxAddrA1 (i := ((0 + 1) + 2)) tE_151 rfl rfl (by omega)) ?_
        refine Wq.load (i := 1) st tA_5 rfl rfl (arrU_get0 (by omega)) ?_
        refine Wq.pure (PR.moveI rfl) ?_
        refine Wq.pure (PR.idxAddrA1 (i := ((0 + 1) + 2)) tE_151 rfl rfl (by omega)) ?_
        refine Wq.load (i := 0) st tA_5 rfl rfl (arrU_get0 (by omega)) ?_
        refine Wq.pure (PR.assI rfl) ?_
        refine Wq.pure (PR.assI rfl) ?_
        refine Wq.nil (fun w9 hbel => ?_)
        replace st := st.call hbel
        clear hbel
        refine tn ?_
        refine Wc.ret ?_
        refine postL.tmp2 rfl rfl rfl ?_
        refine RetV.of ?_ st.below
        cases a <;> cases b <;> cases z <;> first | rfl | contradiction
    · refine Wc.skip ?_
      refine tn ?_
      refine Wc.seq ?_
      refine Wc.seq ?_
      refine Wc.region rfl ?_
      refine Wl.pure (PR.moveB rfl) ?_
      refine Wl.nil ?_
      refine tn ?_
      refine Wc.condB (b := z) rfl (fun h10 => ?_) (fun h10 => ?_)
      · refine Wc.region rfl ?_
        refine Wl.pure (PR.moveI rfl) ?_
        refine Wl.pure (PR.add (a := (((0 + 1) : Nat) : Int)) (b := 4) rfl rfl (by simp only [fitI]; omega)) ?_
        refine Wl.pure (PR.assI rfl) ?_
        refine Wl.nil ?_
        refine tn ?_
        refine Wc.seq ?_
        refine Wc.quiet hmix (by kernel_rfl) rfl ?_
        refine Wq.pure (PR.moveI rfl) ?_
        refine Wq.pure (PR.idxAddrA1 (i := ((0 + 1) + 4)) tE_151 rfl rfl (by omega)) ?_
        refine Wq.load (i := 1) st tA_5 rfl rfl (arrU_get0 (by omega)) ?_
        refine Wq.pure (PR.moveI rfl) ?_
        refine Wq.pure (PR.idxAddrA1 (i := ((0 + 1) + 4)) tE_151 rfl rfl (by omega)) ?_
        refine Wq.load (i := 0) st tA_5 rfl rfl (arrU_get0 (by omega)) ?_
        refine Wq.pure (PR.assI rfl) ?_
        refine Wq.pure (PR.assI rfl) ?_
        refine Wq.nil (fun w11 hbel => ?_)
        replace st := st.call hbel
        clear hbel
        refine tn ?_
        refine Wc.ret ?_
        refine postL.tmp2 rfl rfl rfl ?_
        refine RetV.of ?_ st.below
        cases a <;> cases b <;> cases z <;> first | rfl | contradiction
      · refine Wc.skip ?_
        refine tn ?_
        refine Wc.seq ?_
        refine Wc.quiet hmix (by kernel_rfl) rfl ?_
        refine Wq.pure (PR.moveI rfl) ?_
        refine Wq.pure (PR.idxAddrA1 (i := (0 + 1)) tE_151 rfl rfl (by omega)) ?_
        refine Wq.load (i := 1) st tA_5 rfl rfl (arrU_get0 (by omega)) ?_
        refine Wq.pure (PR.moveI rfl) ?_
        refine Wq.pure (PR.idxAddrA1 (i := (0 + 1)) tE_151 rfl rfl (by omega)) ?_
        refine Wq.load (i := 0) st tA_5 rfl rfl (arrU_get0 (by omega)) ?_
        refine Wq.pure (PR.assI rfl) ?_
        refine Wq.pure (PR.assI rfl) ?_
        refine Wq.nil (fun w12 hbel => ?_)
        replace st := st.call hbel
        clear hbel
        refine tn ?_
        refine Wc.ret ?_
        refine postL.tmp2 rfl rfl rfl ?_
        refine RetV.of ?_ st.below
        cases a <;> cases b <;> cases z <;> first | rfl | contradiction
  · refine Wc.skip ?_
    refine tn ?_
    refine Wc.seq ?_
    refine Wc.seq ?_
    refine Wc.region rfl ?_
    refine Wl.pure (PR.moveB rfl) ?_
    refine Wl.nil ?_
    refine tn ?_
    refine Wc.condB (b := b) rfl (fun h13 => ?_) (fun h13 => ?_)
    · refine Wc.region rfl ?_
      refine Wl.pure (PR.moveI rfl) ?_
      refine Wl.pure (PR.add (a := 0) (b := 2) rfl rfl (by simp only [fitI]; omega)) ?_
      refine Wl.pure (PR.assI rfl) ?_
      refine Wl.nil ?_
      refine tn ?_
      refine Wc.seq ?_
      refine Wc.seq ?_
      refine Wc.region rfl ?_
      refine Wl.pure (PR.moveB rfl) ?_
      refine Wl.nil ?_
      refine tn ?_
      refine Wc.condB (b := z) rfl (fun h14 => ?_) (fun h14 => ?_)
      · refine Wc.region rfl ?_
        refine Wl.pure (PR.moveI rfl) ?_
        refine Wl.pure (PR.add (a := (((0 + 2) : Nat) : Int)) (b := 4) rfl rfl (by simp only [fitI]; omega)) ?_
        refine Wl.pure (PR.assI rfl) ?_
        refine Wl.nil ?_
        refine tn ?_
        refine Wc.seq ?_
        refine Wc.quiet hmix (by kernel_rfl) rfl ?_
        refine Wq.pure (PR.moveI rfl) ?_
        refine Wq.pure (PR.idxAddrA1 (i := ((0 + 2) + 4)) tE_151 rfl rfl (by omega)) ?_
        refine Wq.load (i := 1) st tA_5 rfl rfl (arrU_get0 (by omega)) ?_
        refine Wq.pure (PR.moveI rfl) ?_
        refine Wq.pure (PR.idxAddrA1 (i := ((0 + 2) + 4)) tE_151 rfl rfl (by omega)) ?_
        refine Wq.load (i := 0) st tA_5 rfl rfl (arrU_get0 (by omega)) ?_
        refine Wq.pure (PR.assI rfl) ?_
        refine Wq.pure (PR.assI rfl) ?_
        refine Wq.nil (fun w15 hbel => ?_)
        replace st := st.call hbel
        clear hbel
        refine tn ?_
        refine Wc.ret ?_
        refine postL.tmp2 rfl rfl rfl ?_
        refine RetV.of ?_ st.below
        cases a <;> cases b <;> cases z <;> first | rfl | contradiction
      · refine Wc.skip ?_
        refine tn ?_
        refine Wc.seq ?_
        refine Wc.quiet hmix (by kernel_rfl) rfl ?_
        refine Wq.pure (PR.moveI rfl) ?_
        refine Wq.pure (PR.idxAddrA1 (i := (0 + 2)) tE_151 rfl rfl (by omega)) ?_
        refine Wq.load (i := 1) st tA_5 rfl rfl (arrU_get0 (by omega)) ?_
        refine Wq.pure (PR.moveI rfl) ?_
        refine Wq.pure (PR.idxAddrA1 (i := (0 + 2)) tE_151 rfl rfl (by omega)) ?_
        refine Wq.load (i := 0) st tA_5 rfl rfl (arrU_get0 (by omega)) ?_
        refine Wq.pure (PR.assI rfl) ?_
        refine Wq.pure (PR.assI rfl) ?_
        refine Wq.nil (fun w16 hbel => ?_)
        replace st := st.call hbel
        clear hbel
        refine tn ?_
        refine Wc.ret ?_
        refine postL.tmp2 rfl rfl rfl ?_
        refine RetV.of ?_ st.below
        cases a <;> cases b <;> cases z <;> first | rfl | contradiction
    · refine Wc.skip ?_
      refine tn ?_
      refine Wc.seq ?_
      refine Wc.seq ?_
      refine Wc.region rfl ?_
      refine Wl.pure (PR.moveB rfl) ?_
      refine Wl.nil ?_
      refine tn ?_
      refine Wc.condB (b := z) rfl (fun h17 => ?_) (fun h17 => ?_)
      · refine Wc.region rfl ?_
        refine Wl.pure (PR.moveI rfl) ?_
        refine Wl.pure (PR.add (a := 0) (b := 4) rfl rfl (by simp only [fitI]; omega)) ?_
        refine Wl.pure (PR.assI rfl) ?_
        refine Wl.nil ?_
        refine tn ?_
        refine Wc.seq ?_
        refine Wc.quiet hmix (by kernel_rfl) rfl ?_
        refine Wq.pure (PR.moveI rfl) ?_
        refine Wq.pure (PR.idxAddrA1 (i := (0 + 4)) tE_151 rfl rfl (by omega)) ?_
        refine Wq.load (i := 1) st tA_5 rfl rfl (arrU_get0 (by omega)) ?_
        refine Wq.pure (PR.moveI rfl) ?_
        refine Wq.pure (PR.idxAddrA1 (i := (0 + 4)) tE_151 rfl rfl (by omega)) ?_
        refine Wq.load (i := 0) st tA_5 rfl rfl (arrU_get0 (by omega)) ?_
        refine Wq.pure (PR.assI rfl) ?_
        refine Wq.pure (PR.assI rfl) ?_
        refine Wq.nil (fun w18 hbel => ?_)
        replace st := st.call hbel
        clear hbel
        refine tn ?_
        refine Wc.ret ?_
        refine postL.tmp2 rfl rfl rfl ?_
        refine RetV.of ?_ st.below
        cases a <;> cases b <;> cases z <;> first | rfl | contradiction
      · refine Wc.skip ?_
        refine tn ?_
        refine Wc.seq ?_
        refine Wc.quiet hmix (by kernel_rfl) rfl ?_
        refine Wq.pure (PR.moveI rfl) ?_
        refine Wq.pure (PR.idxAddrA1 (i := 0) tE_151 rfl rfl (by omega)) ?_
        refine Wq.load (i := 1) st tA_5 rfl rfl (arrU_get (i := 0) (by omega)) ?_
        refine Wq.pure (PR.moveI rfl) ?_
        refine Wq.pure (PR.idxAddrA1 (i := 0) tE_151 rfl rfl (by omega)) ?_
        refine Wq.load (i := 0) st tA_5 rfl rfl (arrU_get (i := 0) (by omega)) ?_
        refine Wq.pure (PR.assI rfl) ?_
        refine Wq.pure (PR.assI rfl) ?_
        refine Wq.nil (fun w19 hbel => ?_)
        replace st := st.call hbel
        clear hbel
        refine tn ?_
        refine Wc.ret ?_
        refine postL.tmp2 rfl rfl rfl ?_
        refine RetV.of ?_ st.below
        cases a <;> cases b <;> cases z <;> first | rfl | contradiction

set_option maxHeartbeats 400000 in
set_option maxRecDepth 4000 in
theorem c_impl_coverCell {a : Bool} {b : Bool} {z : Bool} {w : World} :
    CE Try.prog 84 [.bool (a), .bool (b), .bool (z)] w (RetV w (.tuple #[.int .u8 (((cvA a b z : Nat) : Int)), .int .u8 (((cvB a b z : Nat) : Int))])) := by
  refine CE.enter 45 [(0, .bool (a)), (1, .bool (b)), (2, .bool (z))] en_84 Try.func84 rfl rfl (Nat.le_of_ble_eq_true rfl) rfl ?_
  have st := St.start w
  refine Wc.seq ?_
  refine Wc.region rfl ?_
  refine Wl.pure (PR.assI rfl) ?_
  refine Wl.pure (PR.assI rfl) ?_
  refine Wl.nil ?_
  refine tn ?_
  refine Wc.seq ?_
  refine Wc.region rfl ?_
  refine Wl.pure (PR.build (ps := [(0, .int .u8 (3)), (1, .int .u8 (5))]) (cs := arrU .u8 2 (upd (upd (fun _ => 0) (0) (3)) (1) (5))) tB_152 rfl rfl) ?_
  refine Wl.pure (PR.build (ps := [(0, .int .u8 (3)), (1, .int .u8 (12))]) (cs := arrU .u8 2 (upd (upd (fun _ => 0) (0) (3)) (1) (12))) tB_152 rfl rfl) ?_
  refine Wl.pure (PR.build (ps := [(0, .int .u8 (7)), (1, .int .u8 (3))]) (cs := arrU .u8 2 (upd (upd (fun _ => 0) (0) (7)) (1) (3))) tB_152 rfl rfl) ?_
  refine Wl.pure (PR.build (ps := [(0, .int .u8 (7)), (1, .int .u8 (9))]) (cs := arrU .u8 2 (upd (upd (fun _ => 0) (0) (7)) (1) (9))) tB_152 rfl rfl) ?_
  refine Wl.pure (PR.build (ps := [(0, .int .u8 (3)), (1, .int .u8 (7))]) (cs := arrU .u8 2 (upd (upd (fun _ => 0) (0) (3)) (1) (7))) tB_152 rfl rfl) ?_
  refine Wl.pure (PR.build (ps := [(0, .int .u8 (9)), (1, .int .u8 (7))]) (cs := arrU .u8 2 (upd (upd (fun _ => 0) (0) (9)) (1) (7))) tB_152 rfl rfl) ?_
  refine Wl.pure (PR.build (ps := [(0, .int .u8 (7)), (1, .int .u8 (7))]) (cs := arrU .u8 2 (upd (upd (fun _ => 0) (0) (7)) (1) (7))) tB_152 rfl rfl) ?_
  refine Wl.pure (PR.build (ps := [(0, .int .u8 (7)), (1, .int .u8 (14))]) (cs := arrU .u8 2 (upd (upd (fun _ => 0) (0) (7)) (1) (14))) tB_152 rfl rfl) ?_
  refine Wl.pure (PR.build (ps := [(0, .agg (arrU .u8 2 (upd (upd (fun _ => 0) (0) (3)) (1) (5))).toArray), (1, .agg (arrU .u8 2 (upd (upd (fun _ => 0) (0) (3)) (1) (12))).toArray), (2, .agg (arrU .u8 2 (upd (upd (fun _ => 0) (0) (7)) (1) (3))).toArray), (3, .agg (arrU .u8 2 (upd (upd (fun _ => 0) (0) (7)) (1) (9))).toArray), (4, .agg (arrU .u8 2 (upd (upd (fun _ => 0) (0) (3)) (1) (7))).toArray), (5, .agg (arrU .u8 2 (upd (upd (fun _ => 0) (0) (9)) (1) (7))).toArray), (6, .agg (arrU .u8 2 (upd (upd (fun _ => 0) (0) (7)) (1) (7))).toArray), (7, .agg (arrU .u8 2 (upd (upd (fun _ => 0) (0) (7)) (1) (14))).toArray)]) (cs := recV 8 (fun i => [.int .u8 ((tbA i : Nat) : Int), .int .u8 ((tbB i : Nat) : Int)])) tB_153 rfl rfl) ?_
  refine Wl.alloc st tZ_153 rfl ?_
  clear st
  intro b8 w1 st
  refine Wl.storeA (i := 0) (cs' := recV 8 (fun i => [.int .u8 ((tbA i : Nat) : Int), .int .u8 ((tbB i : Nat) : Int)])) st tA_153 rfl rfl (recV_len (s := 2) (fun i => (rfl : ([Value.int .u8 ((tbA i : Nat) : Int), Value.int .u8 ((tbB i : Nat) : Int)] : List Value).length = 2)) _) (recV_one (fun i v hv => by simp only [List.mem_cons, List.not_mem_nil, or_false] at hv; rcases hv with rfl | rfl <;> rfl)) rfl (by simp) (all_put rfl) ?_
  clear st
  intro w2 st
  replace st : St [] w w2 [(b8, recV 8 (fun i => [.int .u8 ((tbA i : Nat) : Int), .int .u8 ((tbB i : Nat) : Int)]), 153)] := st
  refine Wl.nil ?_
  refine tn ?_
  refine Wc.seq ?_
  refine Wc.region rfl ?_
  refine Wl.pure (PR.assI rfl) ?_
  refine Wl.nil ?_
  refine tn ?_
  refine Wc.seq ?_
  refine Wc.seq ?_
  refine Wc.region rfl ?_
  refine Wl.pure (PR.moveB rfl) ?_
  refine Wl.pure (PR.moveB rfl) ?_
  refine Wl.pure (PR.moveB rfl) ?_
  refine Wl.buildSlice (ps := [(0, .bool (z)), (1, .bool (a)), (2, .bool (b))]) (cs := arrB 3 (fun i => [z, a, b].getD i false)) st tS_154 tZ_4 rfl rfl rfl ?_
  clear st
  intro b24 w3 st
  refine Wl.pure (PR.lenL tS_154 rfl) ?_
  refine Wl.pure (PR.moveI rfl) ?_
  refine Wl.nil ?_
  refine tn ?_
  refine Wc.block ?_
  refine Wc.loopF (γ := Nat × Nat) (fun g => [(6, .int .u8 (0)), (7, .int .u8 (0)), (8, .pointer (some ⟨b8, 0, none⟩)), (9, .int .i64 (((g.2 : Nat) : Int))), (24, .slice (some ⟨b24, 0, none⟩) (3) (3)), (25, .int .i64 (3)), (26, .int .i64 (((g.1 : Nat) : Int)))]) (fun g w_ => St [] w w_ [(b24, arrB 3 (fun i => [z, a, b].getD i false), 4), (b8, recV 8 (fun i => [.int .u8 ((tbA i : Nat) : Int), .int .u8 ((tbB i : Nat) : Int)]), 153)] ∧ (g.1 ≤ 3) ∧ (g.2 = cvT a b z g.1) ∧ (g.2 < 9223372036854775808)) (fun g => 3 - g.1) ?_ ?_
  · exact ⟨(0, 0), (.cons rfl (.cons rfl (.cons rfl (.cons rfl (.cons rfl (.cons rfl (.cons rfl (.nil _)))))))), st, (by first | omega | (dsimp only; omega)), rfl, (by decide)⟩
  clear st
  rintro ⟨k, v⟩ w4 ⟨st, hk, hv, hvb⟩
  try dsimp only at st hk hv hvb ⊢
  refine Wc.seq ?_
  refine Wc.region rfl ?_
  refine Wl.pure (PR.lss (a := ((k : Nat) : Int)) (b := 3) rfl rfl) ?_
  refine Wl.nil ?_
  refine tn ?_
  refine Wc.seq ?_
  refine Wc.condD (p := ((k : Nat) : Int) < 3) rfl (fun h5 => ?_) (fun h5 => ?_)
  · refine Wc.skip ?_
    refine tn ?_
    refine Wc.seq ?_
    refine Wc.block ?_
    refine Wc.seq ?_
    refine Wc.region rfl ?_
    refine Wl.pure (PR.moveI rfl) ?_
    refine Wl.pure (PR.idxAddrS1 (i := k) tS_154 rfl rfl (by omega)) ?_
    refine Wl.load (i := 0) st tA_4 rfl rfl (arrB_get0 (by omega)) ?_
    refine Wl.pure (PR.assI rfl) ?_
    refine Wl.pure (PR.assB rfl) ?_
    refine Wl.nil ?_
    refine tn ?_
    refine Wc.seq ?_
    refine Wc.region rfl ?_
    refine Wl.pure (PR.moveB rfl) ?_
    refine Wl.nil ?_
    refine tn ?_
    refine Wc.condB (b := (fun i => [z, a, b].getD i false) k) rfl (fun h6 => ?_) (fun h6 => ?_)
    · have hsk : 1 <<< k < 9223372036854775808 := by rcases (show k = 0 ∨ k = 1 ∨ k = 2 by omega) with rfl | rfl | rfl <;> decide
      refine Wc.region rfl ?_
      refine Wl.pure (PR.moveI rfl) ?_
      refine Wl.pure (PR.moveI rfl) ?_
      refine Wl.pure (PR.shlI (a := 1) (n := k) rfl rfl (by omega) (shl_lt (n := k) (m := 4) (by rcases (show k = 0 ∨ k = 1 ∨ k = 2 by omega) with rfl | rfl | rfl <;> decide))) ?_
      refine Wl.pure (PR.orI (a := v) (b := (1 <<< k)) rfl rfl hvb (by first | assumption | omega)) ?_
      refine Wl.pure (PR.assI rfl) ?_
      refine Wl.nil ?_
      refine bn ?_
      refine tn ?_
      refine Wc.region rfl ?_
      refine Wl.pure (PR.add (a := ((k : Nat) : Int)) (b := 1) rfl rfl (by simp only [fitI]; omega)) ?_
      refine Wl.pure (PR.moveI rfl) ?_
      refine Wl.nil ?_
      refine tn ?_
      exact ⟨(k + 1, (v ||| (1 <<< k))), (.cons rfl (.cons rfl (.cons rfl (.cons rfl (.cons rfl (.cons rfl (.cons rfl (.nil _)))))))), ⟨st, (by first | omega | (dsimp only; omega)), (by first | exact cvT_t hv (by assumption) | exact cvT_f hv (by assumption)), (by have := cvT_lt a b z (k := k + 1) (by omega); first | exact hvb | (rw [cvT_t hv (by assumption)]; omega))⟩, (by first | omega | (dsimp only; omega))⟩
    · refine Wc.skip ?_
      refine bn ?_
      refine tn ?_
      refine Wc.region rfl ?_
      refine Wl.pure (PR.add (a := ((k : Nat) : Int)) (b := 1) rfl rfl (by simp only [fitI]; omega)) ?_
      refine Wl.pure (PR.moveI rfl) ?_
      refine Wl.nil ?_
      refine tn ?_
      exact ⟨(k + 1, v), (.cons rfl (.cons rfl (.cons rfl (.cons rfl (.cons rfl (.cons rfl (.cons rfl (.nil _)))))))), ⟨st, (by first | omega | (dsimp only; omega)), (by first | exact cvT_t hv (by assumption) | exact cvT_f hv (by assumption)), (by have := cvT_lt a b z (k := k + 1) (by omega); first | exact hvb | (rw [cvT_t hv (by assumption)]; omega))⟩, (by first | omega | (dsimp only; omega))⟩
  · refine Wc.exit ?_
    refine tx ?_
    refine tx ?_
    refine bh ?_
    refine tn ?_
    refine Wc.seq ?_
    have hc8 := cvT_lt a b z hk
    refine Wc.quiet hmix (by kernel_rfl) rfl ?_
    refine Wq.pure (PR.moveI rfl) ?_
    refine Wq.pure (PR.idxAddrA (i := v) tE_153 rfl rfl (by omega)) ?_
    refine Wq.pure (PR.idxAddrA1 (i := 0) tE_152 rfl rfl (by omega)) ?_
    refine Wq.load (i := 1) st tA_5 rfl rfl (recV_get0 (n := 8) (i := v) (fun i => (rfl : ([Value.int .u8 ((tbA i : Nat) : Int), Value.int .u8 ((tbB i : Nat) : Int)] : List Value).length = 2)) (by omega) (rfl)) ?_
    refine Wq.pure (PR.moveI rfl) ?_
    refine Wq.pure (PR.idxAddrA (i := v) tE_153 rfl rfl (by omega)) ?_
    refine Wq.pure (PR.idxAddrA1 (i := 1) tE_152 rfl rfl (by omega)) ?_
    refine Wq.load (i := 1) st tA_5 rfl rfl (recV_get0 (n := 8) (i := v) (fun i => (rfl : ([Value.int .u8 ((tbA i : Nat) : Int), Value.int .u8 ((tbB i : Nat) : Int)] : List Value).length = 2)) (by omega) (rfl)) ?_
    refine Wq.pure (PR.assI rfl) ?_
    refine Wq.pure (PR.assI rfl) ?_
    refine Wq.nil (fun w7 hbel => ?_)
    replace st := st.call hbel
    clear hbel
    refine tn ?_
    refine Wc.ret ?_
    refine postL.tmp2 rfl rfl rfl ?_
    refine RetV.of ?_ st.below
    obtain rfl : k = 3 := by omega
    subst hv
    rw [(cv_end a b z).1, (cv_end a b z).2]

set_option maxHeartbeats 400000 in
set_option maxRecDepth 4000 in
theorem c_impl_CoverLayers_1 {b1 : Nat} {ob1 : Nat} {b2 : Nat} {ob2 : Nat} {b3 : Nat} {ob3 : Nat} {p : Nat} {q : Nat} {z : Nat} {k : Nat} {w : World} (h1 : RdA w b1 ob1 [.int .u64 ((p : Nat) : Int)]) (h2 : RdA w b2 ob2 [.int .u64 ((q : Nat) : Int)]) (h3 : RdA w b3 ob3 [.int .u64 ((z : Nat) : Int)]) (hp : p < 18446744073709551616) (hq : q < 18446744073709551616) (hz : z < 18446744073709551616) (hk : k < 64) :
    CE Try.prog 83 [.int .i64 (((k : Nat) : Int)), .pointer (some ⟨b1, ob1, none⟩), .pointer (some ⟨b2, ob2, none⟩), .pointer (some ⟨b3, ob3, none⟩)] w (RetXG w [] 5 1 (2) (arrU .u8 2 (covF p q z k)) (fun b_ c_ => .slice (some ⟨b_, 0, none⟩) (2) (c_)) []) := by
  refine CE.enter 24 [(0, .int .i64 (((k : Nat) : Int))), (1, .pointer (some ⟨b1, ob1, none⟩)), (2, .pointer (some ⟨b2, ob2, none⟩)), (3, .pointer (some ⟨b3, ob3, none⟩))] en_83 Try.func83 rfl rfl (Nat.le_of_ble_eq_true rfl) rfl ?_
  have st := St.start w
  refine Wc.seq ?_
  refine Wc.region rfl ?_
  refine Wl.pure (PR.assL rfl) ?_
  refine Wl.nil ?_
  refine tn ?_
  refine Wc.seq ?_
  refine Wc.quiet hmix (by kernel_rfl) rfl ?_
  refine Wq.loadC tA_27 rfl ((h1.st st).at_ (j := 0) (rfl) rfl) ?_
  refine Wq.pure (PR.moveI rfl) ?_
  refine Wq.callV (fun _ hbel => c_bit_impl (x := p) (k := k) hp (by first | assumption | omega)) rfl ?_
  refine Wq.loadC tA_27 rfl ((h2.st st).at_ (j := 0) (rfl) rfl) ?_
  refine Wq.pure (PR.moveI rfl) ?_
  refine Wq.callV (fun _ hbel => c_bit_impl (x := q) (k := k) hq (by first | assumption | omega)) rfl ?_
  refine Wq.loadC tA_27 rfl ((h3.st st).at_ (j := 0) (rfl) rfl) ?_
  refine Wq.pure (PR.moveI rfl) ?_
  refine Wq.callV (fun _ hbel => c_bit_impl (x := z) (k := k) hz (by first | assumption | omega)) rfl ?_
  refine Wq.callV (fun _ hbel => c_impl_coverCell (a := (bitB p k)) (b := (bitB q k)) (z := (bitB z k))) rfl ?_
  refine Wq.pure (PR.moveV (.tuple #[.int .u8 (((cvA (bitB p k) (bitB q k) (bitB z k) : Nat) : Int)), .int .u8 (((cvB (bitB p k) (bitB q k) (bitB z k) : Nat) : Int))]) rfl) ?_
  refine Wq.pure (PR.extr (i := 0) (vs := [.int .u8 (((cvA (bitB p k) (bitB q k) (bitB z k) : Nat) : Int)), .int .u8 (((cvB (bitB p k) (bitB q k) (bitB z k) : Nat) : Int))]) rfl rfl) ?_
  refine Wq.pure (PR.extr (i := 1) (vs := [.int .u8 (((cvA (bitB p k) (bitB q k) (bitB z k) : Nat) : Int)), .int .u8 (((cvB (bitB p k) (bitB q k) (bitB z k) : Nat) : Int))]) rfl rfl) ?_
  refine Wq.pure (PR.assI rfl) ?_
  refine Wq.pure (PR.assI rfl) ?_
  refine Wq.nil (fun w1 hbel => ?_)
  replace st := st.call hbel
  clear hbel
  refine tn ?_
  refine Wc.seq ?_
  refine Wc.region rfl ?_
  refine Wl.pure (PR.moveI rfl) ?_
  refine Wl.pure (PR.moveI rfl) ?_
  refine Wl.buildSlice (ps := [(0, .int .u8 (((cvA (bitB p k) (bitB q k) (bitB z k) : Nat) : Int))), (1, .int .u8 (((cvB (bitB p k) (bitB q k) (bitB z k) : Nat) : Int)))]) (cs := [.int .u8 (((cvA (bitB p k) (bitB q k) (bitB z k) : Nat) : Int)), .int .u8 (((cvB (bitB p k) (bitB q k) (bitB z k) : Nat) : Int))]) st tS_67 tZ_5 rfl rfl rfl ?_
  clear st
  intro b23 w2 st
  refine Wl.pure (PR.assL rfl) ?_
  refine Wl.nil ?_
  refine tn ?_
  refine Wc.ret ?_
  refine postL.tmp rfl rfl ?_
  replace st := st.nilapp
  exact ⟨b23, 2, ([]), (Nat.le_refl _), (by simp), rfl, st⟩

set_option maxHeartbeats 400000 in
set_option maxRecDepth 4000 in
theorem c_impl_CoverLayers {p : Nat} {q : Nat} {z : Nat} {x : Nat} {w : World} (hp : p < 18446744073709551616) (hq : q < 18446744073709551616) (hz : z < 18446744073709551616) (hx : x < 4294967296) :
    CE Try.prog 30 [.int .u64 (((p : Nat) : Int)), .int .u64 (((q : Nat) : Int)), .int .u64 (((z : Nat) : Int)), .int .u32 (((x : Nat) : Int))] w (RetV w (.tuple #[.agg (layV (4) ((dwC (covF p q z) 4 x 0))).toArray, .agg (layV (4) ((dwC (covF p q z) 4 x 1))).toArray, .int .u32 (((sdK 4 x 64 : Nat) : Int))])) := by
  refine CE.enter 21 [(0, .int .u64 (((p : Nat) : Int))), (1, .int .u64 (((q : Nat) : Int))), (2, .int .u64 (((z : Nat) : Int))), (3, .int .u32 (((x : Nat) : Int)))] en_30 Try.func30 rfl rfl (Nat.le_of_ble_eq_true rfl) rfl ?_
  have st := St.start w
  refine Wc.seq ?_
  refine Wc.region rfl ?_
  refine Wl.boxI st rfl ?_
  clear st
  intro b4 w1 st
  refine Wl.boxI st rfl ?_
  clear st
  intro b5 w2 st
  refine Wl.boxI st rfl ?_
  clear st
  intro b6 w3 st
  refine Wl.boxI st rfl ?_
  clear st
  intro b7 w4 st
  refine Wl.alloc st tZ_30 rfl ?_
  clear st
  intro b8 w5 st
  refine Wl.alloc st tZ_30 rfl ?_
  clear st
  intro b9 w6 st
  refine Wl.pure (PR.assI rfl) ?_
  refine Wl.nil ?_
  refine tn ?_
  refine Wc.seq ?_
  refine Wc.region rfl ?_
  refine Wl.pure (PR.mkFunc (vs := [.pointer (some ⟨b4, 0, none⟩), .pointer (some ⟨b5, 0, none⟩), .pointer (some ⟨b6, 0, none⟩)]) rfl) ?_
  refine Wl.callXG [2] st (c_impl_drawn (bs := b7) (x := x) (n := 4) (fk := 83) (cap := [.pointer (some ⟨b4, 0, none⟩), .pointer (some ⟨b5, 0, none⟩), .pointer (some ⟨b6, 0, none⟩)]) (m := 2) (f := (covF p q z)) hx (by first | assumption | omega) (by first | assumption | omega) (covF_lt p q z) (fun i hi w' hfr => c_impl_CoverLayers_1 (st.rdF (i := 5) (j := 2) rfl rfl (by decide) hfr) (st.rdF (i := 4) (j := 2) rfl rfl (by decide) hfr) (st.rdF (i := 3) (j := 2) rfl rfl (by decide) hfr) hp hq hz hi) (st.lend (L' := [(b7, [.int .u32 (((x : Nat) : Int))], 38)]) [2] (by decide) rfl)) rfl rfl ?_
  clear st
  intro b13 c13 sp13 w7 hc13 hs13 st
  replace st : St [] w w7 [(b13, layS 2 (fun _ => ((4 : Nat) : Int)) (dwC (covF p q z) 4 x) ++ sp13, 30), (b7, [.int .u32 (((sdK 4 x 64 : Nat) : Int))], 38), (b9, layV (0) ((fun _ => 0)), 30), (b8, layV (0) ((fun _ => 0)), 30), (b6, [.int .u64 (((z : Nat) : Int))], 27), (b5, [.int .u64 (((q : Nat) : Int))], 27), (b4, [.int .u64 (((p : Nat) : Int))], 27)] := st
  refine Wl.pure (PR.assL rfl) ?_
  refine Wl.nil ?_
  refine tn ?_
  refine Wc.seq ?_
  refine Wc.tree1 (w0 := w) (X := []) (Ks := [b13, b7]) (S := fun i => i == 7 || i == 8) (.st 0 0 (.st 1 0 (.st 3 0 (.st 4 0 (.st 2 1 (.st 5 3 (.st 6 3 (.st 7 2 (.st 8 2 (.st 9 0 PT.nil)))))))))) hmix (by kernel_rfl) (by kernel_rfl) rfl rfl ?_
  intro w8 hbel
  replace st := st.call hbel
  clear hbel
  refine WT.pure rfl (PR.moveL rfl) ?_
  refine WT.pure rfl (PR.idxAddrS (i := 0) tS_99 rfl rfl (by omega)) ?_
  refine WT.pure rfl (PR.moveL rfl) ?_
  refine WT.pure rfl (PR.idxAddrS (i := 1) tS_99 rfl rfl (by omega)) ?_
  refine WT.loadA1 (j := 0) (vs := layV ((fun _ => ((4 : Nat) : Int)) 0) (((dwC (covF p q z) 4 x) 0))) rfl st tA_30 rfl rfl (app_sub (recV_sub0 (n := 2) (i := 0) (layS_row _ _) (by omega)) (recV_tot (n := 2) (i := 0) (layS_row _ _) (by omega))) layV_len ?_
  refine WT.loadA (j := 0) (vs := layV ((fun _ => ((4 : Nat) : Int)) 1) (((dwC (covF p q z) 4 x) 1))) rfl (by simp) st tA_30 rfl rfl (app_sub (recV_sub0 (n := 2) (i := 1) (layS_row _ _) (by omega)) (recV_tot (n := 2) (i := 1) (layS_row _ _) (by omega))) layV_len ?_
  refine WT.load (j := 1) rfl (by simp) st tA_38 rfl rfl (rfl) ?_
  have st0 := st
  refine WT.s rfl rfl ?_
  refine Wl.storeA (i := 3) (cs' := layV ((fun _ => ((4 : Nat) : Int)) 0) (((dwC (covF p q z) 4 x) 0))) st tA_30 rfl rfl layV_len layV_one rfl (le_of_len layV_len (by omega)) (all_put layV_len) ?_
  clear st
  intro w9 st
  replace st : St [] w w9 [(b13, layS 2 (fun _ => ((4 : Nat) : Int)) (dwC (covF p q z) 4 x) ++ sp13, 30), (b7, [.int .u32 (((sdK 4 x 64 : Nat) : Int))], 38), (b9, layV (0) ((fun _ => 0)), 30), (b8, layV ((fun _ => ((4 : Nat) : Int)) 0) (((dwC (covF p q z) 4 x) 0)), 30), (b6, [.int .u64 (((z : Nat) : Int))], 27), (b5, [.int .u64 (((q : Nat) : Int))], 27), (b4, [.int .u64 (((p : Nat) : Int))], 27)] := st
  refine Wl.nil ⟨rfl, RK.of st0 st (ksC (i := 0) (j := 0) rfl rfl rfl (ksC (i := 1) (j := 1) rfl rfl rfl ksN)), ?_⟩
  clear st0
  have st0 := st
  refine WT.s rfl rfl ?_
  refine Wl.storeA (i := 2) (cs' := layV ((fun _ => ((4 : Nat) : Int)) 1) (((dwC (covF p q z) 4 x) 1))) st tA_30 rfl rfl layV_len layV_one rfl (le_of_len layV_len (by omega)) (all_put layV_len) ?_
  clear st
  intro w10 st
  replace st : St [] w w10 [(b13, layS 2 (fun _ => ((4 : Nat) : Int)) (dwC (covF p q z) 4 x) ++ sp13, 30), (b7, [.int .u32 (((sdK 4 x 64 : Nat) : Int))], 38), (b9, layV ((fun _ => ((4 : Nat) : Int)) 1) (((dwC (covF p q z) 4 x) 1)), 30), (b8, layV ((fun _ => ((4 : Nat) : Int)) 0) (((dwC (covF p q z) 4 x) 0)), 30), (b6, [.int .u64 (((z : Nat) : Int))], 27), (b5, [.int .u64 (((q : Nat) : Int))], 27), (b4, [.int .u64 (((p : Nat) : Int))], 27)] := st
  refine Wl.nil ⟨rfl, RK.of st0 st (ksC (i := 0) (j := 0) rfl rfl rfl (ksC (i := 1) (j := 1) rfl rfl rfl ksN)), ?_⟩
  clear st0
  refine WT.pure rfl (PR.assI rfl) ?_
  refine WT.nil ?_
  refine tn ?_
  refine Wc.ret ?_
  refine postL.many (rvs := [.cell 8 30, .cell 9 30, .tmp 10]) rfl (.cell (us := layV ((fun _ => ((4 : Nat) : Int)) 0) (((dwC (covF p q z) 4 x) 0))) tA_30 rfl layV_len (st.rdA (i := 3) (n := 65) rfl (all_sub layV_len)) (.cell (us := layV ((fun _ => ((4 : Nat) : Int)) 1) (((dwC (covF p q z) 4 x) 1))) tA_30 rfl layV_len (st.rdA (i := 2) (n := 65) rfl (all_sub layV_len)) (.tmp (v := .int .u32 (((sdK 4 x 64 : Nat) : Int))) rfl .nil))) ?_
  refine RetV.of ?_ st.below
  rfl

set_option maxHeartbeats 400000 in
set_option maxRecDepth 4000 in
theorem c_spec_CoverLayers {p : Nat} {q : Nat} {z : Nat} {x : Nat} {w : World} (hp : p < 18446744073709551616) (hq : q < 18446744073709551616) (hz : z < 18446744073709551616) (hx : x < 4294967296) :
    CE Try.prog 29 [.int .u64 (((p : Nat) : Int)), .int .u64 (((q : Nat) : Int)), .int .u64 (((z : Nat) : Int)), .int .u32 (((x : Nat) : Int))] w (RetV w (.tuple #[.agg (layV (4) ((dwC (covF p q z) 4 x 0))).toArray, .agg (layV (4) ((dwC (covF p q z) 4 x 1))).toArray, .int .u32 (((sdK 4 x 64 : Nat) : Int))])) := by
  refine CE.enter 58 [(0, .int .u64 (((p : Nat) : Int))), (1, .int .u64 (((q : Nat) : Int))), (2, .int .u64 (((z : Nat) : Int))), (3, .int .u32 (((x : Nat) : Int)))] en_29 Try.func29 rfl rfl (Nat.le_of_ble_eq_true rfl) rfl ?_
  have st := St.start w
  refine Wc.seq ?_
  refine Wc.region rfl ?_
  refine Wl.alloc st tZ_30 rfl ?_
  clear st
  intro b8 w1 st
  refine Wl.alloc st tZ_30 rfl ?_
  clear st
  intro b9 w2 st
  refine Wl.pure (PR.assI rfl) ?_
  refine Wl.nil ?_
  refine tn ?_
  refine Wc.seq ?_
  refine Wc.region rfl ?_
  refine Wl.pure (PR.moveI rfl) ?_
  refine Wl.makeSlice (n := 2) st tS_99 tZ_30 rfl rfl rfl (by omega) (by omega) ?_
  clear st
  intro b16 w3 st
  replace st : St [] w w3 [(b16, layS 2 (fun _ => 0) (fun _ _ => 0), 30), (b9, layV (0) ((fun _ => 0)), 30), (b8, layV (0) ((fun _ => 0)), 30)] := st
  refine Wl.pure (PR.build (ps := [(0, .int .u32 (((x : Nat) : Int))), (1, .int .i8 (4)), (2, .slice (some ⟨b16, 0, none⟩) (2) (2))]) (cs := [.int .u32 (((x : Nat) : Int)), .int .i8 (4), .slice (some ⟨b16, 0, none⟩) (2) (2)]) tB_109 rfl rfl) ?_
  refine Wl.boxA st rfl ?_
  clear st
  intro b18 w4 st
  refine Wl.pure (PR.assP rfl) ?_
  refine Wl.nil ?_
  refine tn ?_
  refine Wc.seq ?_
  refine Wc.seq ?_
  refine Wc.region rfl ?_
  refine Wl.pure (PR.assI rfl) ?_
  refine Wl.nil ?_
  refine tn ?_
  refine Wc.block ?_
  refine Wc.loopF (γ := Nat × (Nat → Int) × (Nat → Nat → Nat)) (fun g => [(0, .int .u64 (((p : Nat) : Int))), (1, .int .u64 (((q : Nat) : Int))), (2, .int .u64 (((z : Nat) : Int))), (8, .pointer (some ⟨b8, 0, none⟩)), (9, .pointer (some ⟨b9, 0, none⟩)), (10, .int .u32 (0)), (11, .pointer (some ⟨b18, 0, none⟩)), (12, .int .i64 (((g.1 : Nat) : Int)))]) (fun g w_ => St [] w w_ [(b18, [.int .u32 (((sdK 4 x g.1 : Nat) : Int)), .int .i8 (4), .slice (some ⟨b16, 0, none⟩) (2) (2)], 109), (b16, layS 2 g.2.1 g.2.2, 30), (b9, layV (0) ((fun _ => 0)), 30), (b8, layV (0) ((fun _ => 0)), 30)] ∧ (g.1 ≤ 64) ∧ (∀ u v, g.2.2 u v < 256) ∧ (0 < g.1 → ∀ u, u < 2 → g.2.1 u = 4) ∧ (∀ u, u < 2 → ∀ v, v < g.1 → g.2.2 u v = dwC (covF p q z) 4 x u v)) (fun g => 64 - g.1) ?_ ?_
  · exact ⟨(0, (fun _ => 0), (fun _ _ => 0)), (.cons rfl (.cons rfl (.cons rfl (.cons rfl (.cons rfl (.cons rfl (.cons rfl (.cons rfl (.nil _))))))))), st, (by first | omega | (dsimp only; omega)), (fun _ _ => by dsimp only; decide), (fun h => absurd h (by decide)), (fun u hu v hv => by omega)⟩
  clear st
  rintro ⟨k, pp, cc⟩ w5 ⟨st, hk, hcc, hpp, hg⟩
  try dsimp only at st hk hcc hpp hg ⊢
  refine Wc.seq ?_
  refine Wc.seq ?_
  refine Wc.region rfl ?_
  refine Wl.pure (PR.moveI rfl) ?_
  refine Wl.pure (PR.lss (a := ((k : Nat) : Int)) (b := 64) rfl rfl) ?_
  refine Wl.nil ?_
  refine tn ?_
  refine Wc.condD (p := ((k : Nat) : Int) < 64) rfl (fun h6 => ?_) (fun h6 => ?_)
  · refine Wc.skip ?_
    refine tn ?_
    refine Wc.seq ?_
    refine Wc.block ?_
    refine Wc.seq ?_
    refine Wc.region rfl ?_
    refine Wl.pure (PR.moveI rfl) ?_
    refine Wl.pure (PR.moveI rfl) ?_
    refine Wl.callV (c_bit_pec (x := p) (k := k) hp (by first | assumption | omega)) rfl ?_
    intro w7 hbel
    replace st := st.call hbel
    clear hbel
    refine Wl.pure (PR.moveI rfl) ?_
    refine Wl.pure (PR.moveI rfl) ?_
    refine Wl.callV (c_bit_pec (x := q) (k := k) hq (by first | assumption | omega)) rfl ?_
    intro w8 hbel
    replace st := st.call hbel
    clear hbel
    refine Wl.pure (PR.moveI rfl) ?_
    refine Wl.pure (PR.moveI rfl) ?_
    refine Wl.callV (c_bit_pec (x := z) (k := k) hz (by first | assumption | omega)) rfl ?_
    intro w9 hbel
    replace st := st.call hbel
    clear hbel
    refine Wl.callV (c_spec_l05Cover (a := (bitB p k)) (b := (bitB q k)) (z := (bitB z k))) rfl ?_
    intro w10 hbel
    replace st := st.call hbel
    clear hbel
    refine Wl.pure (PR.moveV (.tuple #[.int .u8 (((cvA (bitB p k) (bitB q k) (bitB z k) : Nat) : Int)), .int .u8 (((cvB (bitB p k) (bitB q k) (bitB z k) : Nat) : Int))]) rfl) ?_
    refine Wl.pure (PR.extr (i := 0) (vs := [.int .u8 (((cvA (bitB p k) (bitB q k) (bitB z k) : Nat) : Int)), .int .u8 (((cvB (bitB p k) (bitB q k) (bitB z k) : Nat) : Int))]) rfl rfl) ?_
    refine Wl.pure (PR.extr (i := 1) (vs := [.int .u8 (((cvA (bitB p k) (bitB q k) (bitB z k) : Nat) : Int)), .int .u8 (((cvB (bitB p k) (bitB q k) (bitB z k) : Nat) : Int))]) rfl rfl) ?_
    refine Wl.pure (PR.assI rfl) ?_
    refine Wl.pure (PR.assI rfl) ?_
    refine Wl.nil ?_
    refine tn ?_
    refine Wc.region rfl ?_
    refine Wl.pure (PR.moveP rfl) ?_
    refine Wl.pure (PR.moveI rfl) ?_
    refine Wl.pure (PR.moveI rfl) ?_
    refine Wl.pure (PR.moveI rfl) ?_
    refine Wl.buildSlice (ps := [(0, .int .u8 (((cvA (bitB p k) (bitB q k) (bitB z k) : Nat) : Int))), (1, .int .u8 (((cvB (bitB p k) (bitB q k) (bitB z k) : Nat) : Int)))]) (cs := [.int .u8 (((cvA (bitB p k) (bitB q k) (bitB z k) : Nat) : Int)), .int .u8 (((cvB (bitB p k) (bitB q k) (bitB z k) : Nat) : Int))]) st tS_67 tZ_5 rfl rfl rfl ?_
    clear st
    intro b40 w11 st
    refine Wl.callX [1, 2, 0] st (c_spec_l05Maker_add (bm := b18) (bl := b16) (br := b40) (x := sdK 4 x k) (n := 4) (q := 2) (cl := 2) (cr := 2) (pp := pp) (cc := cc) (v := (fun z_ => [cvA (bitB p k) (bitB q k) (bitB z k), cvB (bitB p k) (bitB q k) (bitB z k)].getD z_ 0)) (k := k) (sdK_lt hx k) (by first | assumption | omega) (by first | assumption | omega) hcc (nat_lt2 (cvA_lt _ _ _) (cvB_lt _ _ _)) (by first | assumption | omega) (st.lend (L' := [(b18, [.int .u32 (((sdK 4 x k : Nat) : Int)), .int .i8 (4), .slice (some ⟨b16, 0, none⟩) (2) (2)], 109), (b16, layS 2 pp cc, 30), (b40, [.int .u8 (((cvA (bitB p k) (bitB q k) (bitB z k) : Nat) : Int)), .int .u8 (((cvB (bitB p k) (bitB q k) (bitB z k) : Nat) : Int))], 5)]) [1, 2, 0] (by decide) rfl)) rfl rfl ?_
    clear st
    intro w12 st
    replace st : St [] w w12 [(b18, [.int .u32 (((xOf 4 (sdK 4 x k) : Nat) : Int)), .int .i8 (4), .slice (some ⟨b16, 0, none⟩) (2) (2)], 109), (b16, layS 2 (setP pp 2 ((4 : Nat) : Int)) (setC cc 2 k (fun u => rdF ((fun z_ => [cvA (bitB p k) (bitB q k) (bitB z k), cvB (bitB p k) (bitB q k) (bitB z k)].getD z_ 0) u) (oOf 4 (sdK 4 x k)) 4)), 30), (b40, arrU .u8 2 (fun z_ => [cvA (bitB p k) (bitB q k) (bitB z k), cvB (bitB p k) (bitB q k) (bitB z k)].getD z_ 0), 5), (b9, layV (0) ((fun _ => 0)), 30), (b8, layV (0) ((fun _ => 0)), 30)] := st
    refine Wl.nil ?_
    refine bn ?_
    refine tn ?_
    refine Wc.region rfl ?_
    refine Wl.pure (PR.moveI rfl) ?_
    refine Wl.pure (PR.add (a := ((k : Nat) : Int)) (b := 1) rfl rfl (by simp only [fitI]; omega)) ?_
    refine Wl.pure (PR.assI rfl) ?_
    refine Wl.nil ?_
    refine tn ?_
    replace st : St [] w w12 [(b18, [.int .u32 (((xOf 4 (sdK 4 x k) : Nat) : Int)), .int .i8 (4), .slice (some ⟨b16, 0, none⟩) (2) (2)], 109), (b16, layS 2 (setP pp 2 ((4 : Nat) : Int)) (setC cc 2 k (fun u => rdF ((fun z_ => [cvA (bitB p k) (bitB q k) (bitB z k), cvB (bitB p k) (bitB q k) (bitB z k)].getD z_ 0) u) (oOf 4 (sdK 4 x k)) 4)), 30), (b9, layV (0) ((fun _ => 0)), 30), (b8, layV (0) ((fun _ => 0)), 30)] := st.pick [0, 1, 3, 4] (by decide) rfl
    exact ⟨(k + 1, (setP pp 2 ((4 : Nat) : Int)), (setC cc 2 k (fun u => rdF ((fun z_ => [cvA (bitB p k) (bitB q k) (bitB z k), cvB (bitB p k) (bitB q k) (bitB z k)].getD z_ 0) u) (oOf 4 (sdK 4 x k)) 4))), (.cons rfl (.cons rfl (.cons rfl (.cons rfl (.cons rfl (.cons rfl (.cons rfl (.cons rfl (.nil _))))))))), ⟨st, (by first | omega | (dsimp only; omega)), (setC_lt hcc (fun _ => rdF_lt _ _ _) _ _), (fun _ => setP_next), (setC_next hg (fun u hu => rfl))⟩, (by first | omega | (dsimp only; omega))⟩
  · refine Wc.exit ?_
    refine tx ?_
    refine tx ?_
    refine bh ?_
    refine tn ?_
    refine Wc.seq ?_
    refine Wc.tree1 (w0 := w) (X := []) (Ks := [b18, b16]) (S := fun i => i == 16 || i == 17) (.st 0 0 (.st 1 0 (.st 2 0 (.st 6 0 (.st 7 0 (.st 8 0 (.st 12 0 (.st 13 0 (.st 14 0 (.st 3 1 (.st 4 0 (.st 5 1 (.st 9 3 (.st 10 0 (.st 11 3 (.st 15 3 (.st 16 2 (.st 17 2 (.st 18 0 PT.nil))))))))))))))))))) hmix (by kernel_rfl) (by kernel_rfl) rfl rfl ?_
    intro w13 hbel
    replace st := st.call hbel
    clear hbel
    refine WT.pure rfl (PR.moveP rfl) ?_
    refine WT.pure rfl (PR.nil_ rfl) ?_
    refine WT.pure rfl (PR.fieldAddr tF_109_2 rfl) ?_
    refine WT.pure rfl (PR.moveP rfl) ?_
    refine WT.pure rfl (PR.nil_ rfl) ?_
    refine WT.pure rfl (PR.fieldAddr tF_109_2 rfl) ?_
    refine WT.pure rfl (PR.moveP rfl) ?_
    refine WT.pure rfl (PR.nil_ rfl) ?_
    refine WT.pure rfl (PR.fieldAddr tF_109_0 rfl) ?_
    refine WT.load1 (j := 0) rfl st tA_99 rfl rfl (rfl) ?_
    refine WT.pure rfl (PR.idxAddrS (i := 0) tS_99 rfl rfl (by omega)) ?_
    refine WT.loadA1 (j := 1) (vs := layV (pp 0) ((cc 0))) rfl st tA_30 rfl rfl (recV_sub0 (n := 2) (i := 0) (layS_row _ _) (by omega)) layV_len ?_
    refine WT.load (j := 0) rfl (by simp) st tA_99 rfl rfl (rfl) ?_
    refine WT.pure rfl (PR.idxAddrS (i := 1) tS_99 rfl rfl (by omega)) ?_
    refine WT.loadA (j := 1) (vs := layV (pp 1) ((cc 1))) rfl (by simp) st tA_30 rfl rfl (recV_sub0 (n := 2) (i := 1) (layS_row _ _) (by omega)) layV_len ?_
    refine WT.load (j := 0) rfl (by simp) st tA_38 rfl rfl (rfl) ?_
    have st0 := st
    refine WT.s rfl rfl ?_
    refine Wl.storeA (i := 3) (cs' := layV (pp 0) ((cc 0))) st tA_30 rfl rfl layV_len layV_one rfl (le_of_len layV_len (by omega)) (all_put layV_len) ?_
    clear st
    intro w14 st
    replace st : St [] w w14 [(b18, [.int .u32 (((sdK 4 x k : Nat) : Int)), .int .i8 (4), .slice (some ⟨b16, 0, none⟩) (2) (2)], 109), (b16, layS 2 pp cc, 30), (b9, layV (0) ((fun _ => 0)), 30), (b8, layV (pp 0) ((cc 0)), 30)] := st
    refine Wl.nil ⟨rfl, RK.of st0 st (ksC (i := 0) (j := 0) rfl rfl rfl (ksC (i := 1) (j := 1) rfl rfl rfl ksN)), ?_⟩
    clear st0
    have st0 := st
    refine WT.s rfl rfl ?_
    refine Wl.storeA (i := 2) (cs' := layV (pp 1) ((cc 1))) st tA_30 rfl rfl layV_len layV_one rfl (le_of_len layV_len (by omega)) (all_put layV_len) ?_
    clear st
    intro w15 st
    replace st : St [] w w15 [(b18, [.int .u32 (((sdK 4 x k : Nat) : Int)), .int .i8 (4), .slice (some ⟨b16, 0, none⟩) (2) (2)], 109), (b16, layS 2 pp cc, 30), (b9, layV (pp 1) ((cc 1)), 30), (b8, layV (pp 0) ((cc 0)), 30)] := st
    refine Wl.nil ⟨rfl, RK.of st0 st (ksC (i := 0) (j := 0) rfl rfl rfl (ksC (i := 1) (j := 1) rfl rfl rfl ksN)), ?_⟩
    clear st0
    refine WT.pure rfl (PR.assI rfl) ?_
    refine WT.nil ?_
    refine tn ?_
    refine Wc.ret ?_
    refine postL.many (rvs := [.cell 8 30, .cell 9 30, .tmp 10]) rfl (.cell (us := layV (pp 0) ((cc 0))) tA_30 rfl layV_len (st.rdA (i := 3) (n := 65) rfl (all_sub layV_len)) (.cell (us := layV (pp 1) ((cc 1))) tA_30 rfl layV_len (st.rdA (i := 2) (n := 65) rfl (all_sub layV_len)) (.tmp (v := .int .u32 (((sdK 4 x k : Nat) : Int))) rfl .nil))) ?_
    refine RetV.of ?_ st.below
    obtain rfl : k = 64 := by omega
    exact tup_3 (layV_eq (hpp (by decide) 0 (by decide)) (hg 0 (by decide))) (layV_eq (hpp (by decide) 1 (by decide)) (hg 1 (by decide))) rfl

set_option maxHeartbeats 400000 in
set_option maxRecDepth 4000 in
theorem c_laws_FnExactCoverLayers {p : Nat} {q : Nat} {z : Nat} {x : Nat} {w : World} (hp : p < 18446744073709551616) (hq : q < 18446744073709551616) (hz : z < 18446744073709551616) (hx : x < 4294967296) :
    CE Try.prog 8 [.int .u64 (((p : Nat) : Int)), .int .u64 (((q : Nat) : Int)), .int .u64 (((z : Nat) : Int)), .int .u32 (((x : Nat) : Int))] w (RetV w (.bool true)) := by
  refine CE.enter 48 [(0, .int .u64 (((p : Nat) : Int))), (1, .int .u64 (((q : Nat) : Int))), (2, .int .u64 (((z : Nat) : Int))), (3, .int .u32 (((x : Nat) : Int)))] en_8 Try.func8 rfl rfl (Nat.le_of_ble_eq_true rfl) rfl ?_
  have st := St.start w
  refine Wc.seq ?_
  refine Wc.region rfl ?_
  refine Wl.pure (PR.assB rfl) ?_
  refine Wl.nil ?_
  refine tn ?_
  refine Wc.seq ?_
  refine Wc.region rfl ?_
  refine Wl.pure (PR.moveI rfl) ?_
  refine Wl.pure (PR.moveI rfl) ?_
  refine Wl.pure (PR.moveI rfl) ?_
  refine Wl.pure (PR.moveI rfl) ?_
  refine Wl.callV (c_spec_CoverLayers (p := p) (q := q) (z := z) (x := x) hp hq hz hx) rfl ?_
  intro w1 hbel
  replace st := st.call hbel
  clear hbel
  refine Wl.pure (PR.moveV (.tuple #[.agg (layV (4) ((dwC (covF p q z) 4 x 0))).toArray, .agg (layV (4) ((dwC (covF p q z) 4 x 1))).toArray, .int .u32 (((sdK 4 x 64 : Nat) : Int))]) rfl) ?_
  refine Wl.pure (PR.extr (i := 0) (vs := [.agg (layV (4) ((dwC (covF p q z) 4 x 0))).toArray, .agg (layV (4) ((dwC (covF p q z) 4 x 1))).toArray, .int .u32 (((sdK 4 x 64 : Nat) : Int))]) rfl rfl) ?_
  refine Wl.pure (PR.extr (i := 1) (vs := [.agg (layV (4) ((dwC (covF p q z) 4 x 0))).toArray, .agg (layV (4) ((dwC (covF p q z) 4 x 1))).toArray, .int .u32 (((sdK 4 x 64 : Nat) : Int))]) rfl rfl) ?_
  refine Wl.pure (PR.extr (i := 2) (vs := [.agg (layV (4) ((dwC (covF p q z) 4 x 0))).toArray, .agg (layV (4) ((dwC (covF p q z) 4 x 1))).toArray, .int .u32 (((sdK 4 x 64 : Nat) : Int))]) rfl rfl) ?_
  refine Wl.alloc st tZ_30 rfl ?_
  clear st
  intro b9 w2 st
  refine Wl.alloc st tZ_30 rfl ?_
  clear st
  intro b10 w3 st
  refine Wl.storeA (i := 1) (cs' := layV (4) ((dwC (covF p q z) 4 x 0))) st tA_30 rfl rfl layV_len layV_one rfl (le_of_len layV_len (by omega)) (all_put layV_len) ?_
  clear st
  intro w4 st
  replace st : St [] w w4 [(b10, layV (0) ((fun _ => 0)), 30), (b9, layV (4) ((dwC (covF p q z) 4 x 0)), 30)] := st
  refine Wl.storeA (i := 0) (cs' := layV (4) ((dwC (covF p q z) 4 x 1))) st tA_30 rfl rfl layV_len layV_one rfl (le_of_len layV_len (by omega)) (all_put layV_len) ?_
  clear st
  intro w5 st
  replace st : St [] w w5 [(b10, layV (4) ((dwC (covF p q z) 4 x 1)), 30), (b9, layV (4) ((dwC (covF p q z) 4 x 0)), 30)] := st
  refine Wl.pure (PR.assI rfl) ?_
  refine Wl.nil ?_
  refine tn ?_
  refine Wc.seq ?_
  refine Wc.region rfl ?_
  refine Wl.pure (PR.moveI rfl) ?_
  refine Wl.pure (PR.moveI rfl) ?_
  refine Wl.pure (PR.moveI rfl) ?_
  refine Wl.pure (PR.moveI rfl) ?_
  refine Wl.callV (c_impl_CoverLayers (p := p) (q := q) (z := z) (x := x) hp hq hz hx) rfl ?_
  intro w6 hbel
  replace st := st.call hbel
  clear hbel
  refine Wl.pure (PR.moveV (.tuple #[.agg (layV (4) ((dwC (covF p q z) 4 x 0))).toArray, .agg (layV (4) ((dwC (covF p q z) 4 x 1))).toArray, .int .u32 (((sdK 4 x 64 : Nat) : Int))]) rfl) ?_
  refine Wl.pure (PR.extr (i := 0) (vs := [.agg (layV (4) ((dwC (covF p q z) 4 x 0))).toArray, .agg (layV (4) ((dwC (covF p q z) 4 x 1))).toArray, .int .u32 (((sdK 4 x 64 : Nat) : Int))]) rfl rfl) ?_
  refine Wl.pure (PR.extr (i := 1) (vs := [.agg (layV (4) ((dwC (covF p q z) 4 x 0))).toArray, .agg (layV (4) ((dwC (covF p q z) 4 x 1))).toArray, .int .u32 (((sdK 4 x 64 : Nat) : Int))]) rfl rfl) ?_
  refine Wl.pure (PR.extr (i := 2) (vs := [.agg (layV (4) ((dwC (covF p q z) 4 x 0))).toArray, .agg (layV (4) ((dwC (covF p q z) 4 x 1))).toArray, .int .u32 (((sdK 4 x 64 : Nat) : Int))]) rfl rfl) ?_
  refine Wl.alloc st tZ_30 rfl ?_
  clear st
  intro b12 w7 st
  refine Wl.alloc st tZ_30 rfl ?_
  clear st
  intro b13 w8 st
  refine Wl.storeA (i := 1) (cs' := layV (4) ((dwC (covF p q z) 4 x 0))) st tA_30 rfl rfl layV_len layV_one rfl (le_of_len layV_len (by omega)) (all_put layV_len) ?_
  clear st
  intro w9 st
  replace st : St [] w w9 [(b13, layV (0) ((fun _ => 0)), 30), (b12, layV (4) ((dwC (covF p q z) 4 x 0)), 30), (b10, layV (4) ((dwC (covF p q z) 4 x 1)), 30), (b9, layV (4) ((dwC (covF p q z) 4 x 0)), 30)] := st
  refine Wl.storeA (i := 0) (cs' := layV (4) ((dwC (covF p q z) 4 x 1))) st tA_30 rfl rfl layV_len layV_one rfl (le_of_len layV_len (by omega)) (all_put layV_len) ?_
  clear st
  intro w10 st
  replace st : St [] w w10 [(b13, layV (4) ((dwC (covF p q z) 4 x 1)), 30), (b12, layV (4) ((dwC (covF p q z) 4 x 0)), 30), (b10, layV (4) ((dwC (covF p q z) 4 x 1)), 30), (b9, layV (4) ((dwC (covF p q z) 4 x 0)), 30)] := st
  refine Wl.pure (PR.assI rfl) ?_
  refine Wl.nil ?_
  refine tn ?_
  refine Wc.seq ?_
  refine Wc.seq ?_
  refine Wc.region rfl ?_
  refine Wl.loadA (i := 1) st tA_30 rfl rfl (all_sub layV_len) layV_len ?_
  refine Wl.loadA (i := 3) st tA_30 rfl rfl (all_sub layV_len) layV_len ?_
  refine Wl.callV (c_laws_eqLayer (p := 4) (c := (dwC (covF p q z) 4 x 0))) rfl ?_
  intro w11 hbel
  replace st := st.call hbel
  clear hbel
  refine Wl.pure (PR.not_ rfl) ?_
  refine Wl.pure (PR.moveB rfl) ?_
  refine Wl.on rfl rfl ?_
  refine Wl.loadA (i := 0) st tA_30 rfl rfl (all_sub layV_len) layV_len ?_
  refine Wl.on rfl rfl ?_
  refine Wl.loadA (i := 2) st tA_30 rfl rfl (all_sub layV_len) layV_len ?_
  refine Wl.on rfl rfl ?_
  refine Wl.callV (c_laws_eqLayer (p := 4) (c := (dwC (covF p q z) 4 x 1))) rfl ?_
  intro w12 hbel
  replace st := st.call hbel
  clear hbel
  refine Wl.on rfl rfl ?_
  refine Wl.pure (PR.not_ rfl) ?_
  refine Wl.pure (PR.pickFB rfl rfl) ?_
  refine Wl.pure (PR.moveB rfl) ?_
  refine Wl.on rfl rfl ?_
  refine Wl.pure (PR.moveI rfl) ?_
  refine Wl.on rfl rfl ?_
  refine Wl.pure (PR.moveI rfl) ?_
  refine Wl.on rfl rfl ?_
  refine Wl.pure (PR.neqS (a := ((sdK 4 x 64 : Nat) : Int)) rfl rfl) ?_
  refine Wl.pure (PR.pickFB rfl rfl) ?_
  refine Wl.nil ?_
  refine tn ?_
  refine Wc.condF rfl ?_
  refine Wc.skip ?_
  refine tn ?_
  refine Wc.seq ?_
  refine Wc.region rfl ?_
  refine Wl.pure (PR.assB rfl) ?_
  refine Wl.nil ?_
  refine tn ?_
  refine Wc.ret ?_
  refine postL.tmp rfl rfl ?_
  exact RetV.of rfl st.below

end Go.Proofs.Ytajkjhjnbfcpfaa
