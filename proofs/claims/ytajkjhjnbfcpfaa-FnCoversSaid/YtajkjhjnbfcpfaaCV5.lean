/-
  Contracts of functions, printed by a program of ours.
-/
import Derived.Test.YtajkjhjnbfcpfaaCV4
namespace Go.Proofs.Ytajkjhjnbfcpfaa
open Go.RowKit
set_option linter.unusedVariables false
set_option linter.unusedSimpArgs false

set_option maxHeartbeats 400000 in
set_option maxRecDepth 4000 in
theorem c_impl_Picture_has {x : Nat} {k : Nat} {w : World} (hx : x < 18446744073709551616) :
    CE Try.prog 79 [.int .u64 (((x : Nat) : Int)), .int .i64 (((k : Nat) : Int))] w (RetV w (.bool (decide ((x >>> k) &&& 1 = 1)))) := by
  refine CE.enter 10 [(0, .int .u64 (((x : Nat) : Int))), (1, .int .i64 (((k : Nat) : Int)))] en_79 Try.func79 rfl rfl (Nat.le_of_ble_eq_true rfl) rfl ?_
  have st := St.start w
  refine Wc.seq ?_
  refine Wc.region rfl ?_
  refine Wl.pure (PR.assB rfl) ?_
  refine Wl.nil ?_
  refine tn ?_
  refine Wc.seq ?_
  refine Wc.region rfl ?_
  refine Wl.pure (PR.moveI rfl) ?_
  refine Wl.pure (PR.moveI rfl) ?_
  refine Wl.pure (PR.shr (a := x) (n := k) rfl rfl (by decide) hx) ?_
  refine Wl.pure (PR.and (a := (x >>> k)) (b := 1) rfl rfl (by decide) (shr_lt hx) (by decide)) ?_
  refine Wl.pure (PR.eql (a := ((((x >>> k) &&& 1) : Nat) : Int)) (b := 1) rfl rfl) ?_
  refine Wl.pure (PR.assB rfl) ?_
  refine Wl.nil ?_
  refine tn ?_
  refine Wc.ret ?_
  refine postL.tmp rfl rfl ?_
  refine RetV.of ?_ st.below
  refine congrArg Value.bool ?_
  exact decide_eq_decide.2 (by omega)

set_option maxHeartbeats 400000 in
set_option maxRecDepth 4000 in
theorem c_impl_joinColours {P : Nat → Nat} {w : World} (hP : ∀ k, P k < 18446744073709551616) :
    CE Try.prog 90 [.agg (arrU .u64 3 P).toArray] w (RetV w (.agg (arrU .u8 64 (fun j => jcF P j 3)).toArray)) := by
  refine CE.enter 29 [(0, .agg (arrU .u64 3 P).toArray)] en_90 Try.func90 rfl rfl (Nat.le_of_ble_eq_true rfl) rfl ?_
  have st := St.start w
  refine Wc.seq ?_
  refine Wc.region rfl ?_
  refine Wl.boxA st rfl ?_
  clear st
  intro b1 w1 st
  refine Wl.alloc st tZ_23 rfl ?_
  clear st
  intro b2 w2 st
  refine Wl.nil ?_
  refine tn ?_
  refine Wc.seq ?_
  refine Wc.region rfl ?_
  refine Wl.pure (PR.build (ps := []) (cs := arrU .u8 64 (fun _ => 0)) tB_23 rfl rfl) ?_
  refine Wl.alloc st tZ_23 rfl ?_
  clear st
  intro b3 w3 st
  refine Wl.storeA (i := 0) (cs' := arrU .u8 64 (fun _ => 0)) st tA_23 rfl rfl (arrU_len _) (arrU_one _) rfl (le_of_len (arrU_len _) (by omega)) (all_put (arrU_len _)) ?_
  clear st
  intro w4 st
  replace st : St [] w w4 [(b3, arrU .u8 64 (fun _ => 0), 23), (b2, arrU .u8 64 (fun _ => 0), 23), (b1, arrU .u64 3 P, 55)] := st
  refine Wl.nil ?_
  refine tn ?_
  refine Wc.seq ?_
  refine Wc.seq ?_
  refine Wc.region rfl ?_
  refine Wl.pure (PR.moveI rfl) ?_
  refine Wl.nil ?_
  refine tn ?_
  refine Wc.block ?_
  rw [mix_zero (fun j => jcF P j 3) (fun _ => 0)] at st
  refine Wc.loopF (γ := Nat) (fun g => [(1, .pointer (some ⟨b1, 0, none⟩)), (2, .pointer (some ⟨b2, 0, none⟩)), (3, .pointer (some ⟨b3, 0, none⟩)), (8, .int .i64 (((g : Nat) : Int)))]) (fun g w_ => St [] w w_ [(b3, arrU .u8 64 (mixF (fun j => jcF P j 3) (fun _ => 0) g), 23), (b2, arrU .u8 64 (fun _ => 0), 23), (b1, arrU .u64 3 P, 55)] ∧ (g ≤ 64)) (fun g => 64 - g) ?_ ?_
  · exact ⟨0, (.cons rfl (.cons rfl (.cons rfl (.cons rfl (.nil _))))), st, (by first | omega | (dsimp only; omega))⟩
  clear st
  rintro k w5 ⟨st, hk⟩
  try dsimp only at st hk ⊢
  refine Wc.seq ?_
  refine Wc.region rfl ?_
  refine Wl.pure (PR.lss (a := ((k : Nat) : Int)) (b := 64) rfl rfl) ?_
  refine Wl.nil ?_
  refine tn ?_
  refine Wc.seq ?_
  refine Wc.condD (p := ((k : Nat) : Int) < 64) rfl (fun h6 => ?_) (fun h6 => ?_)
  · refine Wc.skip ?_
    refine tn ?_
    refine Wc.seq ?_
    refine Wc.block ?_
    refine Wc.seq ?_
    refine Wc.region rfl ?_
    refine Wl.pure (PR.moveI rfl) ?_
    refine Wl.pure (PR.assI rfl) ?_
    refine Wl.nil ?_
    refine tn ?_
    refine Wc.seq ?_
    refine Wc.region rfl ?_
    refine Wl.loadA (i := 2) st tA_55 rfl rfl (all_sub (arrU_len _)) (arrU_len _) ?_
    refine Wl.pure (PR.moveI rfl) ?_
    refine Wl.nil ?_
    refine tn ?_
    refine Wc.block ?_
    rw [jc_start P k] at st
    refine Wc.loopF (γ := Nat) (fun g => [(1, .pointer (some ⟨b1, 0, none⟩)), (2, .pointer (some ⟨b2, 0, none⟩)), (3, .pointer (some ⟨b3, 0, none⟩)), (4, .int .i64 (((k : Nat) : Int))), (8, .int .i64 (((k : Nat) : Int))), (9, .bool (decide (((k : Nat) : Int) < 64))), (10, .int .i64 (((k : Nat) : Int))), (11, .agg (arrU .u64 3 P).toArray), (12, .int .i64 (((g : Nat) : Int)))]) (fun g w_ => St [] w w_ [(b3, arrU .u8 64 (upd (mixF (fun j => jcF P j 3) (fun _ => 0) k) k (jcF P k g)), 23), (b2, arrU .u8 64 (fun _ => 0), 23), (b1, arrU .u64 3 P, 55)] ∧ (g ≤ 3)) (fun g => 3 - g) ?_ ?_
    · exact ⟨0, (.cons rfl (.cons rfl (.cons rfl (.cons rfl (.cons rfl (.cons rfl (.cons rfl (.cons rfl (.cons rfl (.nil _)))))))))), st, (by first | omega | (dsimp only; omega))⟩
    clear st
    rintro i w7 ⟨st, hi⟩
    try dsimp only at st hi ⊢
    refine Wc.seq ?_
    refine Wc.region rfl ?_
    refine Wl.pure (PR.lss (a := ((i : Nat) : Int)) (b := 3) rfl rfl) ?_
    refine Wl.nil ?_
    refine tn ?_
    refine Wc.seq ?_
    refine Wc.condD (p := ((i : Nat) : Int) < 3) rfl (fun h8 => ?_) (fun h8 => ?_)
    · refine Wc.skip ?_
      refine tn ?_
      refine Wc.seq ?_
      refine Wc.block ?_
      refine Wc.seq ?_
      refine Wc.region rfl ?_
      refine Wl.pure (PR.moveI rfl) ?_
      refine Wl.pure (PR.idxAgg (i := i) tE_55 rfl rfl (by omega) (arrU_get1 (by omega))) ?_
      refine Wl.pure (PR.assI rfl) ?_
      refine Wl.pure (PR.assI rfl) ?_
      refine Wl.nil ?_
      refine tn ?_
      refine Wc.seq ?_
      refine Wc.region rfl ?_
      refine Wl.pure (PR.moveI rfl) ?_
      refine Wl.pure (PR.moveI rfl) ?_
      refine Wl.callV (c_impl_Picture_has (x := P (i)) (k := k) (hP (i))) rfl ?_
      intro w9 hbel
      replace st := st.call hbel
      clear hbel
      refine Wl.nil ?_
      refine tn ?_
      refine Wc.condD (p := ((P (i)) >>> k) &&& 1 = 1) rfl (fun h10 => ?_) (fun h10 => ?_)
      · refine Wc.quietTail 7 hmix (by kernel_rfl) rfl ?_
        refine Wq.pure (PR.moveI rfl) ?_
        refine Wq.pure (PR.idxAddrA1 (i := k) tE_23 rfl rfl (by omega)) ?_
        refine Wq.load (i := 0) st tA_5 rfl rfl (arrU_get0 (by omega)) ?_
        refine Wq.pure (PR.moveI rfl) ?_
        refine Wq.pure (PR.shl (a := 1) (n := i) rfl rfl (by decide)) ?_
        refine Wq.pure (PR.or (a := (upd (mixF (fun j => jcF P j 3) (fun _ => 0) k) k (jcF P k i)) (k)) (b := ((1 <<< i) % 256)) rfl rfl (by decide) ((upd_lt (mix_lt (fun j => jcF_lt P j 3) (fun _ => by decide) k) (jcF_lt P k i)) (k)) (Nat.mod_lt _ (by decide))) ?_
        refine Wq.pure (PR.idxAddrA1 (i := k) tE_23 rfl rfl (by omega)) ?_
        refine Wq.nil (fun w11 hbel => ?_)
        replace st := st.call hbel
        clear hbel
        refine Wl.store (i := 0) (cs' := arrU .u8 64 (upd (upd (mixF (fun j => jcF P j 3) (fun _ => 0) k) k (jcF P k i)) (k) ((((upd (mixF (fun j => jcF P j 3) (fun _ => 0) k) k (jcF P k i)) (k)) ||| ((1 <<< i) % 256))))) st tA_5 rfl rfl rfl rfl (lt_of_len (arrU_len _) (by omega)) (arrU_set0) ?_
        clear st
        intro w12 st
        replace st : St [] w w12 [(b3, arrU .u8 64 (upd (upd (mixF (fun j => jcF P j 3) (fun _ => 0) k) k (jcF P k i)) (k) ((((upd (mixF (fun j => jcF P j 3) (fun _ => 0) k) k (jcF P k i)) (k)) ||| ((1 <<< i) % 256)))), 23), (b2, arrU .u8 64 (fun _ => 0), 23), (b1, arrU .u64 3 P, 55)] := st
        refine Wl.nil ?_
        refine bn ?_
        refine tn ?_
        refine Wc.region rfl ?_
        refine Wl.pure (PR.add (a := ((i : Nat) : Int)) (b := 1) rfl rfl (by simp only [fitI]; omega)) ?_
        refine Wl.pure (PR.moveI rfl) ?_
        refine Wl.nil ?_
        refine tn ?_
        first | rw [upd_same, upd_upd, jc_t (by assumption)] at st | rw [jc_f (by assumption)] at st | rw [upd_same, upd_upd] at st
        exact ⟨i + 1, (.cons rfl (.cons rfl (.cons rfl (.cons rfl (.cons rfl (.cons rfl (.cons rfl (.cons rfl (.cons rfl (.nil _)))))))))), ⟨st, (by first | omega | (dsimp only; omega))⟩, (by first | omega | (dsimp only; omega))⟩
      · refine Wc.skip ?_
        refine bn ?_
        refine tn ?_
        refine Wc.region rfl ?_
        refine Wl.pure (PR.add (a := ((i : Nat) : Int)) (b := 1) rfl rfl (by simp only [fitI]; omega)) ?_
        refine Wl.pure (PR.moveI rfl) ?_
        refine Wl.nil ?_
        refine tn ?_
        first | rw [upd_same, upd_upd, jc_t (by assumption)] at st | rw [jc_f (by assumption)] at st | rw [upd_same, upd_upd] at st
        exact ⟨i + 1, (.cons rfl (.cons rfl (.cons rfl (.cons rfl (.cons rfl (.cons rfl (.cons rfl (.cons rfl (.cons rfl (.nil _)))))))))), ⟨st, (by first | omega | (dsimp only; omega))⟩, (by first | omega | (dsimp only; omega))⟩
    · refine Wc.exit ?_
      refine tx ?_
      refine tx ?_
      refine bh ?_
      refine bn ?_
      refine tn ?_
      refine Wc.region rfl ?_
      refine Wl.pure (PR.add (a := ((k : Nat) : Int)) (b := 1) rfl rfl (by simp only [fitI]; omega)) ?_
      refine Wl.pure (PR.moveI rfl) ?_
      refine Wl.nil ?_
      refine tn ?_
      obtain rfl : i = 3 := by omega
      rw [mix_upd (fun j => jcF P j 3)] at st
      exact ⟨k + 1, (.cons rfl (.cons rfl (.cons rfl (.cons rfl (.nil _))))), ⟨st, (by first | omega | (dsimp only; omega))⟩, (by first | omega | (dsimp only; omega))⟩
  · refine Wc.exit ?_
    refine tx ?_
    refine tx ?_
    refine bh ?_
    refine tn ?_
    refine Wc.seq ?_
    refine Wc.region rfl ?_
    refine Wl.loadA (i := 0) st tA_23 rfl rfl (all_sub (arrU_len _)) (arrU_len _) ?_
    refine Wl.storeA (i := 1) (cs' := arrU .u8 64 (mixF (fun j => jcF P j 3) (fun _ => 0) k)) st tA_23 rfl rfl (arrU_len _) (arrU_one _) rfl (le_of_len (arrU_len _) (by omega)) (all_put (arrU_len _)) ?_
    clear st
    intro w13 st
    replace st : St [] w w13 [(b3, arrU .u8 64 (mixF (fun j => jcF P j 3) (fun _ => 0) k), 23), (b2, arrU .u8 64 (mixF (fun j => jcF P j 3) (fun _ => 0) k), 23), (b1, arrU .u64 3 P, 55)] := st
    refine Wl.nil ?_
    refine tn ?_
    refine Wc.ret ?_
    refine postL.cell (i := 1) st rfl tA_23 rfl rfl (arrU_len _) ?_
    refine RetV.of ?_ st.below
    exact congrArg (fun l : List Value => Value.agg l.toArray) (arrU_congr fun j hj => mix_lo (by omega))

set_option maxHeartbeats 400000 in
set_option maxRecDepth 4000 in
theorem c_spec_JoinColours {P : Nat → Nat} {w : World} (hP : ∀ k, P k < 18446744073709551616) :
    CE Try.prog 62 [.agg (arrU .u64 3 P).toArray] w (RetV w (.agg (arrU .u8 64 (fun j => jcF P j 3)).toArray)) := by
  refine CE.enter 32 [(0, .agg (arrU .u64 3 P).toArray)] en_62 Try.func62 rfl rfl (Nat.le_of_ble_eq_true rfl) rfl ?_
  have st := St.start w
  refine Wc.seq ?_
  refine Wc.region rfl ?_
  refine Wl.boxA st rfl ?_
  clear st
  intro b1 w1 st
  refine Wl.alloc st tZ_23 rfl ?_
  clear st
  intro b2 w2 st
  refine Wl.nil ?_
  refine tn ?_
  refine Wc.seq ?_
  refine Wc.region rfl ?_
  refine Wl.pure (PR.build (ps := []) (cs := arrU .u8 64 (fun _ => 0)) tB_23 rfl rfl) ?_
  refine Wl.alloc st tZ_23 rfl ?_
  clear st
  intro b3 w3 st
  refine Wl.storeA (i := 0) (cs' := arrU .u8 64 (fun _ => 0)) st tA_23 rfl rfl (arrU_len _) (arrU_one _) rfl (le_of_len (arrU_len _) (by omega)) (all_put (arrU_len _)) ?_
  clear st
  intro w4 st
  replace st : St [] w w4 [(b3, arrU .u8 64 (fun _ => 0), 23), (b2, arrU .u8 64 (fun _ => 0), 23), (b1, arrU .u64 3 P, 55)] := st
  refine Wl.nil ?_
  refine tn ?_
  refine Wc.seq ?_
  refine Wc.seq ?_
  refine Wc.region rfl ?_
  refine Wl.pure (PR.assI rfl) ?_
  refine Wl.nil ?_
  refine tn ?_
  refine Wc.block ?_
  rw [mix_zero (fun j => jcF P j 3) (fun _ => 0)] at st
  refine Wc.loopF (γ := Nat) (fun g => [(1, .pointer (some ⟨b1, 0, none⟩)), (2, .pointer (some ⟨b2, 0, none⟩)), (3, .pointer (some ⟨b3, 0, none⟩)), (4, .int .i64 (((g : Nat) : Int)))]) (fun g w_ => St [] w w_ [(b3, arrU .u8 64 (mixF (fun j => jcF P j 3) (fun _ => 0) g), 23), (b2, arrU .u8 64 (fun _ => 0), 23), (b1, arrU .u64 3 P, 55)] ∧ (g ≤ 64)) (fun g => 64 - g) ?_ ?_
  · exact ⟨0, (.cons rfl (.cons rfl (.cons rfl (.cons rfl (.nil _))))), st, (by first | omega | (dsimp only; omega))⟩
  clear st
  rintro k w5 ⟨st, hk⟩
  try dsimp only at st hk ⊢
  refine Wc.seq ?_
  refine Wc.seq ?_
  refine Wc.region rfl ?_
  refine Wl.pure (PR.moveI rfl) ?_
  refine Wl.pure (PR.lss (a := ((k : Nat) : Int)) (b := 64) rfl rfl) ?_
  refine Wl.nil ?_
  refine tn ?_
  refine Wc.condD (p := ((k : Nat) : Int) < 64) rfl (fun h6 => ?_) (fun h6 => ?_)
  · refine Wc.skip ?_
    refine tn ?_
    refine Wc.seq ?_
    refine Wc.block ?_
    refine Wc.seq ?_
    refine Wc.region rfl ?_
    refine Wl.pure (PR.assI rfl) ?_
    refine Wl.nil ?_
    refine tn ?_
    refine Wc.block ?_
    rw [jc_start P k] at st
    refine Wc.loopF (γ := Nat) (fun g => [(1, .pointer (some ⟨b1, 0, none⟩)), (2, .pointer (some ⟨b2, 0, none⟩)), (3, .pointer (some ⟨b3, 0, none⟩)), (4, .int .i64 (((k : Nat) : Int))), (5, .int .i64 (((g : Nat) : Int))), (7, .int .i64 (((k : Nat) : Int))), (8, .bool (decide (((k : Nat) : Int) < 64)))]) (fun g w_ => St [] w w_ [(b3, arrU .u8 64 (upd (mixF (fun j => jcF P j 3) (fun _ => 0) k) k (jcF P k g)), 23), (b2, arrU .u8 64 (fun _ => 0), 23), (b1, arrU .u64 3 P, 55)] ∧ (g ≤ 3)) (fun g => 3 - g) ?_ ?_
    · exact ⟨0, (.cons rfl (.cons rfl (.cons rfl (.cons rfl (.cons rfl (.cons rfl (.cons rfl (.nil _)))))))), st, (by first | omega | (dsimp only; omega))⟩
    clear st
    rintro i w7 ⟨st, hi⟩
    try dsimp only at st hi ⊢
    refine Wc.seq ?_
    refine Wc.seq ?_
    refine Wc.region rfl ?_
    refine Wl.pure (PR.moveI rfl) ?_
    refine Wl.pure (PR.lss (a := ((i : Nat) : Int)) (b := 3) rfl rfl) ?_
    refine Wl.nil ?_
    refine tn ?_
    refine Wc.condD (p := ((i : Nat) : Int) < 3) rfl (fun h8 => ?_) (fun h8 => ?_)
    · refine Wc.skip ?_
      refine tn ?_
      refine Wc.seq ?_
      refine Wc.block ?_
      refine Wc.quietTail 16 hmix (by kernel_rfl) rfl ?_
      refine Wq.pure (PR.moveI rfl) ?_
      refine Wq.pure (PR.idxAddrA1 (i := k) tE_23 rfl rfl (by omega)) ?_
      refine Wq.load (i := 0) st tA_5 rfl rfl (arrU_get0 (by omega)) ?_
      refine Wq.pure (PR.moveI rfl) ?_
      refine Wq.pure (PR.idxAddrA1 (i := i) tE_55 rfl rfl (by omega)) ?_
      refine Wq.load (i := 2) st tA_27 rfl rfl (arrU_get0 (by omega)) ?_
      refine Wq.pure (PR.moveI rfl) ?_
      refine Wq.pure (PR.conv (n := ((k : Nat) : Int)) tI_133 rfl (by simp only [fitI]; omega) Try.underlying3) ?_
      refine Wq.pure (PR.shr (a := P (i)) (n := k) rfl rfl (by decide) (hP (i))) ?_
      refine Wq.pure (PR.and (a := ((P (i)) >>> k)) (b := 1) rfl rfl (by decide) (shr_lt (hP (i))) (by decide)) ?_
      refine Wq.pure (PR.conv (n := (((((P (i)) >>> k) &&& 1) : Nat) : Int)) tI_5 rfl (by have q9 : (P i >>> k) &&& 1 ≤ 1 := Nat.and_le_right; simp only [fitI]; omega) Try.underlying27) ?_
      refine Wq.pure (PR.moveI rfl) ?_
      refine Wq.pure (PR.conv (n := ((i : Nat) : Int)) tI_133 rfl (by simp only [fitI]; omega) Try.underlying3) ?_
      refine Wq.pure (PR.shl (a := (((P (i)) >>> k) &&& 1)) (n := i) rfl rfl (by decide)) ?_
      refine Wq.pure (PR.or (a := (upd (mixF (fun j => jcF P j 3) (fun _ => 0) k) k (jcF P k i)) (k)) (b := (((((P (i)) >>> k) &&& 1) <<< i) % 256)) rfl rfl (by decide) ((upd_lt (mix_lt (fun j => jcF_lt P j 3) (fun _ => by decide) k) (jcF_lt P k i)) (k)) (Nat.mod_lt _ (by decide))) ?_
      refine Wq.pure (PR.idxAddrA1 (i := k) tE_23 rfl rfl (by omega)) ?_
      refine Wq.nil (fun w9 hbel => ?_)
      replace st := st.call hbel
      clear hbel
      refine Wl.store (i := 0) (cs' := arrU .u8 64 (upd (upd (mixF (fun j => jcF P j 3) (fun _ => 0) k) k (jcF P k i)) (k) ((((upd (mixF (fun j => jcF P j 3) (fun _ => 0) k) k (jcF P k i)) (k)) ||| (((((P (i)) >>> k) &&& 1) <<< i) % 256))))) st tA_5 rfl rfl rfl rfl (lt_of_len (arrU_len _) (by omega)) (arrU_set0) ?_
      clear st
      intro w10 st
      replace st : St [] w w10 [(b3, arrU .u8 64 (upd (upd (mixF (fun j => jcF P j 3) (fun _ => 0) k) k (jcF P k i)) (k) ((((upd (mixF (fun j => jcF P j 3) (fun _ => 0) k) k (jcF P k i)) (k)) ||| (((((P (i)) >>> k) &&& 1) <<< i) % 256)))), 23), (b2, arrU .u8 64 (fun _ => 0), 23), (b1, arrU .u64 3 P, 55)] := st
      refine Wl.nil ?_
      refine bn ?_
      refine tn ?_
      refine Wc.region rfl ?_
      refine Wl.pure (PR.moveI rfl) ?_
      refine Wl.pure (PR.add (a := ((i : Nat) : Int)) (b := 1) rfl rfl (by simp only [fitI]; omega)) ?_
      refine Wl.pure (PR.assI rfl) ?_
      refine Wl.nil ?_
      refine tn ?_
      first | rw [upd_same, upd_upd, jc_t (by assumption)] at st | rw [jc_f (by assumption)] at st | rw [upd_same, upd_upd] at st
      exact ⟨i + 1, (.cons rfl (.cons rfl (.cons rfl (.cons rfl (.cons rfl (.cons rfl (.cons rfl (.nil _)))))))), ⟨st, (by first | omega | (dsimp only; omega))⟩, (by first | omega | (dsimp only; omega))⟩
    · refine Wc.exit ?_
      refine tx ?_
      refine tx ?_
      refine bh ?_
      refine bn ?_
      refine tn ?_
      refine Wc.region rfl ?_
      refine Wl.pure (PR.moveI rfl) ?_
      refine Wl.pure (PR.add (a := ((k : Nat) : Int)) (b := 1) rfl rfl (by simp only [fitI]; omega)) ?_
      refine Wl.pure (PR.assI rfl) ?_
      refine Wl.nil ?_
      refine tn ?_
      obtain rfl : i = 3 := by omega
      rw [mix_upd (fun j => jcF P j 3)] at st
      exact ⟨k + 1, (.cons rfl (.cons rfl (.cons rfl (.cons rfl (.nil _))))), ⟨st, (by first | omega | (dsimp only; omega))⟩, (by first | omega | (dsimp only; omega))⟩
  · refine Wc.exit ?_
    refine tx ?_
    refine tx ?_
    refine bh ?_
    refine tn ?_
    refine Wc.seq ?_
    refine Wc.region rfl ?_
    refine Wl.loadA (i := 0) st tA_23 rfl rfl (all_sub (arrU_len _)) (arrU_len _) ?_
    refine Wl.storeA (i := 1) (cs' := arrU .u8 64 (mixF (fun j => jcF P j 3) (fun _ => 0) k)) st tA_23 rfl rfl (arrU_len _) (arrU_one _) rfl (le_of_len (arrU_len _) (by omega)) (all_put (arrU_len _)) ?_
    clear st
    intro w11 st
    replace st : St [] w w11 [(b3, arrU .u8 64 (mixF (fun j => jcF P j 3) (fun _ => 0) k), 23), (b2, arrU .u8 64 (mixF (fun j => jcF P j 3) (fun _ => 0) k), 23), (b1, arrU .u64 3 P, 55)] := st
    refine Wl.nil ?_
    refine tn ?_
    refine Wc.ret ?_
    refine postL.cell (i := 1) st rfl tA_23 rfl rfl (arrU_len _) ?_
    refine RetV.of ?_ st.below
    exact congrArg (fun l : List Value => Value.agg l.toArray) (arrU_congr fun j hj => mix_lo (by omega))

set_option maxHeartbeats 400000 in
set_option maxRecDepth 4000 in
theorem c_impl_ColoursShown {p : Nat → Int} {c : Nat → Nat → Nat} {w : World} (hp : ∀ i, i < 6 → -128 ≤ p i ∧ p i ≤ 127) (hc : ∀ i k, c i k < 256) :
    CE Try.prog 40 [.agg (layS 6 p c).toArray] w (RetV w (.tuple #[.agg (arrU .u8 64 (selF (codeP 6 p c 2) (fun j => jcF (clP c) j 3))).toArray, .int .i64 (((codeP 6 p c 2 : Nat) : Int))])) := by
  refine CE.enter 30 [(0, .agg (layS 6 p c).toArray)] en_40 Try.func40 rfl rfl (Nat.le_of_ble_eq_true rfl) rfl ?_
  have st := St.start w
  refine Wc.seq ?_
  refine Wc.region rfl ?_
  refine Wl.boxA st rfl ?_
  clear st
  intro b1 w1 st
  refine Wl.alloc st tZ_23 rfl ?_
  clear st
  intro b2 w2 st
  refine Wl.pure (PR.assI rfl) ?_
  refine Wl.nil ?_
  refine tn ?_
  refine Wc.seq ?_
  refine Wc.seq ?_
  refine Wc.region rfl ?_
  refine Wl.pure (PR.sliceArr tE_52 rfl) ?_
  refine Wl.callV (c_impl_partsCode (A := some ⟨b1, 0, none⟩) (n := 6) (cp := 6) (p := p) (c := c) (q := 2) ((st.rdA (i := 1) (n := (6 * 65)) rfl (all_sub (recV_len (s := 65) (layS_row _ _) _))).sl) hp hc (by first | assumption | omega)) rfl ?_
  intro w3 hbel
  replace st := st.call hbel
  clear hbel
  refine Wl.pure (PR.assI rfl) ?_
  refine Wl.nil ?_
  refine tn ?_
  refine Wc.seq ?_
  refine Wc.region rfl ?_
  refine Wl.pure (PR.moveI rfl) ?_
  refine Wl.pure (PR.neq (a := ((codeP 6 p c 2 : Nat) : Int)) (b := 0) rfl rfl) ?_
  refine Wl.nil ?_
  refine tn ?_
  refine Wc.condN (p := ((codeP 6 p c 2 : Nat) : Int) = 0) rfl (fun h4 => ?_) (fun h4 => ?_)
  · refine Wc.seq ?_
    refine Wc.region rfl ?_
    refine Wl.pure (PR.build (ps := []) (cs := arrU .u8 64 (fun _ => 0)) tB_23 rfl rfl) ?_
    refine Wl.pure (PR.moveI rfl) ?_
    refine Wl.storeA (i := 0) (cs' := arrU .u8 64 (fun _ => 0)) st tA_23 rfl rfl (arrU_len _) (arrU_one _) rfl (le_of_len (arrU_len _) (by omega)) (all_put (arrU_len _)) ?_
    clear st
    intro w5 st
    replace st : St [] w w5 [(b2, arrU .u8 64 (fun _ => 0), 23), (b1, layS 6 p c, 52)] := st
    refine Wl.pure (PR.assI rfl) ?_
    refine Wl.nil ?_
    refine tn ?_
    refine Wc.ret ?_
    refine tr ?_
    refine postL.many (rvs := [.cell 2 23, .tmp 3]) rfl (.cell (us := arrU .u8 64 (fun _ => 0)) tA_23 rfl (arrU_len _) (st.rdA (i := 0) (n := 64) rfl (all_sub (arrU_len _))) (.tmp (v := .int .i64 (((codeP 6 p c 2 : Nat) : Int))) rfl .nil)) ?_
    refine RetV.of ?_ st.below
    exact col_f (by omega)
  · refine Wc.skip ?_
    refine tn ?_
    refine Wc.seq ?_
    refine Wc.region rfl ?_
    refine Wl.pure (PR.build (ps := []) (cs := arrU .u64 3 (fun _ => 0)) tB_55 rfl rfl) ?_
    refine Wl.alloc st tZ_55 rfl ?_
    clear st
    intro b5 w6 st
    refine Wl.storeA (i := 0) (cs' := arrU .u64 3 (fun _ => 0)) st tA_55 rfl rfl (arrU_len _) (arrU_one _) rfl (le_of_len (arrU_len _) (by omega)) (all_put (arrU_len _)) ?_
    clear st
    intro w7 st
    replace st : St [] w w7 [(b5, arrU .u64 3 (fun _ => 0), 55), (b2, arrU .u8 64 (fun _ => 0), 23), (b1, layS 6 p c, 52)] := st
    refine Wl.nil ?_
    refine tn ?_
    refine Wc.seq ?_
    refine Wc.seq ?_
    refine Wc.region rfl ?_
    refine Wl.pure (PR.moveI rfl) ?_
    refine Wl.nil ?_
    refine tn ?_
    refine Wc.block ?_
    refine Wc.loopF (γ := Nat × (Nat → Nat)) (fun g => [(1, .pointer (some ⟨b1, 0, none⟩)), (2, .pointer (some ⟨b2, 0, none⟩)), (3, .int .i64 (0)), (5, .pointer (some ⟨b5, 0, none⟩)), (14, .int .i64 (((g.1 : Nat) : Int)))]) (fun g w_ => St [] w w_ [(b5, arrU .u64 3 g.2, 55), (b2, arrU .u8 64 (fun _ => 0), 23), (b1, layS 6 p c, 52)] ∧ (g.1 ≤ 3) ∧ (∀ q, g.2 q < 18446744073709551616) ∧ (∀ j, j < g.1 → g.2 j = clP c j)) (fun g => 3 - g.1) ?_ ?_
    · exact ⟨(0, (fun _ => 0)), (.cons rfl (.cons rfl (.cons rfl (.cons rfl (.cons rfl (.nil _)))))), st, (by first | omega | (dsimp only; omega)), (fun _ => by dsimp only; decide), (fun j hj => by omega)⟩
    clear st
    rintro ⟨k, P⟩ w8 ⟨st, hk, hP, hg⟩
    try dsimp only at st hk hP hg ⊢
    refine Wc.seq ?_
    refine Wc.region rfl ?_
    refine Wl.pure (PR.lss (a := ((k : Nat) : Int)) (b := 3) rfl rfl) ?_
    refine Wl.nil ?_
    refine tn ?_
    refine Wc.seq ?_
    refine Wc.condD (p := ((k : Nat) : Int) < 3) rfl (fun h9 => ?_) (fun h9 => ?_)
    · refine Wc.skip ?_
      refine tn ?_
      refine Wc.seq ?_
      refine Wc.block ?_
      refine Wc.seq ?_
      refine Wc.region rfl ?_
      refine Wl.pure (PR.moveI rfl) ?_
      refine Wl.pure (PR.assI rfl) ?_
      refine Wl.nil ?_
      refine tn ?_
      refine Wc.region rfl ?_
      refine Wl.pure (PR.moveI rfl) ?_
      refine Wl.pure (PR.moveI rfl) ?_
      refine Wl.pure (PR.mul (a := 2) (b := ((k : Nat) : Int)) rfl rfl (by simp only [fitI]; omega)) ?_
      refine Wl.pure (PR.moveI rfl) ?_
      refine Wl.pure (PR.mul (a := 2) (b := ((k : Nat) : Int)) rfl rfl (by simp only [fitI]; omega)) ?_
      refine Wl.pure (PR.add (a := (((2 * k) : Nat) : Int)) (b := 2) rfl rfl (by simp only [fitI]; omega)) ?_
      refine Wl.pure (PR.sliceArrM (lo := (2 * k)) (m := 2) (hi := ((2 * k) + 2)) tE_52 rfl rfl rfl (by omega) (by omega) (by omega)) ?_
      refine Wl.callV (c_impl_stack (A := some ⟨b1, 0 + (2 * k) * 65, none⟩) (n := 2) (cp := 6 - (2 * k)) (p := (fun i => p ((2 * k) + i))) (c := (fun i => c ((2 * k) + i))) ((RdA.mid (layS_row _ _) (st.rdA (i := 2) rfl (all_sub (recV_len (s := 65) (layS_row _ _) _))) (lo := (2 * k)) (m := 2) (by omega)).sl) (fun i hi => hp _ (by omega)) (fun i => hc ((2 * k) + i)) (by decide) (by decide)) rfl ?_
      intro w10 hbel
      replace st := st.call hbel
      clear hbel
      refine Wl.callV (c_impl_Layer_shown (p := (fun i => p ((2 * k) + i)) 0) (c := (orC (fun i => c ((2 * k) + i)) 2)) (t := 2) (orC_lt (fun i => hc ((2 * k) + i)) 2)) rfl ?_
      intro w11 hbel
      replace st := st.call hbel
      clear hbel
      refine Wl.pure (PR.idxAddrA1 (i := k) tE_55 rfl rfl (by omega)) ?_
      refine Wl.store (i := 0) (cs' := arrU .u64 3 (upd P (k) (pic (fun r => decide (2 ≤ ((pc ((orC (fun i => c ((2 * k) + i)) 2) r) : Nat) : Int)))))) st tA_27 rfl rfl rfl rfl (lt_of_len (arrU_len _) (by omega)) (arrU_set0) ?_
      clear st
      intro w12 st
      replace st : St [] w w12 [(b5, arrU .u64 3 (upd P (k) (pic (fun r => decide (2 ≤ ((pc ((orC (fun i => c ((2 * k) + i)) 2) r) : Nat) : Int))))), 55), (b2, arrU .u8 64 (fun _ => 0), 23), (b1, layS 6 p c, 52)] := st
      refine Wl.nil ?_
      refine bn ?_
      refine tn ?_
      refine Wc.region rfl ?_
      refine Wl.pure (PR.add (a := ((k : Nat) : Int)) (b := 1) rfl rfl (by simp only [fitI]; omega)) ?_
      refine Wl.pure (PR.moveI rfl) ?_
      refine Wl.nil ?_
      refine tn ?_
      exact ⟨(k + 1, upd P (k) (pic (fun r => decide (2 ≤ ((pc ((orC (fun i => c ((2 * k) + i)) 2) r) : Nat) : Int))))), (.cons rfl (.cons rfl (.cons rfl (.cons rfl (.cons rfl (.nil _)))))), ⟨st, (by first | omega | (dsimp only; omega)), (upd_lt hP (picF_lt _ 64)), (upd_snoc hg rfl)⟩, (by first | omega | (dsimp only; omega))⟩
    · refine Wc.exit ?_
      refine tx ?_
      refine tx ?_
      refine bh ?_
      refine tn ?_
      refine Wc.seq ?_
      refine Wc.region rfl ?_
      refine Wl.loadA (i := 0) st tA_55 rfl rfl (all_sub (arrU_len _)) (arrU_len _) ?_
      refine Wl.callV (c_impl_joinColours (P := P) hP) rfl ?_
      intro w13 hbel
      replace st := st.call hbel
      clear hbel
      refine Wl.storeA (i := 1) (cs' := arrU .u8 64 (fun j => jcF P j 3)) st tA_23 rfl rfl (arrU_len _) (arrU_one _) rfl (le_of_len (arrU_len _) (by omega)) (all_put (arrU_len _)) ?_
      clear st
      intro w14 st
      replace st : St [] w w14 [(b5, arrU .u64 3 P, 55), (b2, arrU .u8 64 (fun j => jcF P j 3), 23), (b1, layS 6 p c, 52)] := st
      refine Wl.pure (PR.assI rfl) ?_
      refine Wl.nil ?_
      refine tn ?_
      refine Wc.ret ?_
      refine postL.many (rvs := [.cell 2 23, .tmp 3]) rfl (.cell (us := arrU .u8 64 (fun j => jcF P j 3)) tA_23 rfl (arrU_len _) (st.rdA (i := 1) (n := 64) rfl (all_sub (arrU_len _))) (.tmp (v := .int .i64 (0)) rfl .nil)) ?_
      refine RetV.of ?_ st.below
      exact col_t (by omega) (fun j hj => hg j (by omega))

set_option maxHeartbeats 400000 in
set_option maxRecDepth 4000 in
theorem c_spec_ColoursShown {p : Nat → Int} {c : Nat → Nat → Nat} {w : World} (hp : ∀ i, i < 6 → -128 ≤ p i ∧ p i ≤ 127) (hc : ∀ i k, c i k < 256) :
    CE Try.prog 38 [.agg (layS 6 p c).toArray] w (RetV w (.tuple #[.agg (arrU .u8 64 (selF (codeP 6 p c 2) (fun j => jcF (clP c) j 3))).toArray, .int .i64 (((codeP 6 p c 2 : Nat) : Int))])) := by
  refine CE.enter 34 [(0, .agg (layS 6 p c).toArray)] en_38 Try.func38 rfl rfl (Nat.le_of_ble_eq_true rfl) rfl ?_
  have st := St.start w
  refine Wc.seq ?_
  refine Wc.region rfl ?_
  refine Wl.boxA st rfl ?_
  clear st
  intro b1 w1 st
  refine Wl.alloc st tZ_23 rfl ?_
  clear st
  intro b2 w2 st
  refine Wl.pure (PR.assI rfl) ?_
  refine Wl.nil ?_
  refine tn ?_
  refine Wc.seq ?_
  refine Wc.seq ?_
  refine Wc.region rfl ?_
  refine Wl.buildSlice (ps := []) (cs := layS 0 (fun _ => 0) (fun _ _ => 0) ++ []) st tS_99 tZ_30 rfl rfl rfl ?_
  clear st
  intro b7 w3 st
  refine Wl.pure (PR.sliceArr tE_52 rfl) ?_
  refine Wl.append0 (c := 0) (m := 6) (sp := []) (vs := layS 6 p c) (i := 0) st tS_99 tZ_30 rfl rfl rfl rfl rfl (Src.ofRdA (tyS_und tS_99) (st.rdA (i := 2) (n := (6 * 65)) rfl (all_sub (recV_len (s := 65) (layS_row _ _) _))) (recV_len (s := 65) (layS_row _ _) _) (layS_one _ _)) (by omega) (by omega) ?_
  clear st
  intro b9 c9 sp9 w4 hc9 hs9 st
  replace st : St [] w w4 [(b9, layS 6 p c ++ sp9, 30), (b2, arrU .u8 64 (fun _ => 0), 23), (b1, layS 6 p c, 52)] := st
  refine Wl.callV (c_spec_l05With (A := some ⟨b9, 0, none⟩) (n := 6) (cp := c9) (p := p) (c := c) (q := 2) ((st.rdA (i := 0) (n := (6 * 65)) rfl (app_all (recV_len (s := 65) (layS_row _ _) _))).sl) hp hc (by first | assumption | omega)) rfl ?_
  intro w5 hbel
  replace st := st.call hbel
  clear hbel
  refine Wl.pure (PR.assI rfl) ?_
  refine Wl.nil ?_
  refine tn ?_
  refine Wc.seq ?_
  refine Wc.region rfl ?_
  refine Wl.pure (PR.moveI rfl) ?_
  refine Wl.pure (PR.neq (a := ((codeP 6 p c 2 : Nat) : Int)) (b := 0) rfl rfl) ?_
  refine Wl.nil ?_
  refine tn ?_
  refine Wc.condN (p := ((codeP 6 p c 2 : Nat) : Int) = 0) rfl (fun h6 => ?_) (fun h6 => ?_)
  · refine Wc.seq ?_
    refine Wc.region rfl ?_
    refine Wl.pure (PR.build (ps := []) (cs := arrU .u8 64 (fun _ => 0)) tB_23 rfl rfl) ?_
    refine Wl.pure (PR.moveI rfl) ?_
    refine Wl.storeA (i := 1) (cs' := arrU .u8 64 (fun _ => 0)) st tA_23 rfl rfl (arrU_len _) (arrU_one _) rfl (le_of_len (arrU_len _) (by omega)) (all_put (arrU_len _)) ?_
    clear st
    intro w7 st
    replace st : St [] w w7 [(b9, layS 6 p c ++ sp9, 30), (b2, arrU .u8 64 (fun _ => 0), 23), (b1, layS 6 p c, 52)] := st
    refine Wl.pure (PR.assI rfl) ?_
    refine Wl.nil ?_
    refine tn ?_
    refine Wc.ret ?_
    refine tr ?_
    refine postL.many (rvs := [.cell 2 23, .tmp 3]) rfl (.cell (us := arrU .u8 64 (fun _ => 0)) tA_23 rfl (arrU_len _) (st.rdA (i := 1) (n := 64) rfl (all_sub (arrU_len _))) (.tmp (v := .int .i64 (((codeP 6 p c 2 : Nat) : Int))) rfl .nil)) ?_
    refine RetV.of ?_ st.below
    exact col_f (by omega)
  · refine Wc.skip ?_
    refine tn ?_
    refine Wc.seq ?_
    refine Wc.region rfl ?_
    refine Wl.pure (PR.build (ps := []) (cs := arrU .u64 3 (fun _ => 0)) tB_55 rfl rfl) ?_
    refine Wl.alloc st tZ_55 rfl ?_
    clear st
    intro b5 w8 st
    refine Wl.storeA (i := 0) (cs' := arrU .u64 3 (fun _ => 0)) st tA_55 rfl rfl (arrU_len _) (arrU_one _) rfl (le_of_len (arrU_len _) (by omega)) (all_put (arrU_len _)) ?_
    clear st
    intro w9 st
    replace st : St [] w w9 [(b5, arrU .u64 3 (fun _ => 0), 55), (b9, layS 6 p c ++ sp9, 30), (b2, arrU .u8 64 (fun _ => 0), 23), (b1, layS 6 p c, 52)] := st
    refine Wl.nil ?_
    refine tn ?_
    refine Wc.seq ?_
    refine Wc.seq ?_
    refine Wc.region rfl ?_
    refine Wl.pure (PR.assI rfl) ?_
    refine Wl.nil ?_
    refine tn ?_
    refine Wc.block ?_
    refine Wc.loopF (γ := Nat × (Nat → Nat)) (fun g => [(1, .pointer (some ⟨b1, 0, none⟩)), (2, .pointer (some ⟨b2, 0, none⟩)), (3, .int .i64 (0)), (5, .pointer (some ⟨b5, 0, none⟩)), (6, .int .i64 (((g.1 : Nat) : Int)))]) (fun g w_ => St [] w w_ [(b5, arrU .u64 3 g.2, 55), (b9, layS 6 p c ++ sp9, 30), (b2, arrU .u8 64 (fun _ => 0), 23), (b1, layS 6 p c, 52)] ∧ (g.1 ≤ 3) ∧ (∀ q, g.2 q < 18446744073709551616) ∧ (∀ j, j < g.1 → g.2 j = clP c j)) (fun g => 3 - g.1) ?_ ?_
    · exact ⟨(0, (fun _ => 0)), (.cons rfl (.cons rfl (.cons rfl (.cons rfl (.cons rfl (.nil _)))))), st, (by first | omega | (dsimp only; omega)), (fun _ => by dsimp only; decide), (fun j hj => by omega)⟩
    clear st
    rintro ⟨k, P⟩ w10 ⟨st, hk, hP, hg⟩
    try dsimp only at st hk hP hg ⊢
    refine Wc.seq ?_
    refine Wc.seq ?_
    refine Wc.region rfl ?_
    refine Wl.pure (PR.moveI rfl) ?_
    refine Wl.pure (PR.lss (a := ((k : Nat) : Int)) (b := 3) rfl rfl) ?_
    refine Wl.nil ?_
    refine tn ?_
    refine Wc.condD (p := ((k : Nat) : Int) < 3) rfl (fun h11 => ?_) (fun h11 => ?_)
    · refine Wc.skip ?_
      refine tn ?_
      refine Wc.seq ?_
      refine Wc.block ?_
      refine Wc.quietTail 12 hmix (by kernel_rfl) rfl ?_
      refine Wq.pure (PR.moveI rfl) ?_
      refine Wq.pure (PR.moveI rfl) ?_
      refine Wq.pure (PR.mul (a := 2) (b := ((k : Nat) : Int)) rfl rfl (by simp only [fitI]; omega)) ?_
      have := hp ((2 * k)) (by omega)
      refine Wq.pure (PR.idxAddrA (i := (2 * k)) tE_52 rfl rfl (by omega)) ?_
      refine Wq.loadA (i := 3) (vs := layV (p (2 * k)) ((c (2 * k)))) st tA_30 rfl rfl (recV_sub0 (n := 6) (i := (2 * k)) (layS_row _ _) (by omega)) layV_len ?_
      refine Wq.pure (PR.moveI rfl) ?_
      refine Wq.pure (PR.mul (a := 2) (b := ((k : Nat) : Int)) rfl rfl (by simp only [fitI]; omega)) ?_
      refine Wq.pure (PR.add (a := (((2 * k) : Nat) : Int)) (b := 1) rfl rfl (by simp only [fitI]; omega)) ?_
      have := hp (((2 * k) + 1)) (by omega)
      refine Wq.pure (PR.idxAddrA (i := ((2 * k) + 1)) tE_52 rfl rfl (by omega)) ?_
      refine Wq.loadA (i := 3) (vs := layV (p ((2 * k) + 1)) ((c ((2 * k) + 1)))) st tA_30 rfl rfl (recV_sub0 (n := 6) (i := ((2 * k) + 1)) (layS_row _ _) (by omega)) layV_len ?_
      refine Wq.callV (fun _ hbel => c_spec_l05Stacked (p := p (2 * k)) (c := (c (2 * k))) (r := p ((2 * k) + 1)) (d := (c ((2 * k) + 1))) (t := 2) (hp _ (by omega)) (hc (2 * k)) (hp _ (by omega)) (hc ((2 * k) + 1))) rfl ?_
      refine Wq.pure (PR.idxAddrA1 (i := k) tE_55 rfl rfl (by omega)) ?_
      refine Wq.nil (fun w12 hbel => ?_)
      replace st := st.call hbel
      clear hbel
      refine Wl.store (i := 0) (cs' := arrU .u64 3 (upd P (k) (pic (fun r => decide (2 ≤ ((pc ((orC (fun i => [(c (2 * k)), (c ((2 * k) + 1))].getD i (fun _ => 0)) 2) r) : Nat) : Int)))))) st tA_27 rfl rfl rfl rfl (lt_of_len (arrU_len _) (by omega)) (arrU_set0) ?_
      clear st
      intro w13 st
      replace st : St [] w w13 [(b5, arrU .u64 3 (upd P (k) (pic (fun r => decide (2 ≤ ((pc ((orC (fun i => [(c (2 * k)), (c ((2 * k) + 1))].getD i (fun _ => 0)) 2) r) : Nat) : Int))))), 55), (b9, layS 6 p c ++ sp9, 30), (b2, arrU .u8 64 (fun _ => 0), 23), (b1, layS 6 p c, 52)] := st
      refine Wl.nil ?_
      refine bn ?_
      refine tn ?_
      refine Wc.region rfl ?_
      refine Wl.pure (PR.moveI rfl) ?_
      refine Wl.pure (PR.add (a := ((k : Nat) : Int)) (b := 1) rfl rfl (by simp only [fitI]; omega)) ?_
      refine Wl.pure (PR.assI rfl) ?_
      refine Wl.nil ?_
      refine tn ?_
      exact ⟨(k + 1, upd P (k) (pic (fun r => decide (2 ≤ ((pc ((orC (fun i => [(c (2 * k)), (c ((2 * k) + 1))].getD i (fun _ => 0)) 2) r) : Nat) : Int))))), (.cons rfl (.cons rfl (.cons rfl (.cons rfl (.cons rfl (.nil _)))))), ⟨st, (by first | omega | (dsimp only; omega)), (upd_lt hP (picF_lt _ 64)), (upd_snoc hg rfl)⟩, (by first | omega | (dsimp only; omega))⟩
    · refine Wc.exit ?_
      refine tx ?_
      refine tx ?_
      refine bh ?_
      refine tn ?_
      refine Wc.seq ?_
      refine Wc.region rfl ?_
      refine Wl.loadA (i := 0) st tA_55 rfl rfl (all_sub (arrU_len _)) (arrU_len _) ?_
      refine Wl.callV (c_spec_JoinColours (P := P) hP) rfl ?_
      intro w14 hbel
      replace st := st.call hbel
      clear hbel
      refine Wl.storeA (i := 2) (cs' := arrU .u8 64 (fun j => jcF P j 3)) st tA_23 rfl rfl (arrU_len _) (arrU_one _) rfl (le_of_len (arrU_len _) (by omega)) (all_put (arrU_len _)) ?_
      clear st
      intro w15 st
      replace st : St [] w w15 [(b5, arrU .u64 3 P, 55), (b9, layS 6 p c ++ sp9, 30), (b2, arrU .u8 64 (fun j => jcF P j 3), 23), (b1, layS 6 p c, 52)] := st
      refine Wl.pure (PR.assI rfl) ?_
      refine Wl.nil ?_
      refine tn ?_
      refine Wc.ret ?_
      refine postL.many (rvs := [.cell 2 23, .tmp 3]) rfl (.cell (us := arrU .u8 64 (fun j => jcF P j 3)) tA_23 rfl (arrU_len _) (st.rdA (i := 2) (n := 64) rfl (all_sub (arrU_len _))) (.tmp (v := .int .i64 (0)) rfl .nil)) ?_
      refine RetV.of ?_ st.below
      exact col_t (by omega) (fun j hj => hg j (by omega))

set_option maxHeartbeats 400000 in
set_option maxRecDepth 4000 in
theorem c_laws_toLayerA6 {p : Nat → Int} {c : Nat → Nat → Nat} {w : World} (hp : ∀ i, i < 6 → -128 ≤ p i ∧ p i ≤ 127) (hc : ∀ i k, c i k < 256) :
    CE Try.prog 39 [.agg (layS 6 p c).toArray] w (RetV w (.agg (layS 6 p c).toArray)) := by
  refine CE.enter 16 [(0, .agg (layS 6 p c).toArray)] en_39 Try.func39 rfl rfl (Nat.le_of_ble_eq_true rfl) rfl ?_
  have st := St.start w
  refine Wc.seq ?_
  refine Wc.region rfl ?_
  refine Wl.boxA st rfl ?_
  clear st
  intro b1 w1 st
  refine Wl.alloc st tZ_52 rfl ?_
  clear st
  intro b2 w2 st
  refine Wl.nil ?_
  refine tn ?_
  refine Wc.seq ?_
  refine Wc.region rfl ?_
  refine Wl.alloc st tZ_52 rfl ?_
  clear st
  intro b3 w3 st
  refine Wl.nil ?_
  refine tn ?_
  refine Wc.seq ?_
  refine Wc.seq ?_
  refine Wc.region rfl ?_
  refine Wl.pure (PR.assI rfl) ?_
  refine Wl.nil ?_
  refine tn ?_
  refine Wc.block ?_
  refine Wc.loopF (γ := Nat × (Nat → Int) × (Nat → Nat → Nat)) (fun g => [(1, .pointer (some ⟨b1, 0, none⟩)), (2, .pointer (some ⟨b2, 0, none⟩)), (3, .pointer (some ⟨b3, 0, none⟩)), (4, .int .i64 (((g.1 : Nat) : Int)))]) (fun g w_ => St [] w w_ [(b3, layS 6 g.2.1 g.2.2, 52), (b2, layS 6 (fun _ => 0) (fun _ _ => 0), 52), (b1, layS 6 p c, 59)] ∧ (g.1 ≤ 6) ∧ (∀ j, j < g.1 → g.2.1 j = p j) ∧ (∀ j, j < g.1 → g.2.2 j = c j)) (fun g => 6 - g.1) ?_ ?_
  · exact ⟨(0, (fun _ => 0), (fun _ _ => 0)), (.cons rfl (.cons rfl (.cons rfl (.cons rfl (.nil _))))), st, (by first | omega | (dsimp only; omega)), (fun j hj => by omega), (fun j hj => by omega)⟩
  clear st
  rintro ⟨k, p1, c1⟩ w4 ⟨st, hk, gx, gy⟩
  try dsimp only at st hk gx gy ⊢
  refine Wc.seq ?_
  refine Wc.seq ?_
  refine Wc.region rfl ?_
  refine Wl.pure (PR.moveI rfl) ?_
  refine Wl.pure (PR.lss (a := ((k : Nat) : Int)) (b := 6) rfl rfl) ?_
  refine Wl.nil ?_
  refine tn ?_
  refine Wc.condD (p := ((k : Nat) : Int) < 6) rfl (fun h5 => ?_) (fun h5 => ?_)
  · refine Wc.skip ?_
    refine tn ?_
    refine Wc.seq ?_
    refine Wc.block ?_
    refine Wc.region rfl ?_
    refine Wl.pure (PR.moveI rfl) ?_
    refine Wl.pure (PR.moveI rfl) ?_
    have := hp (k) (by omega)
    refine Wl.pure (PR.idxAddrA (i := k) tE_59 rfl rfl (by omega)) ?_
    refine Wl.loadA (i := 2) (vs := layV (p k) ((c k))) st tA_25 rfl rfl (recV_sub0 (n := 6) (i := k) (layS_row _ _) (by omega)) layV_len ?_
    refine Wl.callV (c_laws_toLayer (p := p k) (c := (c k)) (hc k)) rfl ?_
    intro w6 hbel
    replace st := st.call hbel
    clear hbel
    refine Wl.pure (PR.idxAddrA (i := k) tE_52 rfl rfl (by omega)) ?_
    refine Wl.storeA (i := 0) (cs' := layS 6 (upd p1 (k) ((p k))) (upd c1 (k) ((c k)))) st tA_30 rfl rfl layV_len layV_one rfl (recV_tot (layS_row _ _) (by omega)) (layS_put (by omega)) ?_
    clear st
    intro w7 st
    replace st : St [] w w7 [(b3, layS 6 (upd p1 (k) ((p k))) (upd c1 (k) ((c k))), 52), (b2, layS 6 (fun _ => 0) (fun _ _ => 0), 52), (b1, layS 6 p c, 59)] := st
    refine Wl.nil ?_
    refine bn ?_
    refine tn ?_
    refine Wc.region rfl ?_
    refine Wl.pure (PR.moveI rfl) ?_
    refine Wl.pure (PR.add (a := ((k : Nat) : Int)) (b := 1) rfl rfl (by simp only [fitI]; omega)) ?_
    refine Wl.pure (PR.assI rfl) ?_
    refine Wl.nil ?_
    refine tn ?_
    exact ⟨(k + 1, (upd p1 (k) ((p k))), (upd c1 (k) ((c k)))), (.cons rfl (.cons rfl (.cons rfl (.cons rfl (.nil _))))), ⟨st, (by first | omega | (dsimp only; omega)), (upd_snoc gx rfl), (upd_snoc gy rfl)⟩, (by first | omega | (dsimp only; omega))⟩
  · refine Wc.exit ?_
    refine tx ?_
    refine tx ?_
    refine bh ?_
    refine tn ?_
    refine Wc.seq ?_
    refine Wc.region rfl ?_
    refine Wl.loadA (i := 0) st tA_52 rfl rfl (all_sub (recV_len (s := 65) (layS_row _ _) _)) (recV_len (s := 65) (layS_row _ _) _) ?_
    refine Wl.storeA (i := 1) (cs' := layS 6 p1 c1) st tA_52 rfl rfl (recV_len (s := 65) (layS_row _ _) _) (layS_one _ _) rfl (le_of_len (recV_len (s := 65) (layS_row _ _) _) (by omega)) (all_put (recV_len (s := 65) (layS_row _ _) _)) ?_
    clear st
    intro w8 st
    replace st : St [] w w8 [(b3, layS 6 p1 c1, 52), (b2, layS 6 p1 c1, 52), (b1, layS 6 p c, 59)] := st
    refine Wl.nil ?_
    refine tn ?_
    refine Wc.ret ?_
    refine postL.cell (i := 1) st rfl tA_52 rfl rfl (recV_len (s := 65) (layS_row _ _) _) ?_
    refine RetV.of ?_ st.below
    exact congrArg (fun l : List Value => Value.agg l.toArray) (layS_congr (fun j hj => gx j (by omega)) (fun j hj r _ => by rw [gy j (by omega)]))

set_option maxHeartbeats 400000 in
set_option maxRecDepth 4000 in
theorem c_laws_eqByteA64 {c : Nat → Nat} {w : World} :
    CE Try.prog 41 [.agg (arrU .u8 64 c).toArray, .agg (arrU .u8 64 c).toArray] w (RetV w (.bool true)) := by
  refine CE.enter 17 [(0, .agg (arrU .u8 64 c).toArray), (1, .agg (arrU .u8 64 c).toArray)] en_41 Try.func41 rfl rfl (Nat.le_of_ble_eq_true rfl) rfl ?_
  have st := St.start w
  refine Wc.seq ?_
  refine Wc.region rfl ?_
  refine Wl.boxA st rfl ?_
  clear st
  intro b2 w1 st
  refine Wl.boxA st rfl ?_
  clear st
  intro b3 w2 st
  refine Wl.pure (PR.assB rfl) ?_
  refine Wl.nil ?_
  refine tn ?_
  refine Wc.seq ?_
  refine Wc.seq ?_
  refine Wc.region rfl ?_
  refine Wl.pure (PR.assI rfl) ?_
  refine Wl.nil ?_
  refine tn ?_
  refine Wc.block ?_
  refine Wc.loopF (γ := Nat) (fun g => [(2, .pointer (some ⟨b2, 0, none⟩)), (3, .pointer (some ⟨b3, 0, none⟩)), (5, .int .i64 (((g : Nat) : Int)))]) (fun g w_ => St [] w w_ [(b3, arrU .u8 64 c, 23), (b2, arrU .u8 64 c, 23)] ∧ (g ≤ 64)) (fun g => 64 - g) ?_ ?_
  · exact ⟨0, (.cons rfl (.cons rfl (.cons rfl (.nil _)))), st, (by first | omega | (dsimp only; omega))⟩
  clear st
  rintro k w3 ⟨st, hk⟩
  try dsimp only at st hk ⊢
  refine Wc.seq ?_
  refine Wc.seq ?_
  refine Wc.region rfl ?_
  refine Wl.pure (PR.moveI rfl) ?_
  refine Wl.pure (PR.lss (a := ((k : Nat) : Int)) (b := 64) rfl rfl) ?_
  refine Wl.nil ?_
  refine tn ?_
  refine Wc.condD (p := ((k : Nat) : Int) < 64) rfl (fun h4 => ?_) (fun h4 => ?_)
  · refine Wc.skip ?_
    refine tn ?_
    refine Wc.seq ?_
    refine Wc.block ?_
    refine Wc.seq ?_
    refine Wc.quiet hmix (by kernel_rfl) rfl ?_
    refine Wq.pure (PR.moveI rfl) ?_
    refine Wq.pure (PR.idxAddrA1 (i := k) tE_23 rfl rfl (by omega)) ?_
    refine Wq.load (i := 1) st tA_5 rfl rfl (arrU_get0 (by omega)) ?_
    refine Wq.pure (PR.moveI rfl) ?_
    refine Wq.pure (PR.idxAddrA1 (i := k) tE_23 rfl rfl (by omega)) ?_
    refine Wq.load (i := 0) st tA_5 rfl rfl (arrU_get0 (by omega)) ?_
    refine Wq.pure (PR.neqS (a := ((c (k) : Nat) : Int)) rfl rfl) ?_
    refine Wq.nil (fun w5 hbel => ?_)
    replace st := st.call hbel
    clear hbel
    refine tn ?_
    refine Wc.condF rfl ?_
    refine Wc.skip ?_
    refine bn ?_
    refine tn ?_
    refine Wc.region rfl ?_
    refine Wl.pure (PR.moveI rfl) ?_
    refine Wl.pure (PR.add (a := ((k : Nat) : Int)) (b := 1) rfl rfl (by simp only [fitI]; omega)) ?_
    refine Wl.pure (PR.assI rfl) ?_
    refine Wl.nil ?_
    refine tn ?_
    exact ⟨k + 1, (.cons rfl (.cons rfl (.cons rfl (.nil _)))), ⟨st, (by first | omega | (dsimp only; omega))⟩, (by first | omega | (dsimp only; omega))⟩
  · refine Wc.exit ?_
    refine tx ?_
    refine tx ?_
    refine bh ?_
    refine tn ?_
    refine Wc.seq ?_
    refine Wc.region rfl ?_
    refine Wl.pure (PR.assB rfl) ?_
    refine Wl.nil ?_
    refine tn ?_
    refine Wc.ret ?_
    refine postL.tmp rfl rfl ?_
    exact RetV.of rfl st.below

set_option maxHeartbeats 400000 in
set_option maxRecDepth 4000 in
theorem c_laws_FnExactColoursShown {p : Nat → Int} {c : Nat → Nat → Nat} {w : World} (hp : ∀ i, i < 6 → -128 ≤ p i ∧ p i ≤ 127) (hc : ∀ i k, c i k < 256) :
    CE Try.prog 11 [.agg (layS 6 p c).toArray] w (RetV w (.bool true)) := by
  refine CE.enter 28 [(0, .agg (layS 6 p c).toArray)] en_11 Try.func11 rfl rfl (Nat.le_of_ble_eq_true rfl) rfl ?_
  have st := St.start w
  refine Wc.seq ?_
  refine Wc.region rfl ?_
  refine Wl.boxA st rfl ?_
  clear st
  intro b1 w1 st
  refine Wl.pure (PR.assB rfl) ?_
  refine Wl.nil ?_
  refine tn ?_
  refine Wc.seq ?_
  refine Wc.region rfl ?_
  refine Wl.loadA (i := 0) st tA_59 rfl rfl (all_sub (recV_len (s := 65) (layS_row _ _) _)) (recV_len (s := 65) (layS_row _ _) _) ?_
  refine Wl.callV (c_laws_toLayerA6 (by first | assumption | omega) (by first | assumption | omega)) rfl ?_
  intro w2 hbel
  replace st := st.call hbel
  clear hbel
  refine Wl.callV (c_spec_ColoursShown (by first | assumption | omega) (by first | assumption | omega)) rfl ?_
  intro w3 hbel
  replace st := st.call hbel
  clear hbel
  refine Wl.pure (PR.moveV (.tuple #[.agg (arrU .u8 64 (selF (codeP 6 p c 2) (fun j => jcF (clP c) j 3))).toArray, .int .i64 (((codeP 6 p c 2 : Nat) : Int))]) rfl) ?_
  refine Wl.pure (PR.extr (i := 0) (vs := [.agg (arrU .u8 64 (selF (codeP 6 p c 2) (fun j => jcF (clP c) j 3))).toArray, .int .i64 (((codeP 6 p c 2 : Nat) : Int))]) rfl rfl) ?_
  refine Wl.pure (PR.extr (i := 1) (vs := [.agg (arrU .u8 64 (selF (codeP 6 p c 2) (fun j => jcF (clP c) j 3))).toArray, .int .i64 (((codeP 6 p c 2 : Nat) : Int))]) rfl rfl) ?_
  refine Wl.alloc st tZ_23 rfl ?_
  clear st
  intro b3 w4 st
  refine Wl.storeA (i := 0) (cs' := arrU .u8 64 (selF (codeP 6 p c 2) (fun j => jcF (clP c) j 3))) st tA_23 rfl rfl (arrU_len _) (arrU_one _) rfl (le_of_len (arrU_len _) (by omega)) (all_put (arrU_len _)) ?_
  clear st
  intro w5 st
  replace st : St [] w w5 [(b3, arrU .u8 64 (selF (codeP 6 p c 2) (fun j => jcF (clP c) j 3)), 23), (b1, layS 6 p c, 59)] := st
  refine Wl.pure (PR.assI rfl) ?_
  refine Wl.nil ?_
  refine tn ?_
  refine Wc.seq ?_
  refine Wc.region rfl ?_
  refine Wl.loadA (i := 1) st tA_59 rfl rfl (all_sub (recV_len (s := 65) (layS_row _ _) _)) (recV_len (s := 65) (layS_row _ _) _) ?_
  refine Wl.callV (c_laws_toLayerA6 (by first | assumption | omega) (by first | assumption | omega)) rfl ?_
  intro w6 hbel
  replace st := st.call hbel
  clear hbel
  refine Wl.callV (c_impl_ColoursShown (by first | assumption | omega) (by first | assumption | omega)) rfl ?_
  intro w7 hbel
  replace st := st.call hbel
  clear hbel
  refine Wl.pure (PR.moveV (.tuple #[.agg (arrU .u8 64 (selF (codeP 6 p c 2) (fun j => jcF (clP c) j 3))).toArray, .int .i64 (((codeP 6 p c 2 : Nat) : Int))]) rfl) ?_
  refine Wl.pure (PR.extr (i := 0) (vs := [.agg (arrU .u8 64 (selF (codeP 6 p c 2) (fun j => jcF (clP c) j 3))).toArray, .int .i64 (((codeP 6 p c 2 : Nat) : Int))]) rfl rfl) ?_
  refine Wl.pure (PR.extr (i := 1) (vs := [.agg (arrU .u8 64 (selF (codeP 6 p c 2) (fun j => jcF (clP c) j 3))).toArray, .int .i64 (((codeP 6 p c 2 : Nat) : Int))]) rfl rfl) ?_
  refine Wl.alloc st tZ_23 rfl ?_
  clear st
  intro b5 w8 st
  refine Wl.storeA (i := 0) (cs' := arrU .u8 64 (selF (codeP 6 p c 2) (fun j => jcF (clP c) j 3))) st tA_23 rfl rfl (arrU_len _) (arrU_one _) rfl (le_of_len (arrU_len _) (by omega)) (all_put (arrU_len _)) ?_
  clear st
  intro w9 st
  replace st : St [] w w9 [(b5, arrU .u8 64 (selF (codeP 6 p c 2) (fun j => jcF (clP c) j 3)), 23), (b3, arrU .u8 64 (selF (codeP 6 p c 2) (fun j => jcF (clP c) j 3)), 23), (b1, layS 6 p c, 59)] := st
  refine Wl.pure (PR.assI rfl) ?_
  refine Wl.nil ?_
  refine tn ?_
  refine Wc.seq ?_
  refine Wc.seq ?_
  refine Wc.region rfl ?_
  refine Wl.loadA (i := 0) st tA_23 rfl rfl (all_sub (arrU_len _)) (arrU_len _) ?_
  refine Wl.loadA (i := 1) st tA_23 rfl rfl (all_sub (arrU_len _)) (arrU_len _) ?_
  refine Wl.callV (c_laws_eqByteA64 (c := (selF (codeP 6 p c 2) (fun j => jcF (clP c) j 3)))) rfl ?_
  intro w10 hbel
  replace st := st.call hbel
  clear hbel
  refine Wl.pure (PR.not_ rfl) ?_
  refine Wl.pure (PR.moveB rfl) ?_
  refine Wl.on rfl rfl ?_
  refine Wl.pure (PR.moveI rfl) ?_
  refine Wl.on rfl rfl ?_
  refine Wl.pure (PR.moveI rfl) ?_
  refine Wl.on rfl rfl ?_
  refine Wl.pure (PR.neqS (a := ((codeP 6 p c 2 : Nat) : Int)) rfl rfl) ?_
  refine Wl.pure (PR.pickFB rfl rfl) ?_
  refine Wl.nil ?_
  refine tn ?_
  refine Wc.condF rfl ?_
  refine Wc.skip ?_
  refine tn ?_
  refine Wc.seq ?_
  refine Wc.region rfl ?_
  refine Wl.pure (PR.assB rfl) ?_
  refine Wl.nil ?_
  refine tn ?_
  refine Wc.ret ?_
  refine postL.tmp rfl rfl ?_
  exact RetV.of rfl st.below

end Go.Proofs.Ytajkjhjnbfcpfaa
