/-
  Contracts of functions, printed by a program of ours.
-/
import Derived.Test.YtagghfllgafmgaaLays
import Derived.Test.YtagghfllgafmgaaDefs
namespace Go.Proofs.Ytagghfllgafmgaa
open Go.RowKit
set_option linter.unusedVariables false
set_option linter.unusedSimpArgs false

set_option maxHeartbeats 400000 in
set_option maxRecDepth 4000 in
theorem c_impl_within {n : Int} {lo : Int} {hi : Int} {w : World} :
    CE Try.prog 100 [.int .i64 (n), .int .i64 (lo), .int .i64 (hi)] w (RetV w (.bool (decide (lo ≤ n ∧ n ≤ hi)))) := by
  refine CE.enter 15 [(0, .int .i64 (n)), (1, .int .i64 (lo)), (2, .int .i64 (hi))] en_100 Try.func100 rfl rfl (Nat.le_of_ble_eq_true rfl) rfl ?_
  have st := St.start w
  refine Wc.seq ?_
  refine Wc.region rfl ?_
  refine Wl.pure (PR.assB rfl) ?_
  refine Wl.nil ?_
  refine tn ?_
  refine Wc.seq ?_
  refine Wc.region rfl ?_
  refine Wl.pure (PR.moveI rfl) ?_
  refine Wl.pure (PR.moveI rfl) ?_
  refine Wl.pure (PR.geq (a := n) (b := lo) rfl rfl) ?_
  refine Wl.pure (PR.moveB rfl) ?_
  refine Wl.splitT (q := lo ≤ n) rfl rfl (fun h1 => ?_) (fun h1 => ?_)
  · refine Wl.pure (PR.moveI rfl) ?_
    refine Wl.on rfl rfl ?_
    refine Wl.pure (PR.moveI rfl) ?_
    refine Wl.on rfl rfl ?_
    refine Wl.pure (PR.leq (a := n) (b := hi) rfl rfl) ?_
    refine Wl.pure (PR.pickTB rfl rfl) ?_
    refine Wl.pure (PR.assB rfl) ?_
    refine Wl.nil ?_
    refine tn ?_
    refine Wc.ret ?_
    refine postL.tmp rfl rfl ?_
    refine RetV.of ?_ st.below
    refine congrArg Value.bool ?_
    first | rfl | (exfalso; omega) | (simp only [*, decide_true, decide_false, Bool.not_true, Bool.not_false]; done) | (simp; omega) | (rw [Bool.eq_iff_iff]; simp; omega) | simp_all
  · refine Wl.off rfl rfl rfl ?_
    refine Wl.off rfl rfl rfl ?_
    refine Wl.pure (PR.pickFB rfl rfl) ?_
    refine Wl.pure (PR.assB rfl) ?_
    refine Wl.nil ?_
    refine tn ?_
    refine Wc.ret ?_
    refine postL.tmp rfl rfl ?_
    refine RetV.of ?_ st.below
    refine congrArg Value.bool ?_
    first | rfl | (exfalso; omega) | (simp only [*, decide_true, decide_false, Bool.not_true, Bool.not_false]; done) | (simp; omega) | (rw [Bool.eq_iff_iff]; simp; omega) | simp_all

set_option maxHeartbeats 400000 in
set_option maxRecDepth 4000 in
theorem c_spec_l00In {n : Int} {lo : Int} {hi : Int} {w : World} :
    CE Try.prog 103 [.int .i64 (n), .int .i64 (lo), .int .i64 (hi)] w (RetV w (.bool (decide (lo ≤ n ∧ n ≤ hi)))) := by
  refine CE.enter 15 [(0, .int .i64 (n)), (1, .int .i64 (lo)), (2, .int .i64 (hi))] en_103 Try.func103 rfl rfl (Nat.le_of_ble_eq_true rfl) rfl ?_
  have st := St.start w
  refine Wc.seq ?_
  refine Wc.region rfl ?_
  refine Wl.pure (PR.assB rfl) ?_
  refine Wl.nil ?_
  refine tn ?_
  refine Wc.seq ?_
  refine Wc.region rfl ?_
  refine Wl.pure (PR.moveI rfl) ?_
  refine Wl.pure (PR.moveI rfl) ?_
  refine Wl.pure (PR.geq (a := n) (b := lo) rfl rfl) ?_
  refine Wl.pure (PR.moveB rfl) ?_
  refine Wl.splitT (q := lo ≤ n) rfl rfl (fun h1 => ?_) (fun h1 => ?_)
  · refine Wl.pure (PR.moveI rfl) ?_
    refine Wl.on rfl rfl ?_
    refine Wl.pure (PR.moveI rfl) ?_
    refine Wl.on rfl rfl ?_
    refine Wl.pure (PR.leq (a := n) (b := hi) rfl rfl) ?_
    refine Wl.pure (PR.pickTB rfl rfl) ?_
    refine Wl.pure (PR.assB rfl) ?_
    refine Wl.nil ?_
    refine tn ?_
    refine Wc.ret ?_
    refine postL.tmp rfl rfl ?_
    refine RetV.of ?_ st.below
    refine congrArg Value.bool ?_
    first | rfl | (exfalso; omega) | (simp only [*, decide_true, decide_false, Bool.not_true, Bool.not_false]; done) | (simp; omega) | (rw [Bool.eq_iff_iff]; simp; omega) | simp_all
  · refine Wl.off rfl rfl rfl ?_
    refine Wl.off rfl rfl rfl ?_
    refine Wl.pure (PR.pickFB rfl rfl) ?_
    refine Wl.pure (PR.assB rfl) ?_
    refine Wl.nil ?_
    refine tn ?_
    refine Wc.ret ?_
    refine postL.tmp rfl rfl ?_
    refine RetV.of ?_ st.below
    refine congrArg Value.bool ?_
    first | rfl | (exfalso; omega) | (simp only [*, decide_true, decide_false, Bool.not_true, Bool.not_false]; done) | (simp; omega) | (rw [Bool.eq_iff_iff]; simp; omega) | simp_all

set_option maxHeartbeats 400000 in
set_option maxRecDepth 4000 in
theorem c_impl_isParts {n : Int} {w : World} :
    CE Try.prog 80 [.int .i64 (n)] w (RetV w (.bool (decide (1 ≤ n ∧ n ≤ 8)))) := by
  refine CE.enter 5 [(0, .int .i64 (n))] en_80 Try.func80 rfl rfl (Nat.le_of_ble_eq_true rfl) rfl ?_
  have st := St.start w
  refine Wc.seq ?_
  refine Wc.region rfl ?_
  refine Wl.pure (PR.assB rfl) ?_
  refine Wl.nil ?_
  refine tn ?_
  refine Wc.seq ?_
  refine Wc.region rfl ?_
  refine Wl.pure (PR.moveI rfl) ?_
  refine Wl.callV (c_impl_within (n := n) (lo := 1) (hi := 8)) rfl ?_
  intro w1 hbel
  replace st := st.call hbel
  clear hbel
  refine Wl.pure (PR.assB rfl) ?_
  refine Wl.nil ?_
  refine tn ?_
  refine Wc.ret ?_
  refine postL.tmp rfl rfl ?_
  exact RetV.of rfl st.below

set_option maxHeartbeats 400000 in
set_option maxRecDepth 4000 in
theorem c_spec_l01Parts {n : Int} {w : World} :
    CE Try.prog 79 [.int .i64 (n)] w (RetV w (.bool (decide (1 ≤ n ∧ n ≤ 8)))) := by
  refine CE.enter 5 [(0, .int .i64 (n))] en_79 Try.func79 rfl rfl (Nat.le_of_ble_eq_true rfl) rfl ?_
  have st := St.start w
  refine Wc.seq ?_
  refine Wc.region rfl ?_
  refine Wl.pure (PR.assB rfl) ?_
  refine Wl.nil ?_
  refine tn ?_
  refine Wc.seq ?_
  refine Wc.region rfl ?_
  refine Wl.pure (PR.moveI rfl) ?_
  refine Wl.callV (c_spec_l00In (n := n) (lo := 1) (hi := 8)) rfl ?_
  intro w1 hbel
  replace st := st.call hbel
  clear hbel
  refine Wl.pure (PR.assB rfl) ?_
  refine Wl.nil ?_
  refine tn ?_
  refine Wc.ret ?_
  refine postL.tmp rfl rfl ?_
  exact RetV.of rfl st.below

set_option maxHeartbeats 400000 in
set_option maxRecDepth 4000 in
theorem c_impl_mask {p : Nat} {w : World} (hp : p ≤ 8) :
    CE Try.prog 81 [.int .i8 (((p : Nat) : Int))] w (RetV w (.int .u8 ((((2 ^ p - 1) : Nat) : Int)))) := by
  refine CE.enter 6 [(0, .int .i8 (((p : Nat) : Int)))] en_81 Try.func81 rfl rfl (Nat.le_of_ble_eq_true rfl) rfl ?_
  have st := St.start w
  refine Wc.seq ?_
  refine Wc.region rfl ?_
  refine Wl.pure (PR.assI rfl) ?_
  refine Wl.nil ?_
  refine tn ?_
  refine Wc.seq ?_
  refine Wc.region rfl ?_
  refine Wl.pure (PR.moveI rfl) ?_
  refine Wl.pure (PR.shl (a := 1) (n := p) rfl rfl (by decide)) ?_
  refine Wl.pure (PR.subU (a := ((1 <<< p) % 256)) (b := 1) rfl rfl (by decide) (by decide)) ?_
  refine Wl.pure (PR.assI rfl) ?_
  refine Wl.nil ?_
  refine tn ?_
  refine Wc.ret ?_
  refine postL.tmp rfl rfl ?_
  refine RetV.of ?_ st.below
  refine congrArg (fun x : Nat => Value.int .u8 (x : Int)) ?_
  exact mask_eq p hp

set_option maxHeartbeats 400000 in
set_option maxRecDepth 4000 in
theorem c_impl_ValidLayer {p : Int} {c : Nat → Nat} {w : World} (hp : -128 ≤ p ∧ p ≤ 127) (hc : ∀ k, c k < 256) :
    CE Try.prog 48 [.agg (layV (p) (c)).toArray] w (RetV w (.bool (layOk p c))) := by
  refine CE.enter 22 [(0, .agg (layV (p) (c)).toArray)] en_48 Try.func48 rfl rfl (Nat.le_of_ble_eq_true rfl) rfl ?_
  have st := St.start w
  refine Wc.seq ?_
  refine Wc.region rfl ?_
  refine Wl.boxA st rfl ?_
  clear st
  intro b1 w1 st
  refine Wl.pure (PR.assB rfl) ?_
  refine Wl.nil ?_
  refine tn ?_
  refine Wc.seq ?_
  refine Wc.seq ?_
  refine Wc.region rfl ?_
  refine Wl.pure (PR.fieldAddr tF_29_0 rfl) ?_
  refine Wl.load (i := 0) st tA_22 rfl rfl (rfl) ?_
  refine Wl.pure (PR.conv (n := p) tI_2 rfl (by simp only [fitI]; omega) Try.underlying22) ?_
  refine Wl.callV (c_impl_isParts (n := p)) rfl ?_
  intro w2 hbel
  replace st := st.call hbel
  clear hbel
  refine Wl.pure (PR.not_ rfl) ?_
  refine Wl.nil ?_
  refine tn ?_
  refine Wc.condN (p := 1 ≤ p ∧ p ≤ 8) rfl (fun h3 => ?_) (fun h3 => ?_)
  · refine Wc.seq ?_
    refine Wc.region rfl ?_
    refine Wl.pure (PR.assB rfl) ?_
    refine Wl.nil ?_
    refine tn ?_
    refine Wc.ret ?_
    refine tr ?_
    refine postL.tmp rfl rfl ?_
    refine RetV.of ?_ st.below
    refine congrArg Value.bool ?_
    first | exact (layOk_f1 (by assumption)).symm | exact (layOk_f2 (k := k) (by omega) hx).symm | exact (layOk_t (by omega) (fun j hj => hg j (by omega))).symm
  · refine Wc.skip ?_
    refine tn ?_
    refine Wc.seq ?_
    refine Wc.seq ?_
    obtain ⟨n, rfl⟩ : ∃ n : Nat, p = ((n : Nat) : Int) := ⟨p.toNat, by omega⟩
    refine Wc.region rfl ?_
    refine Wl.pure (PR.fieldAddr tF_29_1 rfl) ?_
    refine Wl.loadA (i := 0) st tA_23 rfl rfl layV_sub_c (arrU_len _) ?_
    refine Wl.pure (PR.moveI rfl) ?_
    refine Wl.nil ?_
    refine tn ?_
    refine Wc.block ?_
    refine Wc.loopF (γ := Nat) (fun g => [(1, .pointer (some ⟨b1, 0, none⟩)), (11, .agg (arrU .u8 64 c).toArray), (12, .int .i64 (((g : Nat) : Int)))]) (fun g w_ => St [] w w_ [(b1, layV ((n : Nat) : Int) (c), 29)] ∧ (g ≤ 64) ∧ (∀ j, j < g → c j < 2 ^ n)) (fun g => 64 - g) ?_ ?_
    · exact ⟨0, (.cons rfl (.cons rfl (.cons rfl (.nil _)))), st, (by first | omega | (dsimp only; omega)), (fun j hj => by omega)⟩
    clear st
    rintro k w4 ⟨st, hk, hg⟩
    try dsimp only at st hk hg ⊢
    refine Wc.seq ?_
    refine Wc.region rfl ?_
    refine Wl.pure (PR.lss (a := ((k : Nat) : Int)) (b := 64) rfl rfl) ?_
    refine Wl.nil ?_
    refine tn ?_
    refine Wc.seq ?_
    refine Wc.condD (p := ((k : Nat) : Int) < 64) rfl (fun h5 => ?_) (fun h5 => ?_)
    · refine Wc.skip ?_
      refine tn ?_
      refine Wc.seq ?_
      refine Wc.block ?_
      refine Wc.seq ?_
      refine Wc.region rfl ?_
      refine Wl.pure (PR.idxAgg (i := k) tE_23 rfl rfl (by omega) (arrU_get1 (by omega))) ?_
      refine Wl.pure (PR.assI rfl) ?_
      refine Wl.nil ?_
      refine tn ?_
      refine Wc.seq ?_
      refine Wc.region rfl ?_
      refine Wl.pure (PR.moveI rfl) ?_
      refine Wl.pure (PR.fieldAddr tF_29_0 rfl) ?_
      refine Wl.load (i := 0) st tA_22 rfl rfl (rfl) ?_
      refine Wl.callV (c_impl_mask (p := n) (by first | assumption | omega)) rfl ?_
      intro w6 hbel
      replace st := st.call hbel
      clear hbel
      refine Wl.pure (PR.andNot (a := c (k)) (b := (2 ^ n - 1)) rfl rfl (by decide) (hc (k)) (mask_lt (p := n) (by omega))) ?_
      refine Wl.pure (PR.neq (a := (((bdiff (c (k)) (2 ^ n - 1)) : Nat) : Int)) (b := 0) rfl rfl) ?_
      refine Wl.nil ?_
      refine tn ?_
      refine Wc.condN (p := (((bdiff (c (k)) (2 ^ n - 1)) : Nat) : Int) = 0) rfl (fun h7 => ?_) (fun h7 => ?_)
      · refine Wc.seq ?_
        have hx : ¬ c k < 2 ^ n := fun h => absurd ((bdiff_mask (hc k) (by omega)).2 h) (by omega)
        refine Wc.region rfl ?_
        refine Wl.pure (PR.assB rfl) ?_
        refine Wl.nil ?_
        refine tn ?_
        refine Wc.ret ?_
        refine br ?_
        refine tr ?_
        refine tr ?_
        refine br ?_
        refine tr ?_
        refine postL.tmp rfl rfl ?_
        refine RetV.of ?_ st.below
        refine congrArg Value.bool ?_
        first | exact (layOk_f1 (by assumption)).symm | exact (layOk_f2 (k := k) (by omega) hx).symm | exact (layOk_t (by omega) (fun j hj => hg j (by omega))).symm
      · refine Wc.skip ?_
        refine bn ?_
        refine tn ?_
        refine Wc.region rfl ?_
        refine Wl.pure (PR.add (a := ((k : Nat) : Int)) (b := 1) rfl rfl (by simp only [fitI]; omega)) ?_
        refine Wl.pure (PR.moveI rfl) ?_
        refine Wl.nil ?_
        refine tn ?_
        have hx : c k < 2 ^ n := (bdiff_mask (hc k) (by omega)).1 (by omega)
        exact ⟨k + 1, (.cons rfl (.cons rfl (.cons rfl (.nil _)))), ⟨st, (by first | omega | (dsimp only; omega)), (all_snoc hg hx)⟩, (by first | omega | (dsimp only; omega))⟩
    · refine Wc.exit ?_
      refine tx ?_
      refine tx ?_
      refine bh ?_
      refine tn ?_
      refine Wc.seq ?_
      refine Wc.region rfl ?_
      refine Wl.pure (PR.assB rfl) ?_
      refine Wl.nil ?_
      refine tn ?_
      refine Wc.ret ?_
      refine postL.tmp rfl rfl ?_
      refine RetV.of ?_ st.below
      refine congrArg Value.bool ?_
      first | exact (layOk_f1 (by assumption)).symm | exact (layOk_f2 (k := k) (by omega) hx).symm | exact (layOk_t (by omega) (fun j hj => hg j (by omega))).symm

set_option maxHeartbeats 400000 in
set_option maxRecDepth 4000 in
theorem c_spec_l01Ok {b : Nat} {o : Nat} {p : Int} {c : Nat → Nat} {w : World} (hR : RdA w b o (layV p c)) (hp : -128 ≤ p ∧ p ≤ 127) (hc : ∀ k, c k < 256) :
    CE Try.prog 45 [.pointer (some ⟨b, o, none⟩)] w (RetV w (.bool (layOk p c))) := by
  refine CE.enter 28 [(0, .pointer (some ⟨b, o, none⟩))] en_45 Try.func45 rfl rfl (Nat.le_of_ble_eq_true rfl) rfl ?_
  have st := St.start w
  refine Wc.seq ?_
  refine Wc.region rfl ?_
  refine Wl.pure (PR.assB rfl) ?_
  refine Wl.nil ?_
  refine tn ?_
  refine Wc.seq ?_
  refine Wc.seq ?_
  refine Wc.region rfl ?_
  refine Wl.pure (PR.moveP rfl) ?_
  refine Wl.pure (PR.nil_ rfl) ?_
  refine Wl.pure (PR.fieldAddr tF_29_0 rfl) ?_
  refine Wl.loadC tA_22 rfl ((hR.st st).at_ (j := 0) (rfl) rfl) ?_
  refine Wl.pure (PR.conv (n := p) tI_2 rfl (by simp only [fitI]; omega) Try.underlying22) ?_
  refine Wl.callV (c_spec_l01Parts (n := p)) rfl ?_
  intro w1 hbel
  replace st := st.call hbel
  clear hbel
  refine Wl.pure (PR.not_ rfl) ?_
  refine Wl.nil ?_
  refine tn ?_
  refine Wc.condN (p := 1 ≤ p ∧ p ≤ 8) rfl (fun h2 => ?_) (fun h2 => ?_)
  · refine Wc.seq ?_
    refine Wc.region rfl ?_
    refine Wl.pure (PR.assB rfl) ?_
    refine Wl.nil ?_
    refine tn ?_
    refine Wc.ret ?_
    refine tr ?_
    refine postL.tmp rfl rfl ?_
    refine RetV.of ?_ st.below
    refine congrArg Value.bool ?_
    first | exact (layOk_f1 (by assumption)).symm | exact (layOk_f2 (k := k) (by omega) hx).symm | exact (layOk_t (by omega) (fun j hj => hg j (by omega))).symm
  · refine Wc.skip ?_
    refine tn ?_
    refine Wc.seq ?_
    refine Wc.seq ?_
    obtain ⟨n, rfl⟩ : ∃ n : Nat, p = ((n : Nat) : Int) := ⟨p.toNat, by omega⟩
    refine Wc.region rfl ?_
    refine Wl.pure (PR.assI rfl) ?_
    refine Wl.nil ?_
    refine tn ?_
    refine Wc.block ?_
    refine Wc.loopF (γ := Nat) (fun g => [(0, .pointer (some ⟨b, o, none⟩)), (3, .int .i64 (((g : Nat) : Int)))]) (fun g w_ => St [] w w_ [] ∧ (g ≤ 64) ∧ (∀ j, j < g → c j < 2 ^ n)) (fun g => 64 - g) ?_ ?_
    · exact ⟨0, (.cons rfl (.cons rfl (.nil _))), st, (by first | omega | (dsimp only; omega)), (fun j hj => by omega)⟩
    clear st
    rintro k w3 ⟨st, hk, hg⟩
    try dsimp only at st hk hg ⊢
    refine Wc.seq ?_
    refine Wc.seq ?_
    refine Wc.region rfl ?_
    refine Wl.pure (PR.moveI rfl) ?_
    refine Wl.pure (PR.lss (a := ((k : Nat) : Int)) (b := 64) rfl rfl) ?_
    refine Wl.nil ?_
    refine tn ?_
    refine Wc.condD (p := ((k : Nat) : Int) < 64) rfl (fun h4 => ?_) (fun h4 => ?_)
    · refine Wc.skip ?_
      refine tn ?_
      refine Wc.seq ?_
      refine Wc.block ?_
      refine Wc.seq ?_
      refine Wc.quiet hmix (by kernel_rfl) rfl ?_
      refine Wq.pure (PR.moveP rfl) ?_
      refine Wq.pure (PR.moveI rfl) ?_
      refine Wq.pure (PR.nil_ rfl) ?_
      refine Wq.pure (PR.fieldAddr tF_29_1 rfl) ?_
      refine Wq.pure (PR.idxAddrA1 (i := k) tE_23 rfl rfl (by omega)) ?_
      refine Wq.loadC tA_5 rfl ((hR.st st).at_ (layV_get_c (by omega)) (Nat.add_assoc _ _ _).symm) ?_
      refine Wq.pure (PR.moveP rfl) ?_
      refine Wq.pure (PR.nil_ rfl) ?_
      refine Wq.pure (PR.fieldAddr tF_29_0 rfl) ?_
      refine Wq.loadC tA_22 rfl ((hR.st st).at_ (j := 0) (rfl) rfl) ?_
      refine Wq.pure (PR.conv (n := ((n : Nat) : Int)) tI_76 rfl (by simp only [fitI]; omega) Try.underlying22) ?_
      refine Wq.pure (PR.shr (a := c (k)) (n := n) rfl rfl (by decide) (hc (k))) ?_
      refine Wq.pure (PR.neq (a := ((((c (k)) >>> n) : Nat) : Int)) (b := 0) rfl rfl) ?_
      refine Wq.nil (fun w5 hbel => ?_)
      replace st := st.call hbel
      clear hbel
      refine tn ?_
      refine Wc.condN (p := ((((c (k)) >>> n) : Nat) : Int) = 0) rfl (fun h6 => ?_) (fun h6 => ?_)
      · refine Wc.seq ?_
        have hx : ¬ c k < 2 ^ n := fun h => absurd (shr_zero.2 h) (by omega)
        refine Wc.region rfl ?_
        refine Wl.pure (PR.assB rfl) ?_
        refine Wl.nil ?_
        refine tn ?_
        refine Wc.ret ?_
        refine br ?_
        refine tr ?_
        refine tr ?_
        refine br ?_
        refine tr ?_
        refine postL.tmp rfl rfl ?_
        refine RetV.of ?_ st.below
        refine congrArg Value.bool ?_
        first | exact (layOk_f1 (by assumption)).symm | exact (layOk_f2 (k := k) (by omega) hx).symm | exact (layOk_t (by omega) (fun j hj => hg j (by omega))).symm
      · refine Wc.skip ?_
        refine bn ?_
        refine tn ?_
        refine Wc.region rfl ?_
        refine Wl.pure (PR.moveI rfl) ?_
        refine Wl.pure (PR.add (a := ((k : Nat) : Int)) (b := 1) rfl rfl (by simp only [fitI]; omega)) ?_
        refine Wl.pure (PR.assI rfl) ?_
        refine Wl.nil ?_
        refine tn ?_
        have hx : c k < 2 ^ n := shr_zero.1 (by omega)
        exact ⟨k + 1, (.cons rfl (.cons rfl (.nil _))), ⟨st, (by first | omega | (dsimp only; omega)), (all_snoc hg hx)⟩, (by first | omega | (dsimp only; omega))⟩
    · refine Wc.exit ?_
      refine tx ?_
      refine tx ?_
      refine bh ?_
      refine tn ?_
      refine Wc.seq ?_
      refine Wc.region rfl ?_
      refine Wl.pure (PR.assB rfl) ?_
      refine Wl.nil ?_
      refine tn ?_
      refine Wc.ret ?_
      refine postL.tmp rfl rfl ?_
      refine RetV.of ?_ st.below
      refine congrArg Value.bool ?_
      first | exact (layOk_f1 (by assumption)).symm | exact (layOk_f2 (k := k) (by omega) hx).symm | exact (layOk_t (by omega) (fun j hj => hg j (by omega))).symm

set_option maxHeartbeats 400000 in
set_option maxRecDepth 4000 in
theorem c_laws_toByteA64 {c : Nat → Nat} {w : World} (hc : ∀ k, c k < 256) :
    CE Try.prog 47 [.agg (arrU .u8 64 c).toArray] w (RetV w (.agg (arrU .u8 64 c).toArray)) := by
  refine CE.enter 15 [(0, .agg (arrU .u8 64 c).toArray)] en_47 Try.func47 rfl rfl (Nat.le_of_ble_eq_true rfl) rfl ?_
  have st := St.start w
  refine Wc.seq ?_
  refine Wc.region rfl ?_
  refine Wl.boxA st rfl ?_
  clear st
  intro b1 w1 st
  refine Wl.alloc st tZ_23 rfl ?_
  clear st
  intro b2 w2 st
  refine Wl.nil ?_
  refine tn ?_
  refine Wc.seq ?_
  refine Wc.region rfl ?_
  refine Wl.alloc st tZ_23 rfl ?_
  clear st
  intro b3 w3 st
  refine Wl.nil ?_
  refine tn ?_
  refine Wc.seq ?_
  refine Wc.seq ?_
  refine Wc.region rfl ?_
  refine Wl.pure (PR.assI rfl) ?_
  refine Wl.nil ?_
  refine tn ?_
  refine Wc.block ?_
  refine Wc.loopF (γ := Nat × (Nat → Nat)) (fun g => [(1, .pointer (some ⟨b1, 0, none⟩)), (2, .pointer (some ⟨b2, 0, none⟩)), (3, .pointer (some ⟨b3, 0, none⟩)), (4, .int .i64 (((g.1 : Nat) : Int)))]) (fun g w_ => St [] w w_ [(b3, arrU .u8 64 g.2, 23), (b2, arrU .u8 64 (fun _ => 0), 23), (b1, arrU .u8 64 c, 23)] ∧ (g.1 ≤ 64) ∧ (∀ j, j < g.1 → g.2 j = c j)) (fun g => 64 - g.1) ?_ ?_
  · exact ⟨(0, (fun _ => 0)), (.cons rfl (.cons rfl (.cons rfl (.cons rfl (.nil _))))), st, (by first | omega | (dsimp only; omega)), (fun j hj => by omega)⟩
  clear st
  rintro ⟨k, d⟩ w4 ⟨st, hk, hg⟩
  try dsimp only at st hk hg ⊢
  refine Wc.seq ?_
  refine Wc.seq ?_
  refine Wc.region rfl ?_
  refine Wl.pure (PR.moveI rfl) ?_
  refine Wl.pure (PR.lss (a := ((k : Nat) : Int)) (b := 64) rfl rfl) ?_
  refine Wl.nil ?_
  refine tn ?_
  refine Wc.condD (p := ((k : Nat) : Int) < 64) rfl (fun h5 => ?_) (fun h5 => ?_)
  · refine Wc.skip ?_
    refine tn ?_
    refine Wc.seq ?_
    refine Wc.block ?_
    refine Wc.region rfl ?_
    refine Wl.pure (PR.moveI rfl) ?_
    refine Wl.pure (PR.moveI rfl) ?_
    refine Wl.pure (PR.idxAddrA1 (i := k) tE_23 rfl rfl (by omega)) ?_
    refine Wl.load (i := 2) st tA_5 rfl rfl (arrU_get0 (by omega)) ?_
    refine Wl.pure (PR.idxAddrA1 (i := k) tE_23 rfl rfl (by omega)) ?_
    refine Wl.store (i := 0) (cs' := arrU .u8 64 (upd d (k) (c (k)))) st tA_5 rfl rfl rfl rfl (lt_of_len (arrU_len _) (by omega)) (arrU_set0) ?_
    clear st
    intro w6 st
    replace st : St [] w w6 [(b3, arrU .u8 64 (upd d (k) (c (k))), 23), (b2, arrU .u8 64 (fun _ => 0), 23), (b1, arrU .u8 64 c, 23)] := st
    refine Wl.nil ?_
    refine bn ?_
    refine tn ?_
    refine Wc.region rfl ?_
    refine Wl.pure (PR.moveI rfl) ?_
    refine Wl.pure (PR.add (a := ((k : Nat) : Int)) (b := 1) rfl rfl (by simp only [fitI]; omega)) ?_
    refine Wl.pure (PR.assI rfl) ?_
    refine Wl.nil ?_
    refine tn ?_
    exact ⟨(k + 1, upd d (k) (c (k))), (.cons rfl (.cons rfl (.cons rfl (.cons rfl (.nil _))))), ⟨st, (by first | omega | (dsimp only; omega)), (upd_snoc hg rfl)⟩, (by first | omega | (dsimp only; omega))⟩
  · refine Wc.exit ?_
    refine tx ?_
    refine tx ?_
    refine bh ?_
    refine tn ?_
    refine Wc.seq ?_
    refine Wc.region rfl ?_
    refine Wl.loadA (i := 0) st tA_23 rfl rfl (all_sub (arrU_len _)) (arrU_len _) ?_
    refine Wl.storeA (i := 1) (cs' := arrU .u8 64 d) st tA_23 rfl rfl (arrU_len _) (arrU_one _) rfl (le_of_len (arrU_len _) (by omega)) (all_put (arrU_len _)) ?_
    clear st
    intro w7 st
    replace st : St [] w w7 [(b3, arrU .u8 64 d, 23), (b2, arrU .u8 64 d, 23), (b1, arrU .u8 64 c, 23)] := st
    refine Wl.nil ?_
    refine tn ?_
    refine Wc.ret ?_
    refine postL.cell (i := 1) st rfl tA_23 rfl rfl (arrU_len _) ?_
    refine RetV.of ?_ st.below
    exact congrArg (fun l : List Value => Value.agg l.toArray) (arrU_congr fun j hj => hg j (by omega))

set_option maxHeartbeats 400000 in
set_option maxRecDepth 4000 in
theorem c_laws_toLayer {p : Int} {c : Nat → Nat} {w : World} (hc : ∀ k, c k < 256) :
    CE Try.prog 10 [.agg (layV (p) (c)).toArray] w (RetV w (.agg (layV (p) (c)).toArray)) := by
  refine CE.enter 12 [(0, .agg (layV (p) (c)).toArray)] en_10 Try.func10 rfl rfl (Nat.le_of_ble_eq_true rfl) rfl ?_
  have st := St.start w
  refine Wc.seq ?_
  refine Wc.region rfl ?_
  refine Wl.boxA st rfl ?_
  clear st
  intro b1 w1 st
  refine Wl.alloc st tZ_29 rfl ?_
  clear st
  intro b2 w2 st
  refine Wl.nil ?_
  refine tn ?_
  refine Wc.seq ?_
  refine Wc.region rfl ?_
  refine Wl.alloc st tZ_29 rfl ?_
  clear st
  intro b3 w3 st
  refine Wl.nil ?_
  refine tn ?_
  refine Wc.seq ?_
  refine Wc.region rfl ?_
  refine Wl.pure (PR.fieldAddr tF_25_0 rfl) ?_
  refine Wl.load (i := 2) st tA_22 rfl rfl (rfl) ?_
  refine Wl.pure (PR.fieldAddr tF_29_0 rfl) ?_
  refine Wl.store (i := 0) (cs' := layV (p) ((fun _ => 0))) st tA_22 rfl rfl rfl rfl (lt_of_len layV_len (by omega)) (rfl) ?_
  clear st
  intro w4 st
  replace st : St [] w w4 [(b3, layV (p) ((fun _ => 0)), 29), (b2, layV (0) ((fun _ => 0)), 29), (b1, layV (p) (c), 25)] := st
  refine Wl.nil ?_
  refine tn ?_
  refine Wc.seq ?_
  refine Wc.region rfl ?_
  refine Wl.pure (PR.fieldAddr tF_25_1 rfl) ?_
  refine Wl.loadA (i := 2) st tA_23 rfl rfl layV_sub_c (arrU_len _) ?_
  refine Wl.callV (c_laws_toByteA64 (c := c) hc) rfl ?_
  intro w5 hbel
  replace st := st.call hbel
  clear hbel
  refine Wl.pure (PR.fieldAddr tF_29_1 rfl) ?_
  refine Wl.storeA (i := 0) (cs' := layV (p) (c)) st tA_23 rfl rfl (arrU_len _) (arrU_one _) rfl (le_of_len layV_len (by omega)) layV_put_c ?_
  clear st
  intro w6 st
  replace st : St [] w w6 [(b3, layV (p) (c), 29), (b2, layV (0) ((fun _ => 0)), 29), (b1, layV (p) (c), 25)] := st
  refine Wl.nil ?_
  refine tn ?_
  refine Wc.seq ?_
  refine Wc.region rfl ?_
  refine Wl.loadA (i := 0) st tA_29 rfl rfl (all_sub layV_len) layV_len ?_
  refine Wl.storeA (i := 1) (cs' := layV (p) (c)) st tA_29 rfl rfl layV_len layV_one rfl (le_of_len layV_len (by omega)) (all_put layV_len) ?_
  clear st
  intro w7 st
  replace st : St [] w w7 [(b3, layV (p) (c), 29), (b2, layV (p) (c), 29), (b1, layV (p) (c), 25)] := st
  refine Wl.nil ?_
  refine tn ?_
  refine Wc.ret ?_
  refine postL.cell (i := 1) st rfl tA_29 rfl rfl layV_len ?_
  exact RetV.of rfl st.below

set_option maxHeartbeats 400000 in
set_option maxRecDepth 4000 in
theorem c_impl_areLayers {A : Option Addr} {n : Nat} {cp : Nat} {p : Nat → Int} {c : Nat → Nat → Nat} {w : World} (hR : RdS w A n (layS n p c)) (hp : ∀ i, i < n → -128 ≤ p i ∧ p i ≤ 127) (hc : ∀ i k, c i k < 256) (hn : n ≤ 1048576) :
    CE Try.prog 52 [.slice (A) (n) (cp)] w (RetV w (.bool (layAll n p c))) := by
  refine CE.enter 15 [(0, .slice (A) (n) (cp))] en_52 Try.func52 rfl rfl (Nat.le_of_ble_eq_true rfl) rfl ?_
  have st := St.start w
  refine Wc.seq ?_
  refine Wc.region rfl ?_
  refine Wl.pure (PR.assB rfl) ?_
  refine Wl.nil ?_
  refine tn ?_
  refine Wc.seq ?_
  refine Wc.seq ?_
  refine Wc.region rfl ?_
  refine Wl.pure (PR.moveL rfl) ?_
  refine Wl.pure (PR.lenL tS_37 rfl) ?_
  refine Wl.pure (PR.moveI rfl) ?_
  refine Wl.nil ?_
  refine tn ?_
  refine Wc.block ?_
  refine Wc.loopF (γ := Nat) (fun g => [(5, .slice (A) (n) (cp)), (6, .int .i64 (((n : Nat) : Int))), (7, .int .i64 (((g : Nat) : Int)))]) (fun g w_ => St [] w w_ [] ∧ (g ≤ n) ∧ (∀ j, j < g → layOk (p j) (c j) = true)) (fun g => n - g) ?_ ?_
  · exact ⟨0, (.cons rfl (.cons rfl (.cons rfl (.nil _)))), st, (by first | omega | (dsimp only; omega)), (fun j hj => by omega)⟩
  clear st
  rintro k w1 ⟨st, hk, hg⟩
  try dsimp only at st hk hg ⊢
  refine Wc.seq ?_
  refine Wc.region rfl ?_
  refine Wl.pure (PR.lss (a := ((k : Nat) : Int)) (b := ((n : Nat) : Int)) rfl rfl) ?_
  refine Wl.nil ?_
  refine tn ?_
  refine Wc.seq ?_
  refine Wc.condD (p := ((k : Nat) : Int) < ((n : Nat) : Int)) rfl (fun h2 => ?_) (fun h2 => ?_)
  · refine Wc.skip ?_
    refine tn ?_
    refine Wc.seq ?_
    refine Wc.block ?_
    refine Wc.seq ?_
    refine Wc.region rfl ?_
    obtain ⟨bs3, os4, rfl, hs5⟩ := hR (by omega)
    have := hp (k) (by omega)
    refine Wl.pure (PR.idxAddrS (i := k) tS_37 rfl rfl (by omega)) ?_
    refine Wl.loadAC (vs := layV (p k) ((c k))) tA_29 rfl layV_len ((hs5.st st).sub (recV_sub (n := n) (i := k) (layS_row _ _) (by omega)) rfl) ?_
    refine Wl.alloc st tZ_29 rfl ?_
    clear st
    intro b4 w6 st
    refine Wl.storeA (i := 0) (cs' := layV (p k) ((c k))) st tA_29 rfl rfl layV_len layV_one rfl (le_of_len layV_len (by omega)) (all_put layV_len) ?_
    clear st
    intro w7 st
    replace st : St [] w w7 [(b4, layV (p k) ((c k)), 29)] := st
    refine Wl.nil ?_
    refine tn ?_
    refine Wc.seq ?_
    refine Wc.region rfl ?_
    refine Wl.loadA (i := 0) st tA_29 rfl rfl (all_sub layV_len) layV_len ?_
    refine Wl.callV (c_impl_ValidLayer (p := p k) (c := (c k)) (by first | assumption | omega) (hc k)) rfl ?_
    intro w8 hbel
    replace st := st.call hbel
    clear hbel
    refine Wl.pure (PR.not_ rfl) ?_
    refine Wl.nil ?_
    refine tn ?_
    refine Wc.condNB (b := layOk (p k) (c k)) rfl (fun h9 => ?_) (fun h9 => ?_)
    · refine Wc.seq ?_
      refine Wc.region rfl ?_
      refine Wl.pure (PR.assB rfl) ?_
      refine Wl.nil ?_
      refine tn ?_
      refine Wc.ret ?_
      refine br ?_
      refine tr ?_
      refine tr ?_
      refine br ?_
      refine tr ?_
      refine postL.tmp rfl rfl ?_
      refine RetV.of ?_ st.below
      refine congrArg Value.bool ?_
      exact layAll_f (k := k) (by omega) (by assumption)
    · refine Wc.skip ?_
      refine bn ?_
      refine tn ?_
      refine Wc.region rfl ?_
      refine Wl.pure (PR.add (a := ((k : Nat) : Int)) (b := 1) rfl rfl (by simp only [fitI]; omega)) ?_
      refine Wl.pure (PR.moveI rfl) ?_
      refine Wl.nil ?_
      refine tn ?_
      replace st := st.tail
      exact ⟨k + 1, (.cons rfl (.cons rfl (.cons rfl (.nil _)))), ⟨st, (by first | omega | (dsimp only; omega)), (all_snoc hg (by assumption))⟩, (by first | omega | (dsimp only; omega))⟩
  · refine Wc.exit ?_
    refine tx ?_
    refine tx ?_
    refine bh ?_
    refine tn ?_
    refine Wc.seq ?_
    refine Wc.region rfl ?_
    refine Wl.pure (PR.assB rfl) ?_
    refine Wl.nil ?_
    refine tn ?_
    refine Wc.ret ?_
    refine postL.tmp rfl rfl ?_
    refine RetV.of ?_ st.below
    refine congrArg Value.bool ?_
    exact layAll_t (fun j hj => hg j (by omega))

set_option maxHeartbeats 400000 in
set_option maxRecDepth 4000 in
theorem c_spec_l01All {A : Option Addr} {n : Nat} {cp : Nat} {p : Nat → Int} {c : Nat → Nat → Nat} {w : World} (hR : RdS w A n (layS n p c)) (hp : ∀ i, i < n → -128 ≤ p i ∧ p i ≤ 127) (hc : ∀ i k, c i k < 256) (hn : n ≤ 1048576) :
    CE Try.prog 50 [.slice (A) (n) (cp)] w (RetV w (.bool (layAll n p c))) := by
  refine CE.enter 15 [(0, .slice (A) (n) (cp))] en_50 Try.func50 rfl rfl (Nat.le_of_ble_eq_true rfl) rfl ?_
  have st := St.start w
  refine Wc.seq ?_
  refine Wc.region rfl ?_
  refine Wl.pure (PR.assB rfl) ?_
  refine Wl.nil ?_
  refine tn ?_
  refine Wc.seq ?_
  refine Wc.seq ?_
  refine Wc.region rfl ?_
  refine Wl.pure (PR.assI rfl) ?_
  refine Wl.nil ?_
  refine tn ?_
  refine Wc.block ?_
  refine Wc.loopF (γ := Nat) (fun g => [(0, .slice (A) (n) (cp)), (3, .int .i64 (((g : Nat) : Int)))]) (fun g w_ => St [] w w_ [] ∧ (g ≤ n) ∧ (∀ j, j < g → layOk (p j) (c j) = true)) (fun g => n - g) ?_ ?_
  · exact ⟨0, (.cons rfl (.cons rfl (.nil _))), st, (by first | omega | (dsimp only; omega)), (fun j hj => by omega)⟩
  clear st
  rintro k w1 ⟨st, hk, hg⟩
  try dsimp only at st hk hg ⊢
  refine Wc.seq ?_
  refine Wc.seq ?_
  refine Wc.region rfl ?_
  refine Wl.pure (PR.moveI rfl) ?_
  refine Wl.pure (PR.moveL rfl) ?_
  refine Wl.pure (PR.lenL tS_37 rfl) ?_
  refine Wl.pure (PR.lss (a := ((k : Nat) : Int)) (b := ((n : Nat) : Int)) rfl rfl) ?_
  refine Wl.nil ?_
  refine tn ?_
  refine Wc.condD (p := ((k : Nat) : Int) < ((n : Nat) : Int)) rfl (fun h2 => ?_) (fun h2 => ?_)
  · refine Wc.skip ?_
    refine tn ?_
    refine Wc.seq ?_
    refine Wc.block ?_
    refine Wc.seq ?_
    refine Wc.region rfl ?_
    refine Wl.pure (PR.moveL rfl) ?_
    refine Wl.pure (PR.moveI rfl) ?_
    obtain ⟨bs3, os4, rfl, hs5⟩ := hR (by omega)
    have := hp (k) (by omega)
    refine Wl.pure (PR.idxAddrS (i := k) tS_37 rfl rfl (by omega)) ?_
    refine Wl.callV (c_spec_l01Ok (b := bs3) (o := os4 + k * 65) (p := p k) (c := (c k)) ((hs5.st st).row (recV_sub (layS_row _ _) (by omega))) (by first | assumption | omega) (hc k)) rfl ?_
    intro w6 hbel
    replace st := st.call hbel
    clear hbel
    refine Wl.pure (PR.not_ rfl) ?_
    refine Wl.nil ?_
    refine tn ?_
    refine Wc.condNB (b := layOk (p k) (c k)) rfl (fun h7 => ?_) (fun h7 => ?_)
    · refine Wc.seq ?_
      refine Wc.region rfl ?_
      refine Wl.pure (PR.assB rfl) ?_
      refine Wl.nil ?_
      refine tn ?_
      refine Wc.ret ?_
      refine br ?_
      refine tr ?_
      refine tr ?_
      refine br ?_
      refine tr ?_
      refine postL.tmp rfl rfl ?_
      refine RetV.of ?_ st.below
      refine congrArg Value.bool ?_
      exact layAll_f (k := k) (by omega) (by assumption)
    · refine Wc.skip ?_
      refine bn ?_
      refine tn ?_
      refine Wc.region rfl ?_
      refine Wl.pure (PR.moveI rfl) ?_
      refine Wl.pure (PR.add (a := ((k : Nat) : Int)) (b := 1) rfl rfl (by simp only [fitI]; omega)) ?_
      refine Wl.pure (PR.assI rfl) ?_
      refine Wl.nil ?_
      refine tn ?_
      exact ⟨k + 1, (.cons rfl (.cons rfl (.nil _))), ⟨st, (by first | omega | (dsimp only; omega)), (all_snoc hg (by assumption))⟩, (by first | omega | (dsimp only; omega))⟩
  · refine Wc.exit ?_
    refine tx ?_
    refine tx ?_
    refine bh ?_
    refine tn ?_
    refine Wc.seq ?_
    refine Wc.region rfl ?_
    refine Wl.pure (PR.assB rfl) ?_
    refine Wl.nil ?_
    refine tn ?_
    refine Wc.ret ?_
    refine postL.tmp rfl rfl ?_
    refine RetV.of ?_ st.below
    refine congrArg Value.bool ?_
    exact layAll_t (fun j hj => hg j (by omega))

end Go.Proofs.Ytagghfllgafmgaa
