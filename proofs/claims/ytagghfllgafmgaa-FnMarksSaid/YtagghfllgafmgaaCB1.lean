/-
  Contracts of functions, printed by a program of ours.
-/
import Derived.Test.YtagghfllgafmgaaCL2
import Derived.Test.YtagghfllgafmgaaShift
namespace Go.Proofs.Ytagghfllgafmgaa
open Go.RowKit
set_option linter.unusedVariables false
set_option linter.unusedSimpArgs false

set_option maxHeartbeats 400000 in
set_option maxRecDepth 4000 in
theorem c_impl_isShift {u : Int} {v : Int} {w : World} :
    CE Try.prog 72 [.int .i64 (u), .int .i64 (v)] w (RetV w (.bool (decide ((-8 ≤ u ∧ u ≤ 8) ∧ (-8 ≤ v ∧ v ≤ 8))))) := by
  refine CE.enter 11 [(0, .int .i64 (u)), (1, .int .i64 (v))] en_72 Try.func72 rfl rfl (Nat.le_of_ble_eq_true rfl) rfl ?_
  have st := St.start w
  refine Wc.seq ?_
  refine Wc.region rfl ?_
  refine Wl.pure (PR.assB rfl) ?_
  refine Wl.nil ?_
  refine tn ?_
  refine Wc.seq ?_
  refine Wc.region rfl ?_
  refine Wl.pure (PR.moveI rfl) ?_
  refine Wl.callV (c_impl_within (n := u) (lo := (-8)) (hi := 8)) rfl ?_
  intro w1 hbel
  replace st := st.call hbel
  clear hbel
  refine Wl.pure (PR.moveB rfl) ?_
  refine Wl.splitT (q := (-8) ≤ u ∧ u ≤ 8) rfl rfl (fun h2 => ?_) (fun h2 => ?_)
  · refine Wl.pure (PR.moveI rfl) ?_
    refine Wl.on rfl rfl ?_
    refine Wl.callV (c_impl_within (n := v) (lo := (-8)) (hi := 8)) rfl ?_
    intro w3 hbel
    replace st := st.call hbel
    clear hbel
    refine Wl.pure (PR.pickTB rfl rfl) ?_
    refine Wl.pure (PR.assB rfl) ?_
    refine Wl.nil ?_
    refine tn ?_
    refine Wc.ret ?_
    refine postL.tmp rfl rfl ?_
    refine RetV.of ?_ st.below
    refine congrArg Value.bool ?_
    first | exact (decide_eq_false (fun q => absurd q.1 (by assumption))).symm | exact decide_eq_decide.2 (by omega)
  · refine Wl.off rfl rfl rfl ?_
    refine Wl.pure (PR.pickFB rfl rfl) ?_
    refine Wl.pure (PR.assB rfl) ?_
    refine Wl.nil ?_
    refine tn ?_
    refine Wc.ret ?_
    refine postL.tmp rfl rfl ?_
    refine RetV.of ?_ st.below
    refine congrArg Value.bool ?_
    first | exact (decide_eq_false (fun q => absurd q.1 (by assumption))).symm | exact decide_eq_decide.2 (by omega)

set_option maxHeartbeats 400000 in
set_option maxRecDepth 4000 in
theorem c_impl_isCell {u : Int} {v : Int} {w : World} :
    CE Try.prog 101 [.int .i64 (u), .int .i64 (v)] w (RetV w (.bool (decide ((0 ≤ u ∧ u ≤ 7) ∧ (0 ≤ v ∧ v ≤ 7))))) := by
  refine CE.enter 11 [(0, .int .i64 (u)), (1, .int .i64 (v))] en_101 Try.func101 rfl rfl (Nat.le_of_ble_eq_true rfl) rfl ?_
  have st := St.start w
  refine Wc.seq ?_
  refine Wc.region rfl ?_
  refine Wl.pure (PR.assB rfl) ?_
  refine Wl.nil ?_
  refine tn ?_
  refine Wc.seq ?_
  refine Wc.region rfl ?_
  refine Wl.pure (PR.moveI rfl) ?_
  refine Wl.callV (c_impl_within (n := u) (lo := 0) (hi := 7)) rfl ?_
  intro w1 hbel
  replace st := st.call hbel
  clear hbel
  refine Wl.pure (PR.moveB rfl) ?_
  refine Wl.splitT (q := 0 ≤ u ∧ u ≤ 7) rfl rfl (fun h2 => ?_) (fun h2 => ?_)
  · refine Wl.pure (PR.moveI rfl) ?_
    refine Wl.on rfl rfl ?_
    refine Wl.callV (c_impl_within (n := v) (lo := 0) (hi := 7)) rfl ?_
    intro w3 hbel
    replace st := st.call hbel
    clear hbel
    refine Wl.pure (PR.pickTB rfl rfl) ?_
    refine Wl.pure (PR.assB rfl) ?_
    refine Wl.nil ?_
    refine tn ?_
    refine Wc.ret ?_
    refine postL.tmp rfl rfl ?_
    refine RetV.of ?_ st.below
    refine congrArg Value.bool ?_
    first | exact (decide_eq_false (fun q => absurd q.1 (by assumption))).symm | exact decide_eq_decide.2 (by omega)
  · refine Wl.off rfl rfl rfl ?_
    refine Wl.pure (PR.pickFB rfl rfl) ?_
    refine Wl.pure (PR.assB rfl) ?_
    refine Wl.nil ?_
    refine tn ?_
    refine Wc.ret ?_
    refine postL.tmp rfl rfl ?_
    refine RetV.of ?_ st.below
    refine congrArg Value.bool ?_
    first | exact (decide_eq_false (fun q => absurd q.1 (by assumption))).symm | exact decide_eq_decide.2 (by omega)

set_option maxHeartbeats 400000 in
set_option maxRecDepth 4000 in
theorem c_spec_l01Cell {u : Int} {w : World} :
    CE Try.prog 104 [.int .i64 (u)] w (RetV w (.bool (decide (0 ≤ u ∧ u ≤ 7)))) := by
  refine CE.enter 5 [(0, .int .i64 (u))] en_104 Try.func104 rfl rfl (Nat.le_of_ble_eq_true rfl) rfl ?_
  have st := St.start w
  refine Wc.seq ?_
  refine Wc.region rfl ?_
  refine Wl.pure (PR.assB rfl) ?_
  refine Wl.nil ?_
  refine tn ?_
  refine Wc.seq ?_
  refine Wc.region rfl ?_
  refine Wl.pure (PR.moveI rfl) ?_
  refine Wl.callV (c_spec_l00In (n := u) (lo := 0) (hi := 7)) rfl ?_
  intro w1 hbel
  replace st := st.call hbel
  clear hbel
  refine Wl.pure (PR.assB rfl) ?_
  refine Wl.nil ?_
  refine tn ?_
  refine Wc.ret ?_
  refine postL.tmp rfl rfl ?_
  exact RetV.of rfl st.below

set_option maxHeartbeats 400000 in
set_option maxRecDepth 4000 in
theorem c_spec_l01From {k : Nat} {u : Int} {v : Int} {w : World} (hk : k < 64) (hu : -8 ≤ u ∧ u ≤ 8) (hv : -8 ≤ v ∧ v ≤ 8) :
    CE Try.prog 83 [.int .i64 (((k : Nat) : Int)), .int .i64 (2), .int .i64 (u), .int .i64 (v)] w (RetV w (.int .i64 (shI k u v))) := by
  refine CE.enter 50 [(0, .int .i64 (((k : Nat) : Int))), (1, .int .i64 (2)), (2, .int .i64 (u)), (3, .int .i64 (v))] en_83 Try.func83 rfl rfl (Nat.le_of_ble_eq_true rfl) rfl ?_
  have st := St.start w
  refine Wc.seq ?_
  refine Wc.region rfl ?_
  refine Wl.pure (PR.assI rfl) ?_
  refine Wl.nil ?_
  refine tn ?_
  refine Wc.seq ?_
  refine Wc.region rfl ?_
  refine Wl.pure (PR.moveI rfl) ?_
  refine Wl.pure (PR.rem (a := ((k : Nat) : Int)) (b := 8) rfl rfl (by omega) (by omega)) ?_
  refine Wl.pure (PR.assI rfl) ?_
  refine Wl.nil ?_
  refine tn ?_
  refine Wc.seq ?_
  refine Wc.region rfl ?_
  refine Wl.pure (PR.moveI rfl) ?_
  refine Wl.pure (PR.quo (a := ((k : Nat) : Int)) (b := 8) rfl rfl (by omega) (by omega) (by simp only [fitI]; omega)) ?_
  refine Wl.pure (PR.assI rfl) ?_
  refine Wl.nil ?_
  refine tn ?_
  refine Wc.seq ?_
  refine Wc.seq ?_
  refine Wc.region rfl ?_
  refine Wl.pure (PR.moveI rfl) ?_
  refine Wl.nil ?_
  refine tn ?_
  refine Wc.block ?_
  refine Wc.seq ?_
  refine Wc.region rfl ?_
  refine Wl.pure (PR.eql (a := 2) (b := 0) rfl rfl) ?_
  refine Wl.pure (PR.assB rfl) ?_
  refine Wl.nil ?_
  refine tn ?_
  refine Wc.condD (p := 2 = 0) rfl (fun h1 => ?_) (fun h1 => ?_)
  · refine Wc.seq ?_
    exfalso
    omega
  · refine Wc.seq ?_
    refine Wc.region rfl ?_
    refine Wl.pure (PR.eql (a := 2) (b := 1) rfl rfl) ?_
    refine Wl.pure (PR.assB rfl) ?_
    refine Wl.nil ?_
    refine tn ?_
    refine Wc.condD (p := 2 = 1) rfl (fun h2 => ?_) (fun h2 => ?_)
    · refine Wc.seq ?_
      exfalso
      omega
    · refine Wc.skip ?_
      refine bn ?_
      refine tn ?_
      refine Wc.seq ?_
      refine Wc.seq ?_
      refine Wc.region rfl ?_
      refine Wl.pure (PR.moveI rfl) ?_
      refine Wl.pure (PR.moveI rfl) ?_
      refine Wl.pure (PR.sub (a := (((k % 8) : Nat) : Int)) (b := u) rfl rfl (by simp only [fitI]; omega)) ?_
      refine Wl.callV (c_spec_l01Cell (u := ((((k % 8) : Nat) : Int) - u))) rfl ?_
      intro w3 hbel
      replace st := st.call hbel
      clear hbel
      refine Wl.pure (PR.not_ rfl) ?_
      refine Wl.pure (PR.moveB rfl) ?_
      refine Wl.splitB (b := (!decide (0 ≤ ((((k % 8) : Nat) : Int) - u) ∧ ((((k % 8) : Nat) : Int) - u) ≤ 7))) rfl rfl (fun h4 => ?_) (fun h4 => ?_)
      · simp only [Bool.not_eq_true', Bool.not_eq_false', Bool.not_true, Bool.not_false, decide_eq_true_eq, decide_eq_false_iff_not] at h4
        refine Wl.pure (PR.moveI rfl) ?_
        refine Wl.on rfl rfl ?_
        refine Wl.pure (PR.moveI rfl) ?_
        refine Wl.on rfl rfl ?_
        refine Wl.pure (PR.sub (a := (((k / 8) : Nat) : Int)) (b := v) rfl rfl (by simp only [fitI]; omega)) ?_
        refine Wl.on rfl rfl ?_
        refine Wl.callV (c_spec_l01Cell (u := ((((k / 8) : Nat) : Int) - v))) rfl ?_
        intro w5 hbel
        replace st := st.call hbel
        clear hbel
        refine Wl.on rfl rfl ?_
        refine Wl.pure (PR.not_ rfl) ?_
        refine Wl.pure (PR.pickFB rfl rfl) ?_
        refine Wl.nil ?_
        refine tn ?_
        refine Wc.condN (p := 0 ≤ ((((k / 8) : Nat) : Int) - v) ∧ ((((k / 8) : Nat) : Int) - v) ≤ 7) rfl (fun h6 => ?_) (fun h6 => ?_)
        · refine Wc.seq ?_
          refine Wc.region rfl ?_
          refine Wl.pure (PR.assI rfl) ?_
          refine Wl.nil ?_
          refine tn ?_
          refine Wc.ret ?_
          refine tr ?_
          refine postL.tmp rfl rfl ?_
          refine RetV.of ?_ st.below
          refine congrArg (Value.int .i64) ?_
          unfold shI; split <;> omega
        · refine Wc.skip ?_
          refine tn ?_
          refine Wc.seq ?_
          refine Wc.region rfl ?_
          refine Wl.pure (PR.moveI rfl) ?_
          refine Wl.pure (PR.moveI rfl) ?_
          refine Wl.pure (PR.sub (a := (((k % 8) : Nat) : Int)) (b := u) rfl rfl (by simp only [fitI]; omega)) ?_
          refine Wl.pure (PR.moveI rfl) ?_
          refine Wl.pure (PR.moveI rfl) ?_
          refine Wl.pure (PR.sub (a := (((k / 8) : Nat) : Int)) (b := v) rfl rfl (by simp only [fitI]; omega)) ?_
          refine Wl.pure (PR.mul (a := 8) (b := ((((k / 8) : Nat) : Int) - v)) rfl rfl (by simp only [fitI]; omega)) ?_
          refine Wl.pure (PR.add (a := ((((k % 8) : Nat) : Int) - u)) (b := (8 * ((((k / 8) : Nat) : Int) - v))) rfl rfl (by simp only [fitI]; omega)) ?_
          refine Wl.pure (PR.assI rfl) ?_
          refine Wl.nil ?_
          refine tn ?_
          refine Wc.ret ?_
          refine postL.tmp rfl rfl ?_
          refine RetV.of ?_ st.below
          refine congrArg (Value.int .i64) ?_
          unfold shI; split <;> omega
      · simp only [Bool.not_eq_true', Bool.not_eq_false', Bool.not_true, Bool.not_false, decide_eq_true_eq, decide_eq_false_iff_not] at h4
        refine Wl.off rfl rfl rfl ?_
        refine Wl.off rfl rfl rfl ?_
        refine Wl.off rfl rfl rfl ?_
        refine Wl.off rfl rfl rfl ?_
        refine Wl.pure (PR.pickTB rfl rfl) ?_
        refine Wl.nil ?_
        refine tn ?_
        refine Wc.condT rfl ?_
        refine Wc.seq ?_
        refine Wc.region rfl ?_
        refine Wl.pure (PR.assI rfl) ?_
        refine Wl.nil ?_
        refine tn ?_
        refine Wc.ret ?_
        refine tr ?_
        refine postL.tmp rfl rfl ?_
        refine RetV.of ?_ st.below
        refine congrArg (Value.int .i64) ?_
        unfold shI; split <;> omega

set_option maxHeartbeats 400000 in
set_option maxRecDepth 4000 in
theorem c_impl_shifted {k : Nat} {u : Int} {v : Int} {w : World} (hk : k < 64) (hu : -8 ≤ u ∧ u ≤ 8) (hv : -8 ≤ v ∧ v ≤ 8) :
    CE Try.prog 75 [.int .i64 (((k : Nat) : Int)), .int .i64 (u), .int .i64 (v)] w (RetV w (.int .i64 (shI k u v))) := by
  refine CE.enter 25 [(0, .int .i64 (((k : Nat) : Int))), (1, .int .i64 (u)), (2, .int .i64 (v))] en_75 Try.func75 rfl rfl (Nat.le_of_ble_eq_true rfl) rfl ?_
  have st := St.start w
  refine Wc.seq ?_
  refine Wc.region rfl ?_
  refine Wl.pure (PR.assI rfl) ?_
  refine Wl.nil ?_
  refine tn ?_
  refine Wc.seq ?_
  refine Wc.region rfl ?_
  refine Wl.pure (PR.moveI rfl) ?_
  refine Wl.pure (PR.rem (a := ((k : Nat) : Int)) (b := 8) rfl rfl (by omega) (by omega)) ?_
  refine Wl.pure (PR.moveI rfl) ?_
  refine Wl.pure (PR.sub (a := (((k % 8) : Nat) : Int)) (b := u) rfl rfl (by simp only [fitI]; omega)) ?_
  refine Wl.pure (PR.moveI rfl) ?_
  refine Wl.pure (PR.quo (a := ((k : Nat) : Int)) (b := 8) rfl rfl (by omega) (by omega) (by simp only [fitI]; omega)) ?_
  refine Wl.pure (PR.moveI rfl) ?_
  refine Wl.pure (PR.sub (a := (((k / 8) : Nat) : Int)) (b := v) rfl rfl (by simp only [fitI]; omega)) ?_
  refine Wl.pure (PR.assI rfl) ?_
  refine Wl.pure (PR.assI rfl) ?_
  refine Wl.nil ?_
  refine tn ?_
  refine Wc.seq ?_
  refine Wc.seq ?_
  refine Wc.region rfl ?_
  refine Wl.pure (PR.moveI rfl) ?_
  refine Wl.pure (PR.moveI rfl) ?_
  refine Wl.callV (c_impl_isCell (u := ((((k % 8) : Nat) : Int) - u)) (v := ((((k / 8) : Nat) : Int) - v))) rfl ?_
  intro w1 hbel
  replace st := st.call hbel
  clear hbel
  refine Wl.pure (PR.not_ rfl) ?_
  refine Wl.nil ?_
  refine tn ?_
  refine Wc.condN (p := (0 ≤ ((((k % 8) : Nat) : Int) - u) ∧ ((((k % 8) : Nat) : Int) - u) ≤ 7) ∧ (0 ≤ ((((k / 8) : Nat) : Int) - v) ∧ ((((k / 8) : Nat) : Int) - v) ≤ 7)) rfl (fun h2 => ?_) (fun h2 => ?_)
  · refine Wc.seq ?_
    refine Wc.region rfl ?_
    refine Wl.pure (PR.assI rfl) ?_
    refine Wl.nil ?_
    refine tn ?_
    refine Wc.ret ?_
    refine tr ?_
    refine postL.tmp rfl rfl ?_
    refine RetV.of ?_ st.below
    refine congrArg (Value.int .i64) ?_
    unfold shI; split <;> omega
  · refine Wc.skip ?_
    refine tn ?_
    refine Wc.seq ?_
    refine Wc.region rfl ?_
    refine Wl.pure (PR.moveI rfl) ?_
    refine Wl.pure (PR.moveI rfl) ?_
    refine Wl.pure (PR.mul (a := 8) (b := ((((k / 8) : Nat) : Int) - v)) rfl rfl (by simp only [fitI]; omega)) ?_
    refine Wl.pure (PR.add (a := ((((k % 8) : Nat) : Int) - u)) (b := (8 * ((((k / 8) : Nat) : Int) - v))) rfl rfl (by simp only [fitI]; omega)) ?_
    refine Wl.pure (PR.assI rfl) ?_
    refine Wl.nil ?_
    refine tn ?_
    refine Wc.ret ?_
    refine postL.tmp rfl rfl ?_
    refine RetV.of ?_ st.below
    refine congrArg (Value.int .i64) ?_
    unfold shI; split <;> omega

set_option maxHeartbeats 400000 in
set_option maxRecDepth 4000 in
theorem c_impl_ShiftLayer_1 {b1 : Nat} {o1 : Nat} {b2 : Nat} {o2 : Nat} {b3 : Nat} {o3 : Nat} {k : Nat} {u : Int} {v : Int} {r : Int} {d : Nat → Nat} {w : World} (h1 : RdA w b1 o1 [.int .i64 u]) (h2 : RdA w b2 o2 [.int .i64 v]) (h3 : RdA w b3 o3 (layV r d)) (hk : k < 64) (hu : -8 ≤ u ∧ u ≤ 8) (hv : -8 ≤ v ∧ v ≤ 8) (hd : ∀ k, d k < 256) :
    CE Try.prog 74 [.int .i64 (((k : Nat) : Int)), .pointer (some ⟨b1, o1, none⟩), .pointer (some ⟨b2, o2, none⟩), .pointer (some ⟨b3, o3, none⟩)] w (RetV w (.int .u8 (((shC d u v k : Nat) : Int)))) := by
  refine CE.enter 17 [(0, .int .i64 (((k : Nat) : Int))), (1, .pointer (some ⟨b1, o1, none⟩)), (2, .pointer (some ⟨b2, o2, none⟩)), (3, .pointer (some ⟨b3, o3, none⟩))] en_74 Try.func74 rfl rfl (Nat.le_of_ble_eq_true rfl) rfl ?_
  have st := St.start w
  refine Wc.seq ?_
  refine Wc.region rfl ?_
  refine Wl.pure (PR.assI rfl) ?_
  refine Wl.nil ?_
  refine tn ?_
  refine Wc.seq ?_
  refine Wc.seq ?_
  refine Wc.region rfl ?_
  refine Wl.pure (PR.moveI rfl) ?_
  refine Wl.loadC tA_2 rfl ((h1.st st).at_ (j := 0) (rfl) rfl) ?_
  refine Wl.loadC tA_2 rfl ((h2.st st).at_ (j := 0) (rfl) rfl) ?_
  refine Wl.callV (c_impl_shifted (k := k) (u := u) (v := v) (by first | assumption | omega) (by first | assumption | omega) (by first | assumption | omega)) rfl ?_
  intro w1 hbel
  replace st := st.call hbel
  clear hbel
  refine Wl.pure (PR.assI rfl) ?_
  refine Wl.nil ?_
  refine tn ?_
  refine Wc.seq ?_
  have hsl := shI_lt k u v
  obtain ⟨z, hz⟩ : ∃ z, shI k u v = z := ⟨_, rfl⟩
  rw [hz]
  rw [hz] at hsl
  refine Wc.region rfl ?_
  refine Wl.pure (PR.moveI rfl) ?_
  refine Wl.pure (PR.geq (a := z) (b := 0) rfl rfl) ?_
  refine Wl.nil ?_
  refine tn ?_
  refine Wc.condD (p := 0 ≤ z) rfl (fun h2 => ?_) (fun h2 => ?_)
  · refine Wc.seq ?_
    obtain ⟨m, rfl⟩ : ∃ m : Nat, z = ((m : Nat) : Int) := ⟨z.toNat, by omega⟩
    refine Wc.region rfl ?_
    refine Wl.pure (PR.moveI rfl) ?_
    refine Wl.pure (PR.fieldAddr tF_29_1 rfl) ?_
    refine Wl.pure (PR.idxAddrA1 (i := m) tE_23 rfl rfl (by omega)) ?_
    refine Wl.loadC tA_5 rfl ((h3.st st).at_ (layV_get_c (by omega)) (Nat.add_assoc _ _ _).symm) ?_
    refine Wl.pure (PR.assI rfl) ?_
    refine Wl.nil ?_
    refine tn ?_
    refine Wc.ret ?_
    refine tr ?_
    refine postL.tmp rfl rfl ?_
    refine RetV.of ?_ st.below
    refine congrArg (fun x : Nat => Value.int .u8 (x : Int)) ?_
    exact shC_t hz
  · refine Wc.skip ?_
    refine tn ?_
    refine Wc.seq ?_
    refine Wc.region rfl ?_
    refine Wl.pure (PR.assI rfl) ?_
    refine Wl.nil ?_
    refine tn ?_
    refine Wc.ret ?_
    refine postL.tmp rfl rfl ?_
    refine RetV.of ?_ st.below
    refine congrArg (fun x : Nat => Value.int .u8 (x : Int)) ?_
    exact (shC_f (by omega)).symm

set_option maxHeartbeats 400000 in
set_option maxRecDepth 4000 in
theorem c_impl_Layer_each {p : Int} {c : Nat → Nat} {fk : Nat} {cap : List Value} {q : Nat → Nat} {w : World} (hc : ∀ k, c k < 256) (hF : ∀ i, i < 64 → ∀ w', Below w.heap.size w w' → CE Try.prog fk (.int .i64 ((i : Nat) : Int) :: cap) w' (RetV w' (.int .u8 ((q i : Nat) : Int)))) (hqb : ∀ k, q k < 256) :
    CE Try.prog 73 [.agg (layV (p) (c)).toArray, .func (.func fk) #[] cap.toArray] w (RetV w (.agg (layV (p) (q)).toArray)) := by
  refine CE.enter 21 [(0, .agg (layV (p) (c)).toArray), (1, .func (.func fk) #[] cap.toArray)] en_73 Try.func73 rfl rfl (Nat.le_of_ble_eq_true rfl) rfl ?_
  have st := St.start w
  refine Wc.seq ?_
  refine Wc.region rfl ?_
  refine Wl.boxA st rfl ?_
  clear st
  intro b2 w1 st
  refine Wl.alloc st tZ_29 rfl ?_
  clear st
  intro b4 w2 st
  refine Wl.nil ?_
  refine tn ?_
  refine Wc.seq ?_
  refine Wc.region rfl ?_
  refine Wl.pure (PR.fieldAddr tF_29_0 rfl) ?_
  refine Wl.load (i := 1) st tA_22 rfl rfl (rfl) ?_
  refine Wl.pure (PR.build (ps := [(0, .int .i8 (p))]) (cs := layV (p) ((fun _ => 0))) tB_29 rfl rfl) ?_
  refine Wl.alloc st tZ_29 rfl ?_
  clear st
  intro b5 w3 st
  refine Wl.storeA (i := 0) (cs' := layV (p) ((fun _ => 0))) st tA_29 rfl rfl layV_len layV_one rfl (le_of_len layV_len (by omega)) (all_put layV_len) ?_
  clear st
  intro w4 st
  replace st : St [] w w4 [(b5, layV (p) ((fun _ => 0)), 29), (b4, layV (0) ((fun _ => 0)), 29), (b2, layV (p) (c), 29)] := st
  refine Wl.nil ?_
  refine tn ?_
  refine Wc.seq ?_
  refine Wc.seq ?_
  refine Wc.region rfl ?_
  refine Wl.pure (PR.moveI rfl) ?_
  refine Wl.nil ?_
  refine tn ?_
  refine Wc.block ?_
  refine Wc.loopF (γ := Nat × (Nat → Nat)) (fun g => [(1, .func (.func fk) #[] cap.toArray), (4, .pointer (some ⟨b4, 0, none⟩)), (5, .pointer (some ⟨b5, 0, none⟩)), (10, .int .i64 (((g.1 : Nat) : Int)))]) (fun g w_ => St [] w w_ [(b5, layV (p) (g.2), 29), (b4, layV (0) ((fun _ => 0)), 29), (b2, layV (p) (c), 29)] ∧ (g.1 ≤ 64) ∧ (∀ j, j < g.1 → g.2 j = q j)) (fun g => 64 - g.1) ?_ ?_
  · exact ⟨(0, (fun _ => 0)), (.cons rfl (.cons rfl (.cons rfl (.cons rfl (.nil _))))), st, (by first | omega | (dsimp only; omega)), (fun j hj => by omega)⟩
  clear st
  rintro ⟨k, d⟩ w5 ⟨st, hk, hg⟩
  try dsimp only at st hk hg ⊢
  refine Wc.seq ?_
  refine Wc.region rfl ?_
  refine Wl.pure (PR.lss (a := ((k : Nat) : Int)) (b := 64) rfl rfl) ?_
  refine Wl.nil ?_
  refine tn ?_
  refine Wc.seq ?_
  refine Wc.condD (p := ((k : Nat) : Int) < 64) rfl (fun h6 => ?_) (fun h6 => ?_)
  · refine Wc.skip ?_
    refine tn ?_
    refine Wc.seq ?_
    refine Wc.block ?_
    refine Wc.seq ?_
    refine Wc.region rfl ?_
    refine Wl.pure (PR.moveI rfl) ?_
    refine Wl.pure (PR.assI rfl) ?_
    refine Wl.nil ?_
    refine tn ?_
    refine Wc.region rfl ?_
    refine Wl.pure (PR.moveI rfl) ?_
    refine Wl.pure (PR.moveF rfl) ?_
    refine Wl.pure (PR.moveI rfl) ?_
    refine Wl.callFW rfl rfl (hF k (by omega) _ st.below) ?_
    intro w7 hbel
    replace st := st.call hbel
    clear hbel
    refine Wl.pure (PR.fieldAddr tF_29_1 rfl) ?_
    refine Wl.pure (PR.idxAddrA1 (i := k) tE_23 rfl rfl (by omega)) ?_
    refine Wl.store (i := 0) (cs' := layV (p) (upd d (k) (q k))) st tA_5 rfl rfl rfl rfl (lt_of_len layV_len (by omega)) (layV_set_c) ?_
    clear st
    intro w8 st
    replace st : St [] w w8 [(b5, layV (p) (upd d (k) (q k)), 29), (b4, layV (0) ((fun _ => 0)), 29), (b2, layV (p) (c), 29)] := st
    refine Wl.nil ?_
    refine bn ?_
    refine tn ?_
    refine Wc.region rfl ?_
    refine Wl.pure (PR.add (a := ((k : Nat) : Int)) (b := 1) rfl rfl (by simp only [fitI]; omega)) ?_
    refine Wl.pure (PR.moveI rfl) ?_
    refine Wl.nil ?_
    refine tn ?_
    exact ⟨(k + 1, upd d (k) (q k)), (.cons rfl (.cons rfl (.cons rfl (.cons rfl (.nil _))))), ⟨st, (by first | omega | (dsimp only; omega)), (upd_snoc hg rfl)⟩, (by first | omega | (dsimp only; omega))⟩
  · refine Wc.exit ?_
    refine tx ?_
    refine tx ?_
    refine bh ?_
    refine tn ?_
    refine Wc.seq ?_
    refine Wc.region rfl ?_
    refine Wl.loadA (i := 0) st tA_29 rfl rfl (all_sub layV_len) layV_len ?_
    refine Wl.storeA (i := 1) (cs' := layV (p) (d)) st tA_29 rfl rfl layV_len layV_one rfl (le_of_len layV_len (by omega)) (all_put layV_len) ?_
    clear st
    intro w9 st
    replace st : St [] w w9 [(b5, layV (p) (d), 29), (b4, layV (p) (d), 29), (b2, layV (p) (c), 29)] := st
    refine Wl.nil ?_
    refine tn ?_
    refine Wc.ret ?_
    refine postL.cell (i := 1) st rfl tA_29 rfl rfl layV_len ?_
    refine RetV.of ?_ st.below
    exact congrArg (fun l : List Value => Value.agg l.toArray) (layV_congr rfl fun j hj => hg j (by omega))

set_option maxHeartbeats 400000 in
set_option maxRecDepth 4000 in
theorem c_impl_ShiftLayer {r : Int} {d : Nat → Nat} {u : Int} {v : Int} {w : World} (hr : -128 ≤ r ∧ r ≤ 127) (hd : ∀ k, d k < 256) (hok : layOk r d = true) (hu : -8 ≤ u ∧ u ≤ 8) (hv : -8 ≤ v ∧ v ≤ 8) :
    CE Try.prog 42 [.agg (layV (r) (d)).toArray, .int .i64 (u), .int .i64 (v)] w (RetV w (.tuple #[.agg (layV (r) ((shC d u v))).toArray, .int .i64 (0)])) := by
  refine CE.enter 27 [(0, .agg (layV (r) (d)).toArray), (1, .int .i64 (u)), (2, .int .i64 (v))] en_42 Try.func42 rfl rfl (Nat.le_of_ble_eq_true rfl) rfl ?_
  have st := St.start w
  refine Wc.seq ?_
  refine Wc.region rfl ?_
  refine Wl.boxA st rfl ?_
  clear st
  intro b3 w1 st
  refine Wl.boxI st rfl ?_
  clear st
  intro b4 w2 st
  refine Wl.boxI st rfl ?_
  clear st
  intro b5 w3 st
  refine Wl.alloc st tZ_29 rfl ?_
  clear st
  intro b6 w4 st
  refine Wl.pure (PR.assI rfl) ?_
  refine Wl.nil ?_
  refine tn ?_
  refine Wc.seq ?_
  refine Wc.seq ?_
  refine Wc.quietTail 9 hmix (by kernel_rfl) rfl ?_
  refine Wq.loadA (i := 3) st tA_29 rfl rfl (all_sub layV_len) layV_len ?_
  refine Wq.callV (fun _ hbel => c_impl_ValidLayer (p := r) (c := d) (by first | assumption | omega) hd) rfl ?_
  refine Wq.pure (PR.not_ rfl) ?_
  refine Wq.pure (PR.build (ps := [(0, .bool (!(layOk r d))), (1, .int .i64 (1))]) (cs := [.bool (!(layOk r d)), .int .i64 (1)]) tB_95 rfl rfl) ?_
  refine Wq.load (i := 2) st tA_2 rfl rfl (rfl) ?_
  refine Wq.load (i := 1) st tA_2 rfl rfl (rfl) ?_
  refine Wq.callV (fun _ hbel => c_impl_isShift (u := u) (v := v)) rfl ?_
  refine Wq.pure (PR.not_ rfl) ?_
  refine Wq.pure (PR.build (ps := [(0, .bool (!decide ((-8 ≤ u ∧ u ≤ 8) ∧ (-8 ≤ v ∧ v ≤ 8)))), (1, .int .i64 (2))]) (cs := [.bool (!decide ((-8 ≤ u ∧ u ≤ 8) ∧ (-8 ≤ v ∧ v ≤ 8))), .int .i64 (2)]) tB_95 rfl rfl) ?_
  refine Wq.nil (fun w5 hbel => ?_)
  replace st := st.call hbel
  clear hbel
  refine Wl.buildSlice (ps := [(0, .agg ([.bool (!(layOk r d)), .int .i64 (1)]).toArray), (1, .agg ([.bool (!decide ((-8 ≤ u ∧ u ≤ 8) ∧ (-8 ≤ v ∧ v ≤ 8))), .int .i64 (2)]).toArray)]) (cs := [.bool (!(layOk r d)), .int .i64 (1), .bool (!decide ((-8 ≤ u ∧ u ≤ 8) ∧ (-8 ≤ v ∧ v ≤ 8))), .int .i64 (2)]) st tS_127 tZ_95 rfl rfl rfl ?_
  clear st
  intro b18 w6 st
  refine Wl.callV (c_impl_firstOf (bk := b18) (o := 0) (n := 2) (cp := 2) (c := (fun i => [(!(layOk r d)), (!decide ((-8 ≤ u ∧ u ≤ 8) ∧ (-8 ≤ v ∧ v ≤ 8)))].getD i false)) (e := (fun i => [1, 2].getD i 0)) (st.rdA (i := 0) (n := 4) rfl rfl) (by first | assumption | omega)) rfl ?_
  intro w7 hbel
  replace st := st.call hbel
  clear hbel
  refine Wl.pure (PR.assI rfl) ?_
  refine Wl.nil ?_
  refine tn ?_
  refine Wc.seq ?_
  have hq9 : firstZ 2 (fun i => [(!(layOk r d)), (!decide ((-8 ≤ u ∧ u ≤ 8) ∧ (-8 ≤ v ∧ v ≤ 8)))].getD i false) (fun i => [1, 2].getD i 0) = 0 := by rw [firstZ2, hok, decide_eq_true (show (-8 ≤ u ∧ u ≤ 8) ∧ (-8 ≤ v ∧ v ≤ 8) from ⟨hu, hv⟩)]; rfl
  refine Wc.region rfl ?_
  refine Wl.pure (PR.moveI rfl) ?_
  refine Wl.pure (PR.neq (a := firstZ 2 (fun i => [(!(layOk r d)), (!decide ((-8 ≤ u ∧ u ≤ 8) ∧ (-8 ≤ v ∧ v ≤ 8)))].getD i false) (fun i => [1, 2].getD i 0)) (b := 0) rfl rfl) ?_
  refine Wl.nil ?_
  refine tn ?_
  refine Wc.condN (p := firstZ 2 (fun i => [(!(layOk r d)), (!decide ((-8 ≤ u ∧ u ≤ 8) ∧ (-8 ≤ v ∧ v ≤ 8)))].getD i false) (fun i => [1, 2].getD i 0) = 0) rfl (fun h8 => ?_) (fun h8 => ?_)
  · refine Wc.seq ?_
    exfalso
    omega
  · refine Wc.skip ?_
    refine tn ?_
    refine Wc.seq ?_
    refine Wc.region rfl ?_
    refine Wl.loadA (i := 4) st tA_29 rfl rfl (all_sub layV_len) layV_len ?_
    refine Wl.pure (PR.mkFunc (vs := [.pointer (some ⟨b4, 0, none⟩), .pointer (some ⟨b5, 0, none⟩), .pointer (some ⟨b3, 0, none⟩)]) rfl) ?_
    refine Wl.callV (c_impl_Layer_each (p := r) (c := d) (fk := 74) (cap := [.pointer (some ⟨b4, 0, none⟩), .pointer (some ⟨b5, 0, none⟩), .pointer (some ⟨b3, 0, none⟩)]) (q := (shC d u v)) hd (fun i hi w' hb => c_impl_ShiftLayer_1 ((st.rdA (i := 3) (n := 1) rfl rfl).below hb) ((st.rdA (i := 2) (n := 1) rfl rfl).below hb) ((st.rdA (i := 4) rfl (all_sub layV_len)).below hb) hi hu hv hd) (shC_lt hd u v)) rfl ?_
    intro w9 hbel
    replace st := st.call hbel
    clear hbel
    refine Wl.storeA (i := 1) (cs' := layV (r) ((shC d u v))) st tA_29 rfl rfl layV_len layV_one rfl (le_of_len layV_len (by omega)) (all_put layV_len) ?_
    clear st
    intro w10 st
    replace st : St [] w w10 [(b18, [.bool (!(layOk r d)), .int .i64 (1), .bool (!decide ((-8 ≤ u ∧ u ≤ 8) ∧ (-8 ≤ v ∧ v ≤ 8))), .int .i64 (2)], 95), (b6, layV (r) ((shC d u v)), 29), (b5, [.int .i64 (v)], 2), (b4, [.int .i64 (u)], 2), (b3, layV (r) (d), 29)] := st
    refine Wl.pure (PR.assI rfl) ?_
    refine Wl.nil ?_
    refine tn ?_
    refine Wc.ret ?_
    refine postL.many (rvs := [.cell 6 29, .tmp 7]) rfl (.cell (us := layV (r) ((shC d u v))) tA_29 rfl layV_len (st.rdA (i := 1) (n := 65) rfl (all_sub layV_len)) (.tmp (v := .int .i64 (0)) rfl .nil)) ?_
    exact RetV.of rfl st.below

set_option maxHeartbeats 400000 in
set_option maxRecDepth 4000 in
theorem c_spec_l01Carried {bk : Nat} {o : Nat} {r : Int} {d : Nat → Nat} {u : Int} {v : Int} {w : World} (hR : RdA w bk o (layV r d)) (hr : -128 ≤ r ∧ r ≤ 127) (hd : ∀ k, d k < 256) (hu : -8 ≤ u ∧ u ≤ 8) (hv : -8 ≤ v ∧ v ≤ 8) :
    CE Try.prog 55 [.pointer (some ⟨bk, o, none⟩), .int .i64 (2), .int .i64 (u), .int .i64 (v)] w (RetV w (.agg (layV (r) ((shC d u v))).toArray)) := by
  refine CE.enter 38 [(0, .pointer (some ⟨bk, o, none⟩)), (1, .int .i64 (2)), (2, .int .i64 (u)), (3, .int .i64 (v))] en_55 Try.func55 rfl rfl (Nat.le_of_ble_eq_true rfl) rfl ?_
  have st := St.start w
  refine Wc.seq ?_
  refine Wc.region rfl ?_
  refine Wl.alloc st tZ_29 rfl ?_
  clear st
  intro b8 w1 st
  refine Wl.nil ?_
  refine tn ?_
  refine Wc.seq ?_
  refine Wc.region rfl ?_
  refine Wl.pure (PR.moveP rfl) ?_
  refine Wl.pure (PR.nil_ rfl) ?_
  refine Wl.pure (PR.fieldAddr tF_29_0 rfl) ?_
  refine Wl.loadC tA_22 rfl ((hR.st st).at_ (j := 0) (rfl) rfl) ?_
  refine Wl.pure (PR.build (ps := [(0, .int .i8 (r))]) (cs := layV (r) ((fun _ => 0))) tB_29 rfl rfl) ?_
  refine Wl.alloc st tZ_29 rfl ?_
  clear st
  intro b9 w2 st
  refine Wl.storeA (i := 0) (cs' := layV (r) ((fun _ => 0))) st tA_29 rfl rfl layV_len layV_one rfl (le_of_len layV_len (by omega)) (all_put layV_len) ?_
  clear st
  intro w3 st
  replace st : St [] w w3 [(b9, layV (r) ((fun _ => 0)), 29), (b8, layV (0) ((fun _ => 0)), 29)] := st
  refine Wl.nil ?_
  refine tn ?_
  refine Wc.seq ?_
  refine Wc.seq ?_
  refine Wc.region rfl ?_
  refine Wl.pure (PR.assI rfl) ?_
  refine Wl.nil ?_
  refine tn ?_
  refine Wc.block ?_
  refine Wc.loopF (γ := Nat × (Nat → Nat)) (fun g => [(0, .pointer (some ⟨bk, o, none⟩)), (1, .int .i64 (2)), (2, .int .i64 (u)), (3, .int .i64 (v)), (8, .pointer (some ⟨b8, 0, none⟩)), (9, .pointer (some ⟨b9, 0, none⟩)), (10, .int .i64 (((g.1 : Nat) : Int)))]) (fun g w_ => St [] w w_ [(b9, layV (r) (g.2), 29), (b8, layV (0) ((fun _ => 0)), 29)] ∧ (g.1 ≤ 64) ∧ (∀ j, j < g.1 → g.2 j = shC d u v j) ∧ (∀ j, g.1 ≤ j → g.2 j = 0)) (fun g => 64 - g.1) ?_ ?_
  · exact ⟨(0, (fun _ => 0)), (.cons rfl (.cons rfl (.cons rfl (.cons rfl (.cons rfl (.cons rfl (.cons rfl (.nil _)))))))), st, (by first | omega | (dsimp only; omega)), (fun j hj => by omega), (fun _ _ => rfl)⟩
  clear st
  rintro ⟨k, e⟩ w4 ⟨st, hk, hg, hz0⟩
  try dsimp only at st hk hg hz0 ⊢
  refine Wc.seq ?_
  refine Wc.seq ?_
  refine Wc.region rfl ?_
  refine Wl.pure (PR.moveI rfl) ?_
  refine Wl.pure (PR.lss (a := ((k : Nat) : Int)) (b := 64) rfl rfl) ?_
  refine Wl.nil ?_
  refine tn ?_
  refine Wc.condD (p := ((k : Nat) : Int) < 64) rfl (fun h5 => ?_) (fun h5 => ?_)
  · refine Wc.skip ?_
    refine tn ?_
    refine Wc.seq ?_
    refine Wc.block ?_
    refine Wc.seq ?_
    refine Wc.region rfl ?_
    refine Wl.pure (PR.moveI rfl) ?_
    refine Wl.pure (PR.moveI rfl) ?_
    refine Wl.pure (PR.moveI rfl) ?_
    refine Wl.pure (PR.moveI rfl) ?_
    refine Wl.callV (c_spec_l01From (k := k) (u := u) (v := v) (by first | assumption | omega) (by first | assumption | omega) (by first | assumption | omega)) rfl ?_
    intro w6 hbel
    replace st := st.call hbel
    clear hbel
    refine Wl.pure (PR.assI rfl) ?_
    refine Wl.nil ?_
    refine tn ?_
    refine Wc.seq ?_
    have hsl := shI_lt k u v
    obtain ⟨z, hz⟩ : ∃ z, shI k u v = z := ⟨_, rfl⟩
    rw [hz]
    rw [hz] at hsl
    refine Wc.region rfl ?_
    refine Wl.pure (PR.moveI rfl) ?_
    refine Wl.pure (PR.geq (a := z) (b := 0) rfl rfl) ?_
    refine Wl.nil ?_
    refine tn ?_
    refine Wc.condD (p := 0 ≤ z) rfl (fun h7 => ?_) (fun h7 => ?_)
    · obtain ⟨m, rfl⟩ : ∃ m : Nat, z = ((m : Nat) : Int) := ⟨z.toNat, by omega⟩
      refine Wc.region rfl ?_
      refine Wl.pure (PR.moveI rfl) ?_
      refine Wl.pure (PR.moveP rfl) ?_
      refine Wl.pure (PR.moveI rfl) ?_
      refine Wl.pure (PR.nil_ rfl) ?_
      refine Wl.pure (PR.fieldAddr tF_29_1 rfl) ?_
      refine Wl.pure (PR.idxAddrA1 (i := m) tE_23 rfl rfl (by omega)) ?_
      refine Wl.loadC tA_5 rfl ((hR.st st).at_ (layV_get_c (by omega)) (Nat.add_assoc _ _ _).symm) ?_
      refine Wl.pure (PR.fieldAddr tF_29_1 rfl) ?_
      refine Wl.pure (PR.idxAddrA1 (i := k) tE_23 rfl rfl (by omega)) ?_
      refine Wl.store (i := 0) (cs' := layV (r) (upd e (k) (d (m)))) st tA_5 rfl rfl rfl rfl (lt_of_len layV_len (by omega)) (layV_set_c) ?_
      clear st
      intro w8 st
      replace st : St [] w w8 [(b9, layV (r) (upd e (k) (d (m))), 29), (b8, layV (0) ((fun _ => 0)), 29)] := st
      refine Wl.nil ?_
      refine bn ?_
      refine tn ?_
      refine Wc.region rfl ?_
      refine Wl.pure (PR.moveI rfl) ?_
      refine Wl.pure (PR.add (a := ((k : Nat) : Int)) (b := 1) rfl rfl (by simp only [fitI]; omega)) ?_
      refine Wl.pure (PR.assI rfl) ?_
      refine Wl.nil ?_
      refine tn ?_
      exact ⟨(k + 1, upd e (k) (d (m))), (.cons rfl (.cons rfl (.cons rfl (.cons rfl (.cons rfl (.cons rfl (.cons rfl (.nil _)))))))), ⟨st, (by first | omega | (dsimp only; omega)), (by first | exact upd_snoc hg (shC_t hz) | exact sh_s hg hz0 (shC_f (by omega))), (by first | exact sh_z hz0 | exact fun j hj => hz0 j (by omega))⟩, (by first | omega | (dsimp only; omega))⟩
    · refine Wc.skip ?_
      refine bn ?_
      refine tn ?_
      refine Wc.region rfl ?_
      refine Wl.pure (PR.moveI rfl) ?_
      refine Wl.pure (PR.add (a := ((k : Nat) : Int)) (b := 1) rfl rfl (by simp only [fitI]; omega)) ?_
      refine Wl.pure (PR.assI rfl) ?_
      refine Wl.nil ?_
      refine tn ?_
      exact ⟨(k + 1, e), (.cons rfl (.cons rfl (.cons rfl (.cons rfl (.cons rfl (.cons rfl (.cons rfl (.nil _)))))))), ⟨st, (by first | omega | (dsimp only; omega)), (by first | exact upd_snoc hg (shC_t hz) | exact sh_s hg hz0 (shC_f (by omega))), (by first | exact sh_z hz0 | exact fun j hj => hz0 j (by omega))⟩, (by first | omega | (dsimp only; omega))⟩
  · refine Wc.exit ?_
    refine tx ?_
    refine tx ?_
    refine bh ?_
    refine tn ?_
    refine Wc.seq ?_
    refine Wc.region rfl ?_
    refine Wl.loadA (i := 0) st tA_29 rfl rfl (all_sub layV_len) layV_len ?_
    refine Wl.storeA (i := 1) (cs' := layV (r) (e)) st tA_29 rfl rfl layV_len layV_one rfl (le_of_len layV_len (by omega)) (all_put layV_len) ?_
    clear st
    intro w9 st
    replace st : St [] w w9 [(b9, layV (r) (e), 29), (b8, layV (r) (e), 29)] := st
    refine Wl.nil ?_
    refine tn ?_
    refine Wc.ret ?_
    refine postL.cell (i := 1) st rfl tA_29 rfl rfl layV_len ?_
    refine RetV.of ?_ st.below
    exact congrArg (fun l : List Value => Value.agg l.toArray) (layV_congr rfl fun j hj => hg j (by omega))

end Go.Proofs.Ytagghfllgafmgaa
