/-
  Contracts of functions, printed by a program of ours.
-/
import Derived.Test.YtgcgfcfkbeomdaaCH0
import Derived.Test.YtgcgfcfkbeomdaaCS1
import Derived.Test.YtgcgfcfkbeomdaaHand
namespace Go.Proofs.Ytgcgfcfkbeomdaa
open Go.RowKit
set_option linter.unusedVariables false
set_option linter.unusedSimpArgs false

set_option maxHeartbeats 400000 in
set_option maxRecDepth 4000 in
theorem c_slices_IndexFunc_impl_Handing_impl_Handing {A : Option Addr} {n : Nat} {cp : Nat} {x : Nat → Int} {y : Nat → Int} {fk : Nat} {cap : List Value} {q : Nat → Bool} {w : World} (hR : RdS w A n (hanV n x y)) (hx : ∀ i, i < n → -128 ≤ x i ∧ x i ≤ 127) (hy : ∀ i, i < n → -128 ≤ y i ∧ y i ≤ 127) (hn : n ≤ 1048576) (hF : ∀ i, i < n → ∀ w', Below w.heap.size w w' → CE Try.prog fk (.agg [.int .i8 (x i), .int .i8 (y i)].toArray :: cap) w' (RetV w' (.bool (q i)))) :
    CE Try.prog 57 [.slice (A) (n) (cp), .func (.func fk) #[] cap.toArray] w (RetV w (.int .i64 (idxZ n q))) := by
  refine CE.enter 19 [(0, .slice (A) (n) (cp)), (1, .func (.func fk) #[] cap.toArray)] en_57 Try.func57 rfl rfl (Nat.le_of_ble_eq_true rfl) rfl ?_
  have st := St.start w
  refine Wc.seq ?_
  refine Wc.region rfl ?_
  refine Wl.pure (PR.assI rfl) ?_
  refine Wl.nil ?_
  refine tn ?_
  refine Wc.seq ?_
  refine Wc.seq ?_
  refine Wc.region rfl ?_
  refine Wl.pure (PR.moveL rfl) ?_
  refine Wl.pure (PR.lenL tS_25 rfl) ?_
  refine Wl.pure (PR.moveI rfl) ?_
  refine Wl.nil ?_
  refine tn ?_
  refine Wc.block ?_
  refine Wc.loopF (γ := Nat) (fun g => [(0, .slice (A) (n) (cp)), (1, .func (.func fk) #[] cap.toArray), (7, .int .i64 (((n : Nat) : Int))), (8, .int .i64 (((g : Nat) : Int)))]) (fun g w_ => St [] w w_ [] ∧ (g ≤ n) ∧ (idxZ n q = idxF q (n - g) g)) (fun g => n - g) ?_ ?_
  · exact ⟨0, (.cons rfl (.cons rfl (.cons rfl (.cons rfl (.nil _))))), st, (by first | omega | (dsimp only; omega)), rfl⟩
  clear st
  rintro k w1 ⟨st, hk, hg⟩
  try dsimp only at st hk hg ⊢
  refine Wc.seq ?_
  refine Wc.region rfl ?_
  refine Wl.pure (PR.lss (a := ((k : Nat) : Int)) (b := ((n : Nat) : Int)) rfl rfl) ?_
  refine Wl.nil ?_
  refine tn ?_
  refine Wc.seq ?_
  refine Wc.condD (p := ((k : Nat) : Int) < ((n : Nat) : Int)) rfl (fun h2 => ?_) (fun h2 => ?_)
  · refine Wc.skip ?_
    refine tn ?_
    refine Wc.seq ?_
    refine Wc.block ?_
    refine Wc.seq ?_
    refine Wc.region rfl ?_
    refine Wl.pure (PR.moveI rfl) ?_
    refine Wl.pure (PR.assI rfl) ?_
    refine Wl.nil ?_
    refine tn ?_
    refine Wc.seq ?_
    refine Wc.region rfl ?_
    refine Wl.pure (PR.moveF rfl) ?_
    refine Wl.pure (PR.moveL rfl) ?_
    refine Wl.pure (PR.moveI rfl) ?_
    obtain ⟨bs3, os4, rfl, hs5⟩ := hR (by omega)
    have := hx (k) (by omega)
    have := hy (k) (by omega)
    refine Wl.pure (PR.idxAddrS (i := k) tS_25 rfl rfl (by omega)) ?_
    refine Wl.loadAC (vs := [.int .i8 (x k), .int .i8 (y k)]) tA_51 rfl rfl ((hs5.st st).sub (recV_sub (n := n) (i := k) (hanV_row _ _) (by omega)) rfl) ?_
    refine Wl.callFW rfl rfl (hF k (by omega) _ st.below) ?_
    intro w6 hbel
    replace st := st.call hbel
    clear hbel
    refine Wl.nil ?_
    refine tn ?_
    refine Wc.condB (b := q k) rfl (fun h7 => ?_) (fun h7 => ?_)
    · refine Wc.seq ?_
      refine Wc.region rfl ?_
      refine Wl.pure (PR.moveI rfl) ?_
      refine Wl.pure (PR.assI rfl) ?_
      refine Wl.nil ?_
      refine tn ?_
      refine Wc.ret ?_
      refine br ?_
      refine tr ?_
      refine tr ?_
      refine br ?_
      refine tr ?_
      refine postL.tmp rfl rfl ?_
      refine RetV.of ?_ st.below
      refine congrArg (Value.int .i64) ?_
      exact idx_t (by omega) hg (by assumption)
    · refine Wc.skip ?_
      refine bn ?_
      refine tn ?_
      refine Wc.region rfl ?_
      refine Wl.pure (PR.add (a := ((k : Nat) : Int)) (b := 1) rfl rfl (by simp only [fitI]; omega)) ?_
      refine Wl.pure (PR.moveI rfl) ?_
      refine Wl.nil ?_
      refine tn ?_
      exact ⟨k + 1, (.cons rfl (.cons rfl (.cons rfl (.cons rfl (.nil _))))), ⟨st, (by first | omega | (dsimp only; omega)), (idx_f (by omega) hg (by assumption))⟩, (by first | omega | (dsimp only; omega))⟩
  · refine Wc.exit ?_
    refine tx ?_
    refine tx ?_
    refine bh ?_
    refine tn ?_
    refine Wc.seq ?_
    refine Wc.region rfl ?_
    refine Wl.pure (PR.assI rfl) ?_
    refine Wl.nil ?_
    refine tn ?_
    refine Wc.ret ?_
    refine postL.tmp rfl rfl ?_
    refine RetV.of ?_ st.below
    refine congrArg (Value.int .i64) ?_
    exact idx_e (by omega) hg

set_option maxHeartbeats 400000 in
set_option maxRecDepth 4000 in
theorem c_slices_ContainsFunc_impl_Handing_impl_Handing {A : Option Addr} {n : Nat} {cp : Nat} {x : Nat → Int} {y : Nat → Int} {fk : Nat} {cap : List Value} {q : Nat → Bool} {w : World} (hR : RdS w A n (hanV n x y)) (hx : ∀ i, i < n → -128 ≤ x i ∧ x i ≤ 127) (hy : ∀ i, i < n → -128 ≤ y i ∧ y i ≤ 127) (hn : n ≤ 1048576) (hF : ∀ i, i < n → ∀ w', Below w.heap.size w w' → CE Try.prog fk (.agg [.int .i8 (x i), .int .i8 (y i)].toArray :: cap) w' (RetV w' (.bool (q i)))) :
    CE Try.prog 51 [.slice (A) (n) (cp), .func (.func fk) #[] cap.toArray] w (RetV w (.bool (anyB n q))) := by
  refine CE.enter 9 [(0, .slice (A) (n) (cp)), (1, .func (.func fk) #[] cap.toArray)] en_51 Try.func51 rfl rfl (Nat.le_of_ble_eq_true rfl) rfl ?_
  have st := St.start w
  refine Wc.seq ?_
  refine Wc.region rfl ?_
  refine Wl.pure (PR.assB rfl) ?_
  refine Wl.nil ?_
  refine tn ?_
  refine Wc.seq ?_
  refine Wc.region rfl ?_
  refine Wl.pure (PR.moveL rfl) ?_
  refine Wl.pure (PR.moveF rfl) ?_
  refine Wl.callV (c_slices_IndexFunc_impl_Handing_impl_Handing (A := A) (n := n) (cp := cp) (x := x) (y := y) (fk := fk) (cap := cap) (q := q) (hR.st st) hx hy (by first | assumption | omega) (fun i hi w' hb => hF i hi w' (st.below.trans (hb.mono st.below.size)))) rfl ?_
  intro w1 hbel
  replace st := st.call hbel
  clear hbel
  refine Wl.pure (PR.geq (a := idxZ n q) (b := 0) rfl rfl) ?_
  refine Wl.pure (PR.assB rfl) ?_
  refine Wl.nil ?_
  refine tn ?_
  refine Wc.ret ?_
  refine postL.tmp rfl rfl ?_
  refine RetV.of ?_ st.below
  exact congrArg Value.bool (any_idx n q)

set_option maxHeartbeats 400000 in
set_option maxRecDepth 4000 in
theorem c_impl_isPerson {n : Int} {w : World} :
    CE Try.prog 43 [.int .i64 (n)] w (RetV w (.bool (decide (0 ≤ n ∧ n ≤ 9)))) := by
  refine CE.enter 5 [(0, .int .i64 (n))] en_43 Try.func43 rfl rfl (Nat.le_of_ble_eq_true rfl) rfl ?_
  have st := St.start w
  refine Wc.seq ?_
  refine Wc.region rfl ?_
  refine Wl.pure (PR.assB rfl) ?_
  refine Wl.nil ?_
  refine tn ?_
  refine Wc.seq ?_
  refine Wc.region rfl ?_
  refine Wl.pure (PR.moveI rfl) ?_
  refine Wl.callV (c_impl_within (n := n) (lo := 0) (hi := 9)) rfl ?_
  intro w1 hbel
  replace st := st.call hbel
  clear hbel
  refine Wl.pure (PR.assB rfl) ?_
  refine Wl.nil ?_
  refine tn ?_
  refine Wc.ret ?_
  refine postL.tmp rfl rfl ?_
  exact RetV.of rfl st.below

set_option maxHeartbeats 400000 in
set_option maxRecDepth 4000 in
theorem c_spec_l07Person {n : Int} {w : World} :
    CE Try.prog 41 [.int .i64 (n)] w (RetV w (.bool (decide (0 ≤ n ∧ n ≤ 9)))) := by
  refine CE.enter 5 [(0, .int .i64 (n))] en_41 Try.func41 rfl rfl (Nat.le_of_ble_eq_true rfl) rfl ?_
  have st := St.start w
  refine Wc.seq ?_
  refine Wc.region rfl ?_
  refine Wl.pure (PR.assB rfl) ?_
  refine Wl.nil ?_
  refine tn ?_
  refine Wc.seq ?_
  refine Wc.region rfl ?_
  refine Wl.pure (PR.moveI rfl) ?_
  refine Wl.callV (c_spec_l00In (n := n) (lo := 0) (hi := 9)) rfl ?_
  intro w1 hbel
  replace st := st.call hbel
  clear hbel
  refine Wl.pure (PR.assB rfl) ?_
  refine Wl.nil ?_
  refine tn ?_
  refine Wc.ret ?_
  refine postL.tmp rfl rfl ?_
  exact RetV.of rfl st.below

set_option maxHeartbeats 400000 in
set_option maxRecDepth 4000 in
theorem c_impl_areHandings_1 {bk : Nat} {o : Nat} {u : Int} {v : Int} {s : Int} {w : World} (hR : RdA w bk o [.int .i8 s]) (hu : -128 ≤ u ∧ u ≤ 127) (hv : -128 ≤ v ∧ v ≤ 127) (hs : -128 ≤ s ∧ s ≤ 127) :
    CE Try.prog 52 [.agg ([.int .i8 (u), .int .i8 (v)]).toArray, .pointer (some ⟨bk, o, none⟩)] w (RetV w (.bool (!decide (hanP s u v)))) := by
  refine CE.enter 20 [(0, .agg ([.int .i8 (u), .int .i8 (v)]).toArray), (1, .pointer (some ⟨bk, o, none⟩))] en_52 Try.func52 rfl rfl (Nat.le_of_ble_eq_true rfl) rfl ?_
  have st := St.start w
  refine Wc.seq ?_
  refine Wc.region rfl ?_
  refine Wl.boxA st rfl ?_
  clear st
  intro b2 w1 st
  refine Wl.pure (PR.assB rfl) ?_
  refine Wl.nil ?_
  refine tn ?_
  refine Wc.seq ?_
  refine Wc.region rfl ?_
  refine Wl.pure (PR.fieldAddr tF_51_0 rfl) ?_
  refine Wl.load (i := 0) st tA_28 rfl rfl (rfl) ?_
  refine Wl.pure (PR.lss (a := u) (b := 0) rfl rfl) ?_
  refine Wl.pure (PR.moveB rfl) ?_
  refine Wl.splitF (q := u < 0) rfl rfl (fun h2 => ?_) (fun h2 => ?_)
  · refine Wl.pure (PR.fieldAddr tF_51_0 rfl) ?_
    refine Wl.on rfl rfl ?_
    refine Wl.load (i := 0) st tA_28 rfl rfl (rfl) ?_
    refine Wl.on rfl rfl ?_
    refine Wl.loadC tA_28 rfl ((hR.st st).at_ (j := 0) (rfl) rfl) ?_
    refine Wl.on rfl rfl ?_
    refine Wl.pure (PR.geq (a := u) (b := s) rfl rfl) ?_
    refine Wl.pure (PR.pickFB rfl rfl) ?_
    refine Wl.pure (PR.moveB rfl) ?_
    refine Wl.splitF (q := s ≤ u) rfl rfl (fun h3 => ?_) (fun h3 => ?_)
    · refine Wl.pure (PR.fieldAddr tF_51_1 rfl) ?_
      refine Wl.on rfl rfl ?_
      refine Wl.load (i := 0) st tA_28 rfl rfl (rfl) ?_
      refine Wl.on rfl rfl ?_
      refine Wl.pure (PR.conv (n := v) tI_2 rfl (by simp only [fitI]; omega) Try.underlying28) ?_
      refine Wl.on rfl rfl ?_
      refine Wl.callV (c_impl_isPerson (n := v)) rfl ?_
      intro w4 hbel
      replace st := st.call hbel
      clear hbel
      refine Wl.on rfl rfl ?_
      refine Wl.pure (PR.not_ rfl) ?_
      refine Wl.pure (PR.pickFB rfl rfl) ?_
      refine Wl.pure (PR.assB rfl) ?_
      refine Wl.nil ?_
      refine tn ?_
      refine Wc.ret ?_
      refine postL.tmp rfl rfl ?_
      refine RetV.of ?_ st.below
      refine congrArg Value.bool ?_
      first | exact (by rw [decide_eq_false (by unfold hanP; omega)]; rfl) | (rw [show hanP s u v ↔ (0 ≤ v ∧ v ≤ 9) by unfold hanP; omega]; done) | (rw [decide_eq_decide.2 (show hanP s u v ↔ (0 ≤ v ∧ v ≤ 9) by unfold hanP; omega)])
    · refine Wl.off rfl rfl rfl ?_
      refine Wl.off rfl rfl rfl ?_
      refine Wl.off rfl rfl rfl ?_
      refine Wl.off rfl rfl rfl ?_
      refine Wl.pure (PR.pickTB rfl rfl) ?_
      refine Wl.pure (PR.assB rfl) ?_
      refine Wl.nil ?_
      refine tn ?_
      refine Wc.ret ?_
      refine postL.tmp rfl rfl ?_
      refine RetV.of ?_ st.below
      refine congrArg Value.bool ?_
      first | exact (by rw [decide_eq_false (by unfold hanP; omega)]; rfl) | (rw [show hanP s u v ↔ (0 ≤ v ∧ v ≤ 9) by unfold hanP; omega]; done) | (rw [decide_eq_decide.2 (show hanP s u v ↔ (0 ≤ v ∧ v ≤ 9) by unfold hanP; omega)])
  · refine Wl.off rfl rfl rfl ?_
    refine Wl.off rfl rfl rfl ?_
    refine Wl.off rfl rfl rfl ?_
    refine Wl.pure (PR.pickTB rfl rfl) ?_
    refine Wl.pure (PR.moveB rfl) ?_
    refine Wl.off rfl rfl rfl ?_
    refine Wl.off rfl rfl rfl ?_
    refine Wl.off rfl rfl rfl ?_
    refine Wl.off rfl rfl rfl ?_
    refine Wl.off rfl rfl rfl ?_
    refine Wl.pure (PR.pickTB rfl rfl) ?_
    refine Wl.pure (PR.assB rfl) ?_
    refine Wl.nil ?_
    refine tn ?_
    refine Wc.ret ?_
    refine postL.tmp rfl rfl ?_
    refine RetV.of ?_ st.below
    refine congrArg Value.bool ?_
    first | exact (by rw [decide_eq_false (by unfold hanP; omega)]; rfl) | (rw [show hanP s u v ↔ (0 ≤ v ∧ v ≤ 9) by unfold hanP; omega]; done) | (rw [decide_eq_decide.2 (show hanP s u v ↔ (0 ≤ v ∧ v ≤ 9) by unfold hanP; omega)])

set_option maxHeartbeats 400000 in
set_option maxRecDepth 4000 in
theorem c_impl_areHandings {A : Option Addr} {n : Nat} {cp : Nat} {x : Nat → Int} {y : Nat → Int} {s : Int} {w : World} (hR : RdS w A n (hanV n x y)) (hx : ∀ i, i < n → -128 ≤ x i ∧ x i ≤ 127) (hy : ∀ i, i < n → -128 ≤ y i ∧ y i ≤ 127) (hn : n ≤ 1048576) (hs : -128 ≤ s ∧ s ≤ 127) :
    CE Try.prog 36 [.slice (A) (n) (cp), .int .i8 (s)] w (RetV w (.bool (hanOk s n x y))) := by
  refine CE.enter 14 [(0, .slice (A) (n) (cp)), (1, .int .i8 (s))] en_36 Try.func36 rfl rfl (Nat.le_of_ble_eq_true rfl) rfl ?_
  have st := St.start w
  refine Wc.seq ?_
  refine Wc.region rfl ?_
  refine Wl.boxI st rfl ?_
  clear st
  intro b3 w1 st
  refine Wl.pure (PR.assB rfl) ?_
  refine Wl.nil ?_
  refine tn ?_
  refine Wc.seq ?_
  refine Wc.region rfl ?_
  refine Wl.pure (PR.moveL rfl) ?_
  refine Wl.pure (PR.lenL tS_25 rfl) ?_
  refine Wl.pure (PR.leq (a := ((n : Nat) : Int)) (b := 60) rfl rfl) ?_
  refine Wl.pure (PR.moveB rfl) ?_
  refine Wl.splitT (q := ((n : Nat) : Int) ≤ 60) rfl rfl (fun h2 => ?_) (fun h2 => ?_)
  · refine Wl.pure (PR.moveL rfl) ?_
    refine Wl.on rfl rfl ?_
    refine Wl.pure (PR.mkFunc (vs := [.pointer (some ⟨b3, 0, none⟩)]) rfl) ?_
    refine Wl.on rfl rfl ?_
    refine Wl.callV (c_slices_ContainsFunc_impl_Handing_impl_Handing (A := A) (n := n) (cp := cp) (x := x) (y := y) (fk := 52) (cap := [.pointer (some ⟨b3, 0, none⟩)]) (q := (fun i => !decide (hanP s (x i) (y i)))) (hR.st st) hx hy (by first | assumption | omega) (fun i hi w' hb => c_impl_areHandings_1 ((st.rdA (i := 0) (n := 1) rfl rfl).below hb) (hx i hi) (hy i hi) hs)) rfl ?_
    intro w3 hbel
    replace st := st.call hbel
    clear hbel
    refine Wl.on rfl rfl ?_
    refine Wl.pure (PR.not_ rfl) ?_
    refine Wl.pure (PR.pickTB rfl rfl) ?_
    refine Wl.pure (PR.assB rfl) ?_
    refine Wl.nil ?_
    refine tn ?_
    refine Wc.ret ?_
    refine postL.tmp rfl rfl ?_
    refine RetV.of ?_ st.below
    refine congrArg Value.bool ?_
    exact hanOk_s (by omega)
  · refine Wl.off rfl rfl rfl ?_
    refine Wl.off rfl rfl rfl ?_
    refine Wl.off rfl rfl rfl ?_
    refine Wl.pure (PR.pickFB rfl rfl) ?_
    refine Wl.pure (PR.assB rfl) ?_
    refine Wl.nil ?_
    refine tn ?_
    refine Wc.ret ?_
    refine postL.tmp rfl rfl ?_
    refine RetV.of ?_ st.below
    refine congrArg Value.bool ?_
    exact hanOk_l (by omega)

set_option maxHeartbeats 400000 in
set_option maxRecDepth 4000 in
theorem c_spec_l07Handings {A : Option Addr} {n : Nat} {cp : Nat} {x : Nat → Int} {y : Nat → Int} {s : Int} {w : World} (hR : RdS w A n (hanV n x y)) (hx : ∀ i, i < n → -128 ≤ x i ∧ x i ≤ 127) (hy : ∀ i, i < n → -128 ≤ y i ∧ y i ≤ 127) (hn : n ≤ 1048576) (hs : -128 ≤ s ∧ s ≤ 127) :
    CE Try.prog 33 [.int .i64 (s), .slice (A) (n) (cp)] w (RetV w (.bool (hanOk s n x y))) := by
  refine CE.enter 35 [(0, .int .i64 (s)), (1, .slice (A) (n) (cp))] en_33 Try.func33 rfl rfl (Nat.le_of_ble_eq_true rfl) rfl ?_
  have st := St.start w
  refine Wc.seq ?_
  refine Wc.region rfl ?_
  refine Wl.pure (PR.assB rfl) ?_
  refine Wl.nil ?_
  refine tn ?_
  refine Wc.seq ?_
  refine Wc.seq ?_
  refine Wc.region rfl ?_
  refine Wl.pure (PR.assI rfl) ?_
  refine Wl.nil ?_
  refine tn ?_
  refine Wc.block ?_
  refine Wc.loopF (γ := Nat) (fun g => [(0, .int .i64 (s)), (1, .slice (A) (n) (cp)), (5, .int .i64 (((g : Nat) : Int)))]) (fun g w_ => St [] w w_ [] ∧ (g ≤ n) ∧ (∀ j, j < g → hanP s (x j) (y j))) (fun g => n - g) ?_ ?_
  · exact ⟨0, (.cons rfl (.cons rfl (.cons rfl (.nil _)))), st, (by first | omega | (dsimp only; omega)), (fun j hj => by omega)⟩
  clear st
  rintro k w1 ⟨st, hk, hg⟩
  try dsimp only at st hk hg ⊢
  refine Wc.seq ?_
  refine Wc.seq ?_
  refine Wc.region rfl ?_
  refine Wl.pure (PR.moveI rfl) ?_
  refine Wl.pure (PR.moveL rfl) ?_
  refine Wl.pure (PR.lenL tS_25 rfl) ?_
  refine Wl.pure (PR.lss (a := ((k : Nat) : Int)) (b := ((n : Nat) : Int)) rfl rfl) ?_
  refine Wl.nil ?_
  refine tn ?_
  refine Wc.condD (p := ((k : Nat) : Int) < ((n : Nat) : Int)) rfl (fun h2 => ?_) (fun h2 => ?_)
  · refine Wc.skip ?_
    refine tn ?_
    refine Wc.seq ?_
    refine Wc.block ?_
    refine Wc.seq ?_
    refine Wc.region rfl ?_
    refine Wl.pure (PR.moveL rfl) ?_
    refine Wl.pure (PR.moveI rfl) ?_
    obtain ⟨bs3, os4, rfl, hs5⟩ := hR (by omega)
    have := hx (k) (by omega)
    have := hy (k) (by omega)
    refine Wl.pure (PR.idxAddrS (i := k) tS_25 rfl rfl (by omega)) ?_
    refine Wl.pure (PR.fieldAddr tF_51_0 rfl) ?_
    refine Wl.loadC tA_28 rfl ((hs5.st st).at_ (recV_get (n := n) (i := k) (hanV_row _ _) (by omega) (rfl)) (Nat.add_assoc _ _ _).symm) ?_
    refine Wl.pure (PR.conv (n := x k) tI_2 rfl (by simp only [fitI]; omega) Try.underlying28) ?_
    refine Wl.pure (PR.moveI rfl) ?_
    refine Wl.pure (PR.sub (a := s) (b := 1) rfl rfl (by simp only [fitI]; omega)) ?_
    refine Wl.callV (c_spec_l00In (n := x k) (lo := 0) (hi := (s - 1))) rfl ?_
    intro w6 hbel
    replace st := st.call hbel
    clear hbel
    refine Wl.pure (PR.not_ rfl) ?_
    refine Wl.pure (PR.moveB rfl) ?_
    refine Wl.splitB (b := (!decide (0 ≤ (x k) ∧ (x k) ≤ (s - 1)))) rfl rfl (fun h7 => ?_) (fun h7 => ?_)
    · simp only [Bool.not_eq_true', Bool.not_eq_false', Bool.not_true, Bool.not_false, decide_eq_true_eq, decide_eq_false_iff_not] at h7
      refine Wl.pure (PR.moveL rfl) ?_
      refine Wl.on rfl rfl ?_
      refine Wl.pure (PR.moveI rfl) ?_
      refine Wl.on rfl rfl ?_
      have := hx (k) (by omega)
      have := hy (k) (by omega)
      refine Wl.pure (PR.idxAddrS (i := k) tS_25 rfl rfl (by omega)) ?_
      refine Wl.on rfl rfl ?_
      refine Wl.pure (PR.fieldAddr tF_51_1 rfl) ?_
      refine Wl.on rfl rfl ?_
      refine Wl.loadC tA_28 rfl ((hs5.st st).at_ (recV_get (n := n) (i := k) (hanV_row _ _) (by omega) (rfl)) (Nat.add_assoc _ _ _).symm) ?_
      refine Wl.on rfl rfl ?_
      refine Wl.pure (PR.conv (n := y k) tI_2 rfl (by simp only [fitI]; omega) Try.underlying28) ?_
      refine Wl.on rfl rfl ?_
      refine Wl.callV (c_spec_l07Person (n := y k)) rfl ?_
      intro w8 hbel
      replace st := st.call hbel
      clear hbel
      refine Wl.on rfl rfl ?_
      refine Wl.pure (PR.not_ rfl) ?_
      refine Wl.pure (PR.pickFB rfl rfl) ?_
      refine Wl.nil ?_
      refine tn ?_
      refine Wc.condN (p := 0 ≤ (y k) ∧ (y k) ≤ 9) rfl (fun h9 => ?_) (fun h9 => ?_)
      · refine Wc.seq ?_
        refine Wc.region rfl ?_
        refine Wl.pure (PR.assB rfl) ?_
        refine Wl.nil ?_
        refine tn ?_
        refine Wc.ret ?_
        refine br ?_
        refine tr ?_
        refine tr ?_
        refine br ?_
        refine tr ?_
        refine postL.tmp rfl rfl ?_
        refine RetV.of ?_ st.below
        refine congrArg Value.bool ?_
        exact hanOk_f (k := k) (by omega) (by unfold hanP; omega)
      · refine Wc.skip ?_
        refine bn ?_
        refine tn ?_
        refine Wc.region rfl ?_
        refine Wl.pure (PR.moveI rfl) ?_
        refine Wl.pure (PR.add (a := ((k : Nat) : Int)) (b := 1) rfl rfl (by simp only [fitI]; omega)) ?_
        refine Wl.pure (PR.assI rfl) ?_
        refine Wl.nil ?_
        refine tn ?_
        exact ⟨k + 1, (.cons rfl (.cons rfl (.cons rfl (.nil _)))), ⟨st, (by first | omega | (dsimp only; omega)), (all_snoc hg (by unfold hanP; omega))⟩, (by first | omega | (dsimp only; omega))⟩
    · simp only [Bool.not_eq_true', Bool.not_eq_false', Bool.not_true, Bool.not_false, decide_eq_true_eq, decide_eq_false_iff_not] at h7
      refine Wl.off rfl rfl rfl ?_
      refine Wl.off rfl rfl rfl ?_
      refine Wl.off rfl rfl rfl ?_
      refine Wl.off rfl rfl rfl ?_
      refine Wl.off rfl rfl rfl ?_
      refine Wl.off rfl rfl rfl ?_
      refine Wl.off rfl rfl rfl ?_
      refine Wl.pure (PR.pickTB rfl rfl) ?_
      refine Wl.nil ?_
      refine tn ?_
      refine Wc.condT rfl ?_
      refine Wc.seq ?_
      refine Wc.region rfl ?_
      refine Wl.pure (PR.assB rfl) ?_
      refine Wl.nil ?_
      refine tn ?_
      refine Wc.ret ?_
      refine br ?_
      refine tr ?_
      refine tr ?_
      refine br ?_
      refine tr ?_
      refine postL.tmp rfl rfl ?_
      refine RetV.of ?_ st.below
      refine congrArg Value.bool ?_
      exact hanOk_f (k := k) (by omega) (by unfold hanP; omega)
  · refine Wc.exit ?_
    refine tx ?_
    refine tx ?_
    refine bh ?_
    refine tn ?_
    refine Wc.seq ?_
    refine Wc.region rfl ?_
    refine Wl.pure (PR.moveL rfl) ?_
    refine Wl.pure (PR.lenL tS_25 rfl) ?_
    refine Wl.pure (PR.leq (a := ((n : Nat) : Int)) (b := 60) rfl rfl) ?_
    refine Wl.pure (PR.assB rfl) ?_
    refine Wl.nil ?_
    refine tn ?_
    refine Wc.ret ?_
    refine postL.tmp rfl rfl ?_
    refine RetV.of ?_ st.below
    refine congrArg Value.bool ?_
    exact hanOk_t (fun j hj => hg j (by omega))

set_option maxHeartbeats 400000 in
set_option maxRecDepth 4000 in
theorem c_impl_ValidHandings {s : Int} {p : Int} {a : Nat → Nat} {b : Nat → Nat} {A : Option Addr} {n : Nat} {cp : Nat} {x : Nat → Int} {y : Nat → Int} {w : World} (hs : -128 ≤ s ∧ s ≤ 127) (hp : -128 ≤ p ∧ p ≤ 127) (ha : ∀ k, a k < 256) (hb : ∀ k, b k < 256) (hR : RdS w A n (hanV n x y)) (hx : ∀ i, i < n → -128 ≤ x i ∧ x i ≤ 127) (hy : ∀ i, i < n → -128 ≤ y i ∧ y i ≤ 127) (hn : n ≤ 1048576) :
    CE Try.prog 16 [.agg (schV (s) (p) (a) (b)).toArray, .slice (A) (n) (cp)] w (RetV w (.bool (hvOk s p a b n x y))) := by
  refine CE.enter 13 [(0, .agg (schV (s) (p) (a) (b)).toArray), (1, .slice (A) (n) (cp))] en_16 Try.func16 rfl rfl (Nat.le_of_ble_eq_true rfl) rfl ?_
  have st := St.start w
  refine Wc.seq ?_
  refine Wc.region rfl ?_
  refine Wl.boxA st rfl ?_
  clear st
  intro b2 w1 st
  refine Wl.pure (PR.assB rfl) ?_
  refine Wl.nil ?_
  refine tn ?_
  refine Wc.seq ?_
  refine Wc.region rfl ?_
  refine Wl.loadA (i := 0) st tA_33 rfl rfl (all_sub schV_len) schV_len ?_
  refine Wl.callV (c_impl_ValidScheme (s := s) (p := p) (a := a) (b := b) (by first | assumption | omega) (by first | assumption | omega) ha hb) rfl ?_
  intro w2 hbel
  replace st := st.call hbel
  clear hbel
  refine Wl.pure (PR.moveB rfl) ?_
  refine Wl.splitB (b := (schOk s p a b)) rfl rfl (fun h3 => ?_) (fun h3 => ?_)
  · try simp only [Bool.not_true, Bool.not_false] at h3
    refine Wl.pure (PR.moveL rfl) ?_
    refine Wl.on rfl rfl ?_
    refine Wl.pure (PR.fieldAddr tF_33_0 rfl) ?_
    refine Wl.on rfl rfl ?_
    refine Wl.load (i := 0) st tA_28 rfl rfl (rfl) ?_
    refine Wl.on rfl rfl ?_
    refine Wl.callV (c_impl_areHandings (A := A) (n := n) (cp := cp) (x := x) (y := y) (s := s) (hR.st st) hx hy (by first | assumption | omega) (by first | assumption | omega)) rfl ?_
    intro w4 hbel
    replace st := st.call hbel
    clear hbel
    refine Wl.pure (PR.pickTB rfl rfl) ?_
    refine Wl.pure (PR.assB rfl) ?_
    refine Wl.nil ?_
    refine tn ?_
    refine Wc.ret ?_
    refine postL.tmp rfl rfl ?_
    refine RetV.of ?_ st.below
    refine congrArg Value.bool ?_
    exact hvOk_t (by assumption)
  · try simp only [Bool.not_true, Bool.not_false] at h3
    refine Wl.off rfl rfl rfl ?_
    refine Wl.off rfl rfl rfl ?_
    refine Wl.off rfl rfl rfl ?_
    refine Wl.pure (PR.pickFB rfl rfl) ?_
    refine Wl.pure (PR.assB rfl) ?_
    refine Wl.nil ?_
    refine tn ?_
    refine Wc.ret ?_
    refine postL.tmp rfl rfl ?_
    refine RetV.of ?_ st.below
    refine congrArg Value.bool ?_
    exact hvOk_f (by assumption)

set_option maxHeartbeats 400000 in
set_option maxRecDepth 4000 in
theorem c_spec_ValidHandings {s : Int} {p : Int} {a : Nat → Nat} {b : Nat → Nat} {A : Option Addr} {n : Nat} {cp : Nat} {x : Nat → Int} {y : Nat → Int} {w : World} (hs : -128 ≤ s ∧ s ≤ 127) (hp : -128 ≤ p ∧ p ≤ 127) (ha : ∀ k, a k < 256) (hb : ∀ k, b k < 256) (hR : RdS w A n (hanV n x y)) (hx : ∀ i, i < n → -128 ≤ x i ∧ x i ≤ 127) (hy : ∀ i, i < n → -128 ≤ y i ∧ y i ≤ 127) (hn : n ≤ 1048576) :
    CE Try.prog 14 [.agg (schV (s) (p) (a) (b)).toArray, .slice (A) (n) (cp)] w (RetV w (.bool (hvOk s p a b n x y))) := by
  refine CE.enter 14 [(0, .agg (schV (s) (p) (a) (b)).toArray), (1, .slice (A) (n) (cp))] en_14 Try.func14 rfl rfl (Nat.le_of_ble_eq_true rfl) rfl ?_
  have st := St.start w
  refine Wc.seq ?_
  refine Wc.region rfl ?_
  refine Wl.boxA st rfl ?_
  clear st
  intro b2 w1 st
  refine Wl.pure (PR.assB rfl) ?_
  refine Wl.nil ?_
  refine tn ?_
  refine Wc.seq ?_
  refine Wc.region rfl ?_
  refine Wl.loadA (i := 0) st tA_33 rfl rfl (all_sub schV_len) schV_len ?_
  refine Wl.callV (c_spec_ValidScheme (s := s) (p := p) (a := a) (b := b) (by first | assumption | omega) (by first | assumption | omega) ha hb) rfl ?_
  intro w2 hbel
  replace st := st.call hbel
  clear hbel
  refine Wl.pure (PR.moveB rfl) ?_
  refine Wl.splitB (b := (schOk s p a b)) rfl rfl (fun h3 => ?_) (fun h3 => ?_)
  · try simp only [Bool.not_true, Bool.not_false] at h3
    refine Wl.pure (PR.fieldAddr tF_33_0 rfl) ?_
    refine Wl.on rfl rfl ?_
    refine Wl.load (i := 0) st tA_28 rfl rfl (rfl) ?_
    refine Wl.on rfl rfl ?_
    refine Wl.pure (PR.conv (n := s) tI_2 rfl (by simp only [fitI]; omega) Try.underlying28) ?_
    refine Wl.on rfl rfl ?_
    refine Wl.pure (PR.moveL rfl) ?_
    refine Wl.on rfl rfl ?_
    refine Wl.callV (c_spec_l07Handings (A := A) (n := n) (cp := cp) (x := x) (y := y) (s := s) (hR.st st) hx hy (by first | assumption | omega) (by first | assumption | omega)) rfl ?_
    intro w4 hbel
    replace st := st.call hbel
    clear hbel
    refine Wl.pure (PR.pickTB rfl rfl) ?_
    refine Wl.pure (PR.assB rfl) ?_
    refine Wl.nil ?_
    refine tn ?_
    refine Wc.ret ?_
    refine postL.tmp rfl rfl ?_
    refine RetV.of ?_ st.below
    refine congrArg Value.bool ?_
    exact hvOk_t (by assumption)
  · try simp only [Bool.not_true, Bool.not_false] at h3
    refine Wl.off rfl rfl rfl ?_
    refine Wl.off rfl rfl rfl ?_
    refine Wl.off rfl rfl rfl ?_
    refine Wl.off rfl rfl rfl ?_
    refine Wl.pure (PR.pickFB rfl rfl) ?_
    refine Wl.pure (PR.assB rfl) ?_
    refine Wl.nil ?_
    refine tn ?_
    refine Wc.ret ?_
    refine postL.tmp rfl rfl ?_
    refine RetV.of ?_ st.below
    refine congrArg Value.bool ?_
    exact hvOk_f (by assumption)

end Go.Proofs.Ytgcgfcfkbeomdaa
