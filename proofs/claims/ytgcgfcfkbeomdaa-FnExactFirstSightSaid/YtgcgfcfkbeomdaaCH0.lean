/-
  Contracts of functions, printed by a program of ours.
-/
import Derived.Test.YtgcgfcfkbeomdaaHan
import Derived.Test.YtgcgfcfkbeomdaaDefs
import Derived.Test.YtgcgfcfkbeomdaaFactsQ
namespace Go.Proofs.Ytgcgfcfkbeomdaa
open Go.RowKit
set_option linter.unusedVariables false
set_option linter.unusedSimpArgs false

set_option maxHeartbeats 400000 in
set_option maxRecDepth 4000 in
theorem c_laws_szHandingS {A : Option Addr} {n : Nat} {cp : Nat} {x : Nat → Int} {y : Nat → Int} {z : Int} {w : World} (hn : n ≤ 9223372036854775807) (hz : 0 ≤ z ∧ z ≤ 1048576) :
    CE Try.prog 9 [.slice (A) (n) (cp), .int .i64 (z)] w (RetV w (.int .i64 ((szL n z)))) := by
  refine CE.enter 12 [(0, .slice (A) (n) (cp)), (1, .int .i64 (z))] en_9 Try.func9 rfl rfl (Nat.le_of_ble_eq_true rfl) rfl ?_
  have st := St.start w
  refine Wc.seq ?_
  refine Wc.region rfl ?_
  refine Wl.pure (PR.assI rfl) ?_
  refine Wl.nil ?_
  refine tn ?_
  refine Wc.seq ?_
  refine Wc.region rfl ?_
  refine Wl.pure (PR.moveI rfl) ?_
  refine Wl.pure (PR.moveL rfl) ?_
  refine Wl.pure (PR.lenL tS_22 rfl) ?_
  refine Wl.pure (PR.sub (a := z) (b := ((n : Nat) : Int)) rfl rfl (by simp only [fitI]; omega)) ?_
  refine Wl.pure (PR.assI rfl) ?_
  refine Wl.nil ?_
  refine tn ?_
  refine Wc.seq ?_
  refine Wc.seq ?_
  refine Wc.region rfl ?_
  refine Wl.pure (PR.moveI rfl) ?_
  refine Wl.pure (PR.lss (a := (z - ((n : Nat) : Int))) (b := 0) rfl rfl) ?_
  refine Wl.nil ?_
  refine tn ?_
  refine Wc.condD (p := (z - ((n : Nat) : Int)) < 0) rfl (fun h1 => ?_) (fun h1 => ?_)
  · refine Wc.seq ?_
    refine Wc.region rfl ?_
    refine Wl.pure (PR.assI rfl) ?_
    refine Wl.nil ?_
    refine tn ?_
    refine Wc.ret ?_
    refine tr ?_
    refine postL.tmp rfl rfl ?_
    refine RetV.of ?_ st.below
    refine congrArg (Value.int .i64) ?_
    unfold szL; split <;> omega
  · refine Wc.skip ?_
    refine tn ?_
    refine Wc.seq ?_
    refine Wc.region rfl ?_
    refine Wl.pure (PR.moveI rfl) ?_
    refine Wl.pure (PR.assI rfl) ?_
    refine Wl.nil ?_
    refine tn ?_
    refine Wc.ret ?_
    refine postL.tmp rfl rfl ?_
    refine RetV.of ?_ st.below
    refine congrArg (Value.int .i64) ?_
    unfold szL; split <;> omega

set_option maxHeartbeats 400000 in
set_option maxRecDepth 4000 in
theorem c_laws_toHanding {u : Int} {v : Int} {w : World} :
    CE Try.prog 29 [.agg ([.int .i8 (u), .int .i8 (v)]).toArray] w (RetV w (.agg ([.int .i8 (u), .int .i8 (v)]).toArray)) := by
  refine CE.enter 11 [(0, .agg ([.int .i8 (u), .int .i8 (v)]).toArray)] en_29 Try.func29 rfl rfl (Nat.le_of_ble_eq_true rfl) rfl ?_
  have st := St.start w
  refine Wc.seq ?_
  refine Wc.region rfl ?_
  refine Wl.boxA st rfl ?_
  clear st
  intro b1 w1 st
  refine Wl.alloc st tZ_51 rfl ?_
  clear st
  intro b2 w2 st
  refine Wl.nil ?_
  refine tn ?_
  refine Wc.seq ?_
  refine Wc.region rfl ?_
  refine Wl.alloc st tZ_51 rfl ?_
  clear st
  intro b3 w3 st
  refine Wl.nil ?_
  refine tn ?_
  refine Wc.seq ?_
  refine Wc.region rfl ?_
  refine Wl.pure (PR.fieldAddr tF_53_0 rfl) ?_
  refine Wl.load (i := 2) st tA_28 rfl rfl (rfl) ?_
  refine Wl.pure (PR.fieldAddr tF_51_0 rfl) ?_
  refine Wl.store (i := 0) (cs' := [.int .i8 (u), .int .i8 (0)]) st tA_28 rfl rfl rfl rfl (by simp) (rfl) ?_
  clear st
  intro w4 st
  replace st : St [] w w4 [(b3, [.int .i8 (u), .int .i8 (0)], 51), (b2, [.int .i8 (0), .int .i8 (0)], 51), (b1, [.int .i8 (u), .int .i8 (v)], 53)] := st
  refine Wl.nil ?_
  refine tn ?_
  refine Wc.seq ?_
  refine Wc.region rfl ?_
  refine Wl.pure (PR.fieldAddr tF_53_1 rfl) ?_
  refine Wl.load (i := 2) st tA_28 rfl rfl (rfl) ?_
  refine Wl.pure (PR.fieldAddr tF_51_1 rfl) ?_
  refine Wl.store (i := 0) (cs' := [.int .i8 (u), .int .i8 (v)]) st tA_28 rfl rfl rfl rfl (by simp) (rfl) ?_
  clear st
  intro w5 st
  replace st : St [] w w5 [(b3, [.int .i8 (u), .int .i8 (v)], 51), (b2, [.int .i8 (0), .int .i8 (0)], 51), (b1, [.int .i8 (u), .int .i8 (v)], 53)] := st
  refine Wl.nil ?_
  refine tn ?_
  refine Wc.seq ?_
  refine Wc.region rfl ?_
  refine Wl.loadA (i := 0) st tA_51 rfl rfl rfl rfl ?_
  refine Wl.storeA (i := 1) (cs' := [.int .i8 (u), .int .i8 (v)]) st tA_51 rfl rfl rfl (by simp [Value.oneCell']) rfl (by simp) (all_put rfl) ?_
  clear st
  intro w6 st
  replace st : St [] w w6 [(b3, [.int .i8 (u), .int .i8 (v)], 51), (b2, [.int .i8 (u), .int .i8 (v)], 51), (b1, [.int .i8 (u), .int .i8 (v)], 53)] := st
  refine Wl.nil ?_
  refine tn ?_
  refine Wc.ret ?_
  refine postL.cell (i := 1) st rfl tA_51 rfl rfl rfl ?_
  exact RetV.of rfl st.below

set_option maxHeartbeats 400000 in
set_option maxRecDepth 4000 in
theorem c_laws_eqHanding {u : Int} {v : Int} {w : World} :
    CE Try.prog 31 [.agg ([.int .i8 (u), .int .i8 (v)]).toArray, .agg ([.int .i8 (u), .int .i8 (v)]).toArray] w (RetV w (.bool true)) := by
  refine CE.enter 15 [(0, .agg ([.int .i8 (u), .int .i8 (v)]).toArray), (1, .agg ([.int .i8 (u), .int .i8 (v)]).toArray)] en_31 Try.func31 rfl rfl (Nat.le_of_ble_eq_true rfl) rfl ?_
  have st := St.start w
  refine Wc.seq ?_
  refine Wc.region rfl ?_
  refine Wl.boxA st rfl ?_
  clear st
  intro b2 w1 st
  refine Wl.boxA st rfl ?_
  clear st
  intro b3 w2 st
  refine Wl.pure (PR.assB rfl) ?_
  refine Wl.nil ?_
  refine tn ?_
  refine Wc.seq ?_
  refine Wc.seq ?_
  refine Wc.region rfl ?_
  refine Wl.pure (PR.fieldAddr tF_51_0 rfl) ?_
  refine Wl.load (i := 1) st tA_28 rfl rfl (rfl) ?_
  refine Wl.pure (PR.fieldAddr tF_51_0 rfl) ?_
  refine Wl.load (i := 0) st tA_28 rfl rfl (rfl) ?_
  refine Wl.pure (PR.neqS (a := u) rfl rfl) ?_
  refine Wl.nil ?_
  refine tn ?_
  refine Wc.condF rfl ?_
  refine Wc.skip ?_
  refine tn ?_
  refine Wc.seq ?_
  refine Wc.seq ?_
  refine Wc.region rfl ?_
  refine Wl.pure (PR.fieldAddr tF_51_1 rfl) ?_
  refine Wl.load (i := 1) st tA_28 rfl rfl (rfl) ?_
  refine Wl.pure (PR.fieldAddr tF_51_1 rfl) ?_
  refine Wl.load (i := 0) st tA_28 rfl rfl (rfl) ?_
  refine Wl.pure (PR.neqS (a := v) rfl rfl) ?_
  refine Wl.nil ?_
  refine tn ?_
  refine Wc.condF rfl ?_
  refine Wc.skip ?_
  refine tn ?_
  refine Wc.seq ?_
  refine Wc.region rfl ?_
  refine Wl.pure (PR.assB rfl) ?_
  refine Wl.nil ?_
  refine tn ?_
  refine Wc.ret ?_
  refine postL.tmp rfl rfl ?_
  exact RetV.of rfl st.below

set_option maxHeartbeats 400000 in
set_option maxRecDepth 4000 in
theorem c_laws_toHandingS {A : Option Addr} {n : Nat} {cp : Nat} {x : Nat → Int} {y : Nat → Int} {w : World} (hR : RdS w A n (hanV n x y)) (hn : n ≤ 1048576) :
    CE Try.prog 11 [.slice (A) (n) (cp)] w (RetS w 51 (n) (n) (hanV n x y)) := by
  refine CE.enter 23 [(0, .slice (A) (n) (cp))] en_11 Try.func11 rfl rfl (Nat.le_of_ble_eq_true rfl) rfl ?_
  have st := St.start w
  refine Wc.seq ?_
  refine Wc.region rfl ?_
  refine Wl.pure (PR.assL rfl) ?_
  refine Wl.nil ?_
  refine tn ?_
  refine Wc.seq ?_
  refine Wc.region rfl ?_
  refine Wl.pure (PR.moveL rfl) ?_
  refine Wl.pure (PR.lenL tS_22 rfl) ?_
  refine Wl.makeSlice (n := n) st tS_25 tZ_51 rfl rfl rfl (by omega) (by omega) ?_
  clear st
  intro b7 w1 st
  replace st : St [] w w1 [(b7, hanV n (fun _ => 0) (fun _ => 0), 51)] := st
  refine Wl.pure (PR.assL rfl) ?_
  refine Wl.nil ?_
  refine tn ?_
  refine Wc.seq ?_
  refine Wc.seq ?_
  refine Wc.region rfl ?_
  refine Wl.pure (PR.assI rfl) ?_
  refine Wl.nil ?_
  refine tn ?_
  refine Wc.block ?_
  refine Wc.loopF (γ := Nat × (Nat → Int) × (Nat → Int)) (fun g => [(0, .slice (A) (n) (cp)), (2, .slice (none) (0) (0)), (3, .slice (some ⟨b7, 0, none⟩) (n) (n)), (4, .int .i64 (((g.1 : Nat) : Int)))]) (fun g w_ => St [] w w_ [(b7, hanV n g.2.1 g.2.2, 51)] ∧ (g.1 ≤ n) ∧ (∀ j, j < g.1 → g.2.1 j = x j) ∧ (∀ j, j < g.1 → g.2.2 j = y j)) (fun g => n - g.1) ?_ ?_
  · exact ⟨(0, (fun _ => 0), (fun _ => 0)), (.cons rfl (.cons rfl (.cons rfl (.cons rfl (.nil _))))), st, (by first | omega | (dsimp only; omega)), (fun j hj => by omega), (fun j hj => by omega)⟩
  clear st
  rintro ⟨k, x1, y1⟩ w2 ⟨st, hk, gx, gy⟩
  try dsimp only at st hk gx gy ⊢
  refine Wc.seq ?_
  refine Wc.seq ?_
  refine Wc.region rfl ?_
  refine Wl.pure (PR.moveI rfl) ?_
  refine Wl.pure (PR.moveL rfl) ?_
  refine Wl.pure (PR.lenL tS_22 rfl) ?_
  refine Wl.pure (PR.lss (a := ((k : Nat) : Int)) (b := ((n : Nat) : Int)) rfl rfl) ?_
  refine Wl.nil ?_
  refine tn ?_
  refine Wc.condD (p := ((k : Nat) : Int) < ((n : Nat) : Int)) rfl (fun h3 => ?_) (fun h3 => ?_)
  · refine Wc.skip ?_
    refine tn ?_
    refine Wc.seq ?_
    refine Wc.block ?_
    refine Wc.region rfl ?_
    refine Wl.pure (PR.moveL rfl) ?_
    refine Wl.pure (PR.moveI rfl) ?_
    refine Wl.pure (PR.moveL rfl) ?_
    refine Wl.pure (PR.moveI rfl) ?_
    obtain ⟨bs4, os5, rfl, hs6⟩ := hR (by omega)
    refine Wl.pure (PR.idxAddrS (i := k) tS_22 rfl rfl (by omega)) ?_
    refine Wl.loadAC (vs := [.int .i8 (x k), .int .i8 (y k)]) tA_53 rfl rfl ((hs6.st st).sub (recV_sub (n := n) (i := k) (hanV_row _ _) (by omega)) rfl) ?_
    refine Wl.callV (c_laws_toHanding (u := x k) (v := y k)) rfl ?_
    intro w7 hbel
    replace st := st.call hbel
    clear hbel
    refine Wl.pure (PR.idxAddrS (i := k) tS_25 rfl rfl (by omega)) ?_
    refine Wl.storeA (i := 0) (cs' := hanV n (upd x1 (k) (x k)) (upd y1 (k) (y k))) st tA_51 rfl rfl rfl (by simp [Value.oneCell']) rfl (recV_tot (hanV_row _ _) (by omega)) (hanV_put (by omega)) ?_
    clear st
    intro w8 st
    replace st : St [] w w8 [(b7, hanV n (upd x1 (k) (x k)) (upd y1 (k) (y k)), 51)] := st
    refine Wl.nil ?_
    refine bn ?_
    refine tn ?_
    refine Wc.region rfl ?_
    refine Wl.pure (PR.moveI rfl) ?_
    refine Wl.pure (PR.add (a := ((k : Nat) : Int)) (b := 1) rfl rfl (by simp only [fitI]; omega)) ?_
    refine Wl.pure (PR.assI rfl) ?_
    refine Wl.nil ?_
    refine tn ?_
    exact ⟨(k + 1, (upd x1 (k) (x k)), (upd y1 (k) (y k))), (.cons rfl (.cons rfl (.cons rfl (.cons rfl (.nil _))))), ⟨st, (by first | omega | (dsimp only; omega)), (upd_snoc gx rfl), (upd_snoc gy rfl)⟩, (by first | omega | (dsimp only; omega))⟩
  · refine Wc.exit ?_
    refine tx ?_
    refine tx ?_
    refine bh ?_
    refine tn ?_
    refine Wc.seq ?_
    refine Wc.region rfl ?_
    refine Wl.pure (PR.moveL rfl) ?_
    refine Wl.pure (PR.assL rfl) ?_
    refine Wl.nil ?_
    refine tn ?_
    refine Wc.ret ?_
    refine postL.tmp rfl rfl ?_
    exact st.retS (i := 0) rfl (hanV_congr (fun j hj => gx j (by omega)) (fun j hj => gy j (by omega)))

set_option maxHeartbeats 400000 in
set_option maxRecDepth 4000 in
theorem c_laws_eqHandingS {A : Option Addr} {n : Nat} {cp : Nat} {x : Nat → Int} {y : Nat → Int} {B : Option Addr} {cq : Nat} {w : World} (hR : RdS w A n (hanV n x y)) (hQ : RdS w B n (hanV n x y)) (hn : n ≤ 1048576) :
    CE Try.prog 13 [.slice (A) (n) (cp), .slice (B) (n) (cq)] w (RetV w (.bool true)) := by
  refine CE.enter 27 [(0, .slice (A) (n) (cp)), (1, .slice (B) (n) (cq))] en_13 Try.func13 rfl rfl (Nat.le_of_ble_eq_true rfl) rfl ?_
  have st := St.start w
  refine Wc.seq ?_
  refine Wc.region rfl ?_
  refine Wl.pure (PR.assB rfl) ?_
  refine Wl.nil ?_
  refine tn ?_
  refine Wc.seq ?_
  refine Wc.seq ?_
  refine Wc.region rfl ?_
  refine Wl.pure (PR.moveL rfl) ?_
  refine Wl.pure (PR.lenL tS_25 rfl) ?_
  refine Wl.pure (PR.moveL rfl) ?_
  refine Wl.pure (PR.lenL tS_25 rfl) ?_
  refine Wl.pure (PR.neqS (a := ((n : Nat) : Int)) rfl rfl) ?_
  refine Wl.nil ?_
  refine tn ?_
  refine Wc.condF rfl ?_
  refine Wc.skip ?_
  refine tn ?_
  refine Wc.seq ?_
  refine Wc.seq ?_
  refine Wc.region rfl ?_
  refine Wl.pure (PR.assI rfl) ?_
  refine Wl.nil ?_
  refine tn ?_
  refine Wc.block ?_
  refine Wc.loopF (γ := Nat) (fun g => [(0, .slice (A) (n) (cp)), (1, .slice (B) (n) (cq)), (5, .int .i64 (((g : Nat) : Int)))]) (fun g w_ => St [] w w_ [] ∧ (g ≤ n)) (fun g => n - g) ?_ ?_
  · exact ⟨0, (.cons rfl (.cons rfl (.cons rfl (.nil _)))), st, (by first | omega | (dsimp only; omega))⟩
  clear st
  rintro k w1 ⟨st, hk⟩
  try dsimp only at st hk ⊢
  refine Wc.seq ?_
  refine Wc.seq ?_
  refine Wc.region rfl ?_
  refine Wl.pure (PR.moveI rfl) ?_
  refine Wl.pure (PR.moveL rfl) ?_
  refine Wl.pure (PR.lenL tS_25 rfl) ?_
  refine Wl.pure (PR.lss (a := ((k : Nat) : Int)) (b := ((n : Nat) : Int)) rfl rfl) ?_
  refine Wl.nil ?_
  refine tn ?_
  refine Wc.condD (p := ((k : Nat) : Int) < ((n : Nat) : Int)) rfl (fun h2 => ?_) (fun h2 => ?_)
  · refine Wc.skip ?_
    refine tn ?_
    refine Wc.seq ?_
    refine Wc.block ?_
    refine Wc.seq ?_
    refine Wc.quiet hmix (by kernel_rfl) rfl ?_
    refine Wq.pure (PR.moveL rfl) ?_
    refine Wq.pure (PR.moveI rfl) ?_
    obtain ⟨bs3, os4, rfl, hs5⟩ := hR (by omega)
    refine Wq.pure (PR.idxAddrS (i := k) tS_25 rfl rfl (by omega)) ?_
    refine Wq.loadAC (vs := [.int .i8 (x k), .int .i8 (y k)]) tA_51 rfl rfl ((hs5.st st).sub (recV_sub (n := n) (i := k) (hanV_row _ _) (by omega)) rfl) ?_
    refine Wq.pure (PR.moveL rfl) ?_
    refine Wq.pure (PR.moveI rfl) ?_
    obtain ⟨bs6, os7, rfl, hs8⟩ := hQ (by omega)
    refine Wq.pure (PR.idxAddrS (i := k) tS_25 rfl rfl (by omega)) ?_
    refine Wq.loadAC (vs := [.int .i8 (x k), .int .i8 (y k)]) tA_51 rfl rfl ((hs8.st st).sub (recV_sub (n := n) (i := k) (hanV_row _ _) (by omega)) rfl) ?_
    refine Wq.callV (fun _ hbel => c_laws_eqHanding (u := x k) (v := y k)) rfl ?_
    refine Wq.pure (PR.not_ rfl) ?_
    refine Wq.nil (fun w9 hbel => ?_)
    replace st := st.call hbel
    clear hbel
    refine tn ?_
    refine Wc.condF rfl ?_
    refine Wc.skip ?_
    refine bn ?_
    refine tn ?_
    refine Wc.region rfl ?_
    refine Wl.pure (PR.moveI rfl) ?_
    refine Wl.pure (PR.add (a := ((k : Nat) : Int)) (b := 1) rfl rfl (by simp only [fitI]; omega)) ?_
    refine Wl.pure (PR.assI rfl) ?_
    refine Wl.nil ?_
    refine tn ?_
    exact ⟨k + 1, (.cons rfl (.cons rfl (.cons rfl (.nil _)))), ⟨st, (by first | omega | (dsimp only; omega))⟩, (by first | omega | (dsimp only; omega))⟩
  · refine Wc.exit ?_
    refine tx ?_
    refine tx ?_
    refine bh ?_
    refine tn ?_
    refine Wc.seq ?_
    refine Wc.region rfl ?_
    refine Wl.pure (PR.assB rfl) ?_
    refine Wl.nil ?_
    refine tn ?_
    refine Wc.ret ?_
    refine postL.tmp rfl rfl ?_
    exact RetV.of rfl st.below

set_option maxHeartbeats 400000 in
set_option maxRecDepth 4000 in
theorem c_slices_Equal_impl_Handing_impl_Handing {A : Option Addr} {n : Nat} {cp : Nat} {x : Nat → Int} {y : Nat → Int} {B : Option Addr} {m : Nat} {cq : Nat} {u : Nat → Int} {v : Nat → Int} {w : World} (hR : RdS w A n (hanV n x y)) (hQ : RdS w B m (hanV m u v)) (hx : ∀ i, i < n → -128 ≤ x i ∧ x i ≤ 127) (hy : ∀ i, i < n → -128 ≤ y i ∧ y i ≤ 127) (hu : ∀ i, i < m → -128 ≤ u i ∧ u i ≤ 127) (hv : ∀ i, i < m → -128 ≤ v i ∧ v i ≤ 127) (hn : n ≤ 1048576) :
    CE Try.prog 30 [.slice (A) (n) (cp), .slice (B) (m) (cq)] w (RetV w (.bool (hanEq n x y m u v))) := by
  refine CE.enter 26 [(0, .slice (A) (n) (cp)), (1, .slice (B) (m) (cq))] en_30 Try.func30 rfl rfl (Nat.le_of_ble_eq_true rfl) rfl ?_
  have st := St.start w
  refine Wc.seq ?_
  refine Wc.region rfl ?_
  refine Wl.pure (PR.assB rfl) ?_
  refine Wl.nil ?_
  refine tn ?_
  refine Wc.seq ?_
  refine Wc.seq ?_
  refine Wc.region rfl ?_
  refine Wl.pure (PR.moveL rfl) ?_
  refine Wl.pure (PR.lenL tS_25 rfl) ?_
  refine Wl.pure (PR.moveL rfl) ?_
  refine Wl.pure (PR.lenL tS_25 rfl) ?_
  refine Wl.pure (PR.neq (a := ((n : Nat) : Int)) (b := ((m : Nat) : Int)) rfl rfl) ?_
  refine Wl.nil ?_
  refine tn ?_
  refine Wc.condN (p := ((n : Nat) : Int) = ((m : Nat) : Int)) rfl (fun h1 => ?_) (fun h1 => ?_)
  · refine Wc.seq ?_
    refine Wc.region rfl ?_
    refine Wl.pure (PR.assB rfl) ?_
    refine Wl.nil ?_
    refine tn ?_
    refine Wc.ret ?_
    refine tr ?_
    refine postL.tmp rfl rfl ?_
    refine RetV.of ?_ st.below
    refine congrArg Value.bool ?_
    first | exact hanEq_l (by omega) | exact hanEq_n (k := k) (by omega) (by first | assumption | omega) | exact hanEq_t (by omega) (fun j hj => hg j (by omega))
  · refine Wc.skip ?_
    refine tn ?_
    refine Wc.seq ?_
    refine Wc.seq ?_
    refine Wc.region rfl ?_
    refine Wl.pure (PR.moveL rfl) ?_
    refine Wl.pure (PR.lenL tS_25 rfl) ?_
    refine Wl.pure (PR.moveI rfl) ?_
    refine Wl.nil ?_
    refine tn ?_
    refine Wc.block ?_
    refine Wc.loopF (γ := Nat) (fun g => [(0, .slice (A) (n) (cp)), (1, .slice (B) (m) (cq)), (12, .int .i64 (((n : Nat) : Int))), (13, .int .i64 (((g : Nat) : Int)))]) (fun g w_ => St [] w w_ [] ∧ (g ≤ n) ∧ (∀ j, j < g → x j = u j ∧ y j = v j)) (fun g => n - g) ?_ ?_
    · exact ⟨0, (.cons rfl (.cons rfl (.cons rfl (.cons rfl (.nil _))))), st, (by first | omega | (dsimp only; omega)), (fun j hj => by omega)⟩
    clear st
    rintro k w2 ⟨st, hk, hg⟩
    try dsimp only at st hk hg ⊢
    refine Wc.seq ?_
    refine Wc.region rfl ?_
    refine Wl.pure (PR.lss (a := ((k : Nat) : Int)) (b := ((n : Nat) : Int)) rfl rfl) ?_
    refine Wl.nil ?_
    refine tn ?_
    refine Wc.seq ?_
    refine Wc.condD (p := ((k : Nat) : Int) < ((n : Nat) : Int)) rfl (fun h3 => ?_) (fun h3 => ?_)
    · refine Wc.skip ?_
      refine tn ?_
      refine Wc.seq ?_
      refine Wc.block ?_
      refine Wc.seq ?_
      refine Wc.region rfl ?_
      refine Wl.pure (PR.moveI rfl) ?_
      refine Wl.pure (PR.assI rfl) ?_
      refine Wl.nil ?_
      refine tn ?_
      refine Wc.seq ?_
      refine Wc.quiet hmix (by kernel_rfl) rfl ?_
      refine Wq.pure (PR.moveL rfl) ?_
      refine Wq.pure (PR.moveI rfl) ?_
      obtain ⟨bs4, os5, rfl, hs6⟩ := hR (by omega)
      have := hx (k) (by omega)
      have := hy (k) (by omega)
      refine Wq.pure (PR.idxAddrS (i := k) tS_25 rfl rfl (by omega)) ?_
      refine Wq.loadAC (vs := [.int .i8 (x k), .int .i8 (y k)]) tA_51 rfl rfl ((hs6.st st).sub (recV_sub (n := n) (i := k) (hanV_row _ _) (by omega)) rfl) ?_
      refine Wq.pure (PR.moveL rfl) ?_
      refine Wq.pure (PR.moveI rfl) ?_
      obtain ⟨bs7, os8, rfl, hs9⟩ := hQ (by omega)
      have := hu (k) (by omega)
      have := hv (k) (by omega)
      refine Wq.pure (PR.idxAddrS (i := k) tS_25 rfl rfl (by omega)) ?_
      refine Wq.loadAC (vs := [.int .i8 (u k), .int .i8 (v k)]) tA_51 rfl rfl ((hs9.st st).sub (recV_sub (n := m) (i := k) (hanV_row _ _) (by omega)) rfl) ?_
      refine Wq.pure (PR.neqF (cs := [.int .i8 (x k), .int .i8 (y k)]) (cs' := [.int .i8 (u k), .int .i8 (v k)]) (q := x k = u k ∧ y k = v k) tQ_51 rfl rfl (.mk (by simp only [fitI]; omega) (.mk (by simp only [fitI]; omega) Flat.nl)) (.mk (by simp only [fitI]; omega) (.mk (by simp only [fitI]; omega) Flat.nl)) (by simp)) ?_
      refine Wq.nil (fun w10 hbel => ?_)
      replace st := st.call hbel
      clear hbel
      refine tn ?_
      refine Wc.condN (p := x k = u k ∧ y k = v k) rfl (fun h11 => ?_) (fun h11 => ?_)
      · refine Wc.seq ?_
        refine Wc.region rfl ?_
        refine Wl.pure (PR.assB rfl) ?_
        refine Wl.nil ?_
        refine tn ?_
        refine Wc.ret ?_
        refine br ?_
        refine tr ?_
        refine tr ?_
        refine br ?_
        refine tr ?_
        refine postL.tmp rfl rfl ?_
        refine RetV.of ?_ st.below
        refine congrArg Value.bool ?_
        first | exact hanEq_l (by omega) | exact hanEq_n (k := k) (by omega) (by first | assumption | omega) | exact hanEq_t (by omega) (fun j hj => hg j (by omega))
      · refine Wc.skip ?_
        refine bn ?_
        refine tn ?_
        refine Wc.region rfl ?_
        refine Wl.pure (PR.add (a := ((k : Nat) : Int)) (b := 1) rfl rfl (by simp only [fitI]; omega)) ?_
        refine Wl.pure (PR.moveI rfl) ?_
        refine Wl.nil ?_
        refine tn ?_
        exact ⟨k + 1, (.cons rfl (.cons rfl (.cons rfl (.cons rfl (.nil _))))), ⟨st, (by first | omega | (dsimp only; omega)), (all_snoc hg (by first | assumption | (simp only [*, and_self]) | omega))⟩, (by first | omega | (dsimp only; omega))⟩
    · refine Wc.exit ?_
      refine tx ?_
      refine tx ?_
      refine bh ?_
      refine tn ?_
      refine Wc.seq ?_
      refine Wc.region rfl ?_
      refine Wl.pure (PR.assB rfl) ?_
      refine Wl.nil ?_
      refine tn ?_
      refine Wc.ret ?_
      refine postL.tmp rfl rfl ?_
      refine RetV.of ?_ st.below
      refine congrArg Value.bool ?_
      first | exact hanEq_l (by omega) | exact hanEq_n (k := k) (by omega) (by first | assumption | omega) | exact hanEq_t (by omega) (fun j hj => hg j (by omega))

set_option maxHeartbeats 400000 in
set_option maxRecDepth 4000 in
theorem c_spec_SameHandings {A : Option Addr} {n : Nat} {cp : Nat} {x : Nat → Int} {y : Nat → Int} {B : Option Addr} {m : Nat} {cq : Nat} {u : Nat → Int} {v : Nat → Int} {w : World} (hR : RdS w A n (hanV n x y)) (hQ : RdS w B m (hanV m u v)) (hx : ∀ i, i < n → -128 ≤ x i ∧ x i ≤ 127) (hy : ∀ i, i < n → -128 ≤ y i ∧ y i ≤ 127) (hu : ∀ i, i < m → -128 ≤ u i ∧ u i ≤ 127) (hv : ∀ i, i < m → -128 ≤ v i ∧ v i ≤ 127) (hn : n ≤ 1048576) :
    CE Try.prog 10 [.slice (A) (n) (cp), .slice (B) (m) (cq)] w (RetV w (.bool (hanEq n x y m u v))) := by
  refine CE.enter 26 [(0, .slice (A) (n) (cp)), (1, .slice (B) (m) (cq))] en_10 Try.func10 rfl rfl (Nat.le_of_ble_eq_true rfl) rfl ?_
  have st := St.start w
  refine Wc.seq ?_
  refine Wc.region rfl ?_
  refine Wl.pure (PR.assB rfl) ?_
  refine Wl.nil ?_
  refine tn ?_
  refine Wc.seq ?_
  refine Wc.seq ?_
  refine Wc.region rfl ?_
  refine Wl.pure (PR.moveL rfl) ?_
  refine Wl.pure (PR.lenL tS_25 rfl) ?_
  refine Wl.pure (PR.moveL rfl) ?_
  refine Wl.pure (PR.lenL tS_25 rfl) ?_
  refine Wl.pure (PR.neq (a := ((n : Nat) : Int)) (b := ((m : Nat) : Int)) rfl rfl) ?_
  refine Wl.nil ?_
  refine tn ?_
  refine Wc.condN (p := ((n : Nat) : Int) = ((m : Nat) : Int)) rfl (fun h1 => ?_) (fun h1 => ?_)
  · refine Wc.seq ?_
    refine Wc.region rfl ?_
    refine Wl.pure (PR.assB rfl) ?_
    refine Wl.nil ?_
    refine tn ?_
    refine Wc.ret ?_
    refine tr ?_
    refine postL.tmp rfl rfl ?_
    refine RetV.of ?_ st.below
    refine congrArg Value.bool ?_
    first | exact hanEq_l (by omega) | exact hanEq_n (k := k) (by omega) (by first | assumption | omega) | exact hanEq_t (by omega) (fun j hj => hg j (by omega))
  · refine Wc.skip ?_
    refine tn ?_
    refine Wc.seq ?_
    refine Wc.seq ?_
    refine Wc.region rfl ?_
    refine Wl.pure (PR.assI rfl) ?_
    refine Wl.nil ?_
    refine tn ?_
    refine Wc.block ?_
    refine Wc.loopF (γ := Nat) (fun g => [(0, .slice (A) (n) (cp)), (1, .slice (B) (m) (cq)), (5, .int .i64 (((g : Nat) : Int)))]) (fun g w_ => St [] w w_ [] ∧ (g ≤ n) ∧ (∀ j, j < g → x j = u j ∧ y j = v j)) (fun g => n - g) ?_ ?_
    · exact ⟨0, (.cons rfl (.cons rfl (.cons rfl (.nil _)))), st, (by first | omega | (dsimp only; omega)), (fun j hj => by omega)⟩
    clear st
    rintro k w2 ⟨st, hk, hg⟩
    try dsimp only at st hk hg ⊢
    refine Wc.seq ?_
    refine Wc.seq ?_
    refine Wc.region rfl ?_
    refine Wl.pure (PR.moveI rfl) ?_
    refine Wl.pure (PR.moveL rfl) ?_
    refine Wl.pure (PR.lenL tS_25 rfl) ?_
    refine Wl.pure (PR.lss (a := ((k : Nat) : Int)) (b := ((n : Nat) : Int)) rfl rfl) ?_
    refine Wl.nil ?_
    refine tn ?_
    refine Wc.condD (p := ((k : Nat) : Int) < ((n : Nat) : Int)) rfl (fun h3 => ?_) (fun h3 => ?_)
    · refine Wc.skip ?_
      refine tn ?_
      refine Wc.seq ?_
      refine Wc.block ?_
      refine Wc.seq ?_
      refine Wc.quiet hmix (by kernel_rfl) rfl ?_
      refine Wq.pure (PR.moveL rfl) ?_
      refine Wq.pure (PR.moveI rfl) ?_
      obtain ⟨bs4, os5, rfl, hs6⟩ := hR (by omega)
      have := hx (k) (by omega)
      have := hy (k) (by omega)
      refine Wq.pure (PR.idxAddrS (i := k) tS_25 rfl rfl (by omega)) ?_
      refine Wq.loadAC (vs := [.int .i8 (x k), .int .i8 (y k)]) tA_51 rfl rfl ((hs6.st st).sub (recV_sub (n := n) (i := k) (hanV_row _ _) (by omega)) rfl) ?_
      refine Wq.pure (PR.moveL rfl) ?_
      refine Wq.pure (PR.moveI rfl) ?_
      obtain ⟨bs7, os8, rfl, hs9⟩ := hQ (by omega)
      have := hu (k) (by omega)
      have := hv (k) (by omega)
      refine Wq.pure (PR.idxAddrS (i := k) tS_25 rfl rfl (by omega)) ?_
      refine Wq.loadAC (vs := [.int .i8 (u k), .int .i8 (v k)]) tA_51 rfl rfl ((hs9.st st).sub (recV_sub (n := m) (i := k) (hanV_row _ _) (by omega)) rfl) ?_
      refine Wq.pure (PR.neqF (cs := [.int .i8 (x k), .int .i8 (y k)]) (cs' := [.int .i8 (u k), .int .i8 (v k)]) (q := x k = u k ∧ y k = v k) tQ_51 rfl rfl (.mk (by simp only [fitI]; omega) (.mk (by simp only [fitI]; omega) Flat.nl)) (.mk (by simp only [fitI]; omega) (.mk (by simp only [fitI]; omega) Flat.nl)) (by simp)) ?_
      refine Wq.nil (fun w10 hbel => ?_)
      replace st := st.call hbel
      clear hbel
      refine tn ?_
      refine Wc.condN (p := x k = u k ∧ y k = v k) rfl (fun h11 => ?_) (fun h11 => ?_)
      · refine Wc.seq ?_
        refine Wc.region rfl ?_
        refine Wl.pure (PR.assB rfl) ?_
        refine Wl.nil ?_
        refine tn ?_
        refine Wc.ret ?_
        refine br ?_
        refine tr ?_
        refine tr ?_
        refine br ?_
        refine tr ?_
        refine postL.tmp rfl rfl ?_
        refine RetV.of ?_ st.below
        refine congrArg Value.bool ?_
        first | exact hanEq_l (by omega) | exact hanEq_n (k := k) (by omega) (by first | assumption | omega) | exact hanEq_t (by omega) (fun j hj => hg j (by omega))
      · refine Wc.skip ?_
        refine bn ?_
        refine tn ?_
        refine Wc.region rfl ?_
        refine Wl.pure (PR.moveI rfl) ?_
        refine Wl.pure (PR.add (a := ((k : Nat) : Int)) (b := 1) rfl rfl (by simp only [fitI]; omega)) ?_
        refine Wl.pure (PR.assI rfl) ?_
        refine Wl.nil ?_
        refine tn ?_
        exact ⟨k + 1, (.cons rfl (.cons rfl (.cons rfl (.nil _)))), ⟨st, (by first | omega | (dsimp only; omega)), (all_snoc hg (by first | assumption | (simp only [*, and_self]) | omega))⟩, (by first | omega | (dsimp only; omega))⟩
    · refine Wc.exit ?_
      refine tx ?_
      refine tx ?_
      refine bh ?_
      refine tn ?_
      refine Wc.seq ?_
      refine Wc.region rfl ?_
      refine Wl.pure (PR.assB rfl) ?_
      refine Wl.nil ?_
      refine tn ?_
      refine Wc.ret ?_
      refine postL.tmp rfl rfl ?_
      refine RetV.of ?_ st.below
      refine congrArg Value.bool ?_
      first | exact hanEq_l (by omega) | exact hanEq_n (k := k) (by omega) (by first | assumption | omega) | exact hanEq_t (by omega) (fun j hj => hg j (by omega))

set_option maxHeartbeats 400000 in
set_option maxRecDepth 4000 in
theorem c_impl_SameHandings {A : Option Addr} {n : Nat} {cp : Nat} {x : Nat → Int} {y : Nat → Int} {B : Option Addr} {m : Nat} {cq : Nat} {u : Nat → Int} {v : Nat → Int} {w : World} (hR : RdS w A n (hanV n x y)) (hQ : RdS w B m (hanV m u v)) (hx : ∀ i, i < n → -128 ≤ x i ∧ x i ≤ 127) (hy : ∀ i, i < n → -128 ≤ y i ∧ y i ≤ 127) (hu : ∀ i, i < m → -128 ≤ u i ∧ u i ≤ 127) (hv : ∀ i, i < m → -128 ≤ v i ∧ v i ≤ 127) (hn : n ≤ 1048576) :
    CE Try.prog 12 [.slice (A) (n) (cp), .slice (B) (m) (cq)] w (RetV w (.bool (hanEq n x y m u v))) := by
  refine CE.enter 8 [(0, .slice (A) (n) (cp)), (1, .slice (B) (m) (cq))] en_12 Try.func12 rfl rfl (Nat.le_of_ble_eq_true rfl) rfl ?_
  have st := St.start w
  refine Wc.seq ?_
  refine Wc.region rfl ?_
  refine Wl.pure (PR.assB rfl) ?_
  refine Wl.nil ?_
  refine tn ?_
  refine Wc.seq ?_
  refine Wc.region rfl ?_
  refine Wl.pure (PR.moveL rfl) ?_
  refine Wl.pure (PR.moveL rfl) ?_
  refine Wl.callV (c_slices_Equal_impl_Handing_impl_Handing (A := A) (n := n) (cp := cp) (x := x) (y := y) (B := B) (m := m) (cq := cq) (u := u) (v := v) (hR.st st) (hQ.st st) hx hy hu hv (by first | assumption | omega)) rfl ?_
  intro w1 hbel
  replace st := st.call hbel
  clear hbel
  refine Wl.pure (PR.assB rfl) ?_
  refine Wl.nil ?_
  refine tn ?_
  refine Wc.ret ?_
  refine postL.tmp rfl rfl ?_
  exact RetV.of rfl st.below

set_option maxHeartbeats 400000 in
set_option maxRecDepth 4000 in
theorem c_laws_FnExactSameHandings {A : Option Addr} {n : Nat} {cp : Nat} {x : Nat → Int} {y : Nat → Int} {B : Option Addr} {m : Nat} {cq : Nat} {u : Nat → Int} {v : Nat → Int} {w : World} (hR : RdS w A n (hanV n x y)) (hQ : RdS w B m (hanV m u v)) (hx : ∀ i, i < n → -128 ≤ x i ∧ x i ≤ 127) (hy : ∀ i, i < n → -128 ≤ y i ∧ y i ≤ 127) (hu : ∀ i, i < m → -128 ≤ u i ∧ u i ≤ 127) (hv : ∀ i, i < m → -128 ≤ v i ∧ v i ≤ 127) (hn : n ≤ 9223372036854775807) (hm : m ≤ 9223372036854775807) :
    CE Try.prog 3 [.slice (A) (n) (cp), .slice (B) (m) (cq)] w (RetV w (.bool true)) := by
  refine CE.enter 45 [(0, .slice (A) (n) (cp)), (1, .slice (B) (m) (cq))] en_3 Try.func3 rfl rfl (Nat.le_of_ble_eq_true rfl) rfl ?_
  have st := St.start w
  refine Wc.seq ?_
  refine Wc.region rfl ?_
  refine Wl.pure (PR.assB rfl) ?_
  refine Wl.nil ?_
  refine tn ?_
  refine Wc.seq ?_
  refine Wc.region rfl ?_
  refine Wl.pure (PR.assI rfl) ?_
  refine Wl.nil ?_
  refine tn ?_
  refine Wc.seq ?_
  refine Wc.region rfl ?_
  refine Wl.pure (PR.moveL rfl) ?_
  refine Wl.pure (PR.moveI rfl) ?_
  refine Wl.callV (c_laws_szHandingS (A := A) (n := n) (cp := cp) (x := x) (y := y) (z := 1048576) (by first | assumption | omega) (by first | assumption | omega)) rfl ?_
  intro w1 hbel
  replace st := st.call hbel
  clear hbel
  refine Wl.pure (PR.assI rfl) ?_
  refine Wl.nil ?_
  refine tn ?_
  refine Wc.seq ?_
  refine Wc.seq ?_
  refine Wc.region rfl ?_
  refine Wl.pure (PR.moveI rfl) ?_
  refine Wl.pure (PR.lss (a := (szL n 1048576)) (b := 0) rfl rfl) ?_
  refine Wl.nil ?_
  refine tn ?_
  refine Wc.condD (p := (szL n 1048576) < 0) rfl (fun h2 => ?_) (fun h2 => ?_)
  · refine Wc.seq ?_
    refine Wc.region rfl ?_
    refine Wl.pure (PR.assB rfl) ?_
    refine Wl.nil ?_
    refine tn ?_
    refine Wc.ret ?_
    refine tr ?_
    refine postL.tmp rfl rfl ?_
    exact RetV.of rfl st.below
  · refine Wc.skip ?_
    refine tn ?_
    refine Wc.seq ?_
    obtain ⟨hn1, hz1⟩ := szL_ok (n := n) (z := 1048576) (by omega)
    refine Wc.region rfl ?_
    refine Wl.pure (PR.moveL rfl) ?_
    refine Wl.pure (PR.moveI rfl) ?_
    refine Wl.callV (c_laws_szHandingS (A := B) (n := m) (cp := cq) (x := u) (y := v) (z := (szL n 1048576)) (by first | assumption | omega) (by first | assumption | omega)) rfl ?_
    intro w3 hbel
    replace st := st.call hbel
    clear hbel
    refine Wl.pure (PR.assI rfl) ?_
    refine Wl.nil ?_
    refine tn ?_
    refine Wc.seq ?_
    refine Wc.seq ?_
    refine Wc.region rfl ?_
    refine Wl.pure (PR.moveI rfl) ?_
    refine Wl.pure (PR.lss (a := (szL m (szL n 1048576))) (b := 0) rfl rfl) ?_
    refine Wl.nil ?_
    refine tn ?_
    refine Wc.condD (p := (szL m (szL n 1048576)) < 0) rfl (fun h4 => ?_) (fun h4 => ?_)
    · refine Wc.seq ?_
      refine Wc.region rfl ?_
      refine Wl.pure (PR.assB rfl) ?_
      refine Wl.nil ?_
      refine tn ?_
      refine Wc.ret ?_
      refine tr ?_
      refine postL.tmp rfl rfl ?_
      exact RetV.of rfl st.below
    · refine Wc.skip ?_
      refine tn ?_
      refine Wc.seq ?_
      obtain ⟨hn2, hz2⟩ := szL_ok (n := m) (z := szL n 1048576) (by omega)
      refine Wc.region rfl ?_
      refine Wl.pure (PR.moveL rfl) ?_
      refine Wl.callS st (c_laws_toHandingS (A := A) (n := n) (cp := cp) (x := x) (y := y) (hR.st st) (by first | assumption | omega)) rfl ?_
      clear st
      intro b21 w5 st
      refine Wl.pure (PR.moveL rfl) ?_
      refine Wl.callS st (c_laws_toHandingS (A := B) (n := m) (cp := cq) (x := u) (y := v) (hQ.st st) (by first | assumption | omega)) rfl ?_
      clear st
      intro b23 w6 st
      refine Wl.callV (c_spec_SameHandings (A := some ⟨b21, 0, none⟩) (n := n) (cp := n) (x := x) (y := y) (B := some ⟨b23, 0, none⟩) (m := m) (cq := m) (u := u) (v := v) ((st.rdA (i := 1) (n := (n * 2)) rfl (all_sub (recV_len (s := 2) (hanV_row _ _) _))).sl) ((st.rdA (i := 0) (n := (m * 2)) rfl (all_sub (recV_len (s := 2) (hanV_row _ _) _))).sl) hx hy hu hv (by first | assumption | omega)) rfl ?_
      intro w7 hbel
      replace st := st.call hbel
      clear hbel
      refine Wl.pure (PR.assB rfl) ?_
      refine Wl.nil ?_
      refine tn ?_
      refine Wc.seq ?_
      refine Wc.region rfl ?_
      refine Wl.pure (PR.moveL rfl) ?_
      refine Wl.callS st (c_laws_toHandingS (A := A) (n := n) (cp := cp) (x := x) (y := y) (hR.st st) (by first | assumption | omega)) rfl ?_
      clear st
      intro b26 w8 st
      refine Wl.pure (PR.assL rfl) ?_
      refine Wl.nil ?_
      refine tn ?_
      refine Wc.seq ?_
      refine Wc.region rfl ?_
      refine Wl.pure (PR.moveL rfl) ?_
      refine Wl.callS st (c_laws_toHandingS (A := B) (n := m) (cp := cq) (x := u) (y := v) (hQ.st st) (by first | assumption | omega)) rfl ?_
      clear st
      intro b28 w9 st
      refine Wl.pure (PR.assL rfl) ?_
      refine Wl.nil ?_
      refine tn ?_
      refine Wc.seq ?_
      refine Wc.region rfl ?_
      refine Wl.pure (PR.moveL rfl) ?_
      refine Wl.pure (PR.moveL rfl) ?_
      refine Wl.callV (c_impl_SameHandings (A := some ⟨b26, 0, none⟩) (n := n) (cp := n) (x := x) (y := y) (B := some ⟨b28, 0, none⟩) (m := m) (cq := m) (u := u) (v := v) ((st.rdA (i := 1) (n := (n * 2)) rfl (all_sub (recV_len (s := 2) (hanV_row _ _) _))).sl) ((st.rdA (i := 0) (n := (m * 2)) rfl (all_sub (recV_len (s := 2) (hanV_row _ _) _))).sl) hx hy hu hv (by first | assumption | omega)) rfl ?_
      intro w10 hbel
      replace st := st.call hbel
      clear hbel
      refine Wl.pure (PR.assB rfl) ?_
      refine Wl.nil ?_
      refine tn ?_
      refine Wc.seq ?_
      refine Wc.seq ?_
      refine Wc.region rfl ?_
      refine Wl.pure (PR.moveB rfl) ?_
      refine Wl.pure (PR.moveB rfl) ?_
      refine Wl.pure (PR.neqB (a := (hanEq n x y m u v)) (b := (hanEq n x y m u v)) Try.underlying4 rfl rfl) ?_
      refine Wl.nil ?_
      refine tn ?_
      refine Wc.condNB (b := ((hanEq n x y m u v) == (hanEq n x y m u v))) rfl (fun h11 => ?_) (fun h11 => ?_)
      · refine Wc.seq ?_
        refine Wc.region rfl ?_
        refine Wl.pure (PR.assB rfl) ?_
        refine Wl.nil ?_
        refine tn ?_
        refine Wc.ret ?_
        refine tr ?_
        refine postL.tmp rfl rfl ?_
        refine RetV.of ?_ st.below
        refine congrArg Value.bool ?_
        first | rfl | (exfalso; omega) | (simp only [*, decide_true, decide_false, Bool.not_true, Bool.not_false]; done) | (simp; omega) | (rw [Bool.eq_iff_iff]; simp; omega) | simp_all
      · refine Wc.skip ?_
        refine tn ?_
        refine Wc.seq ?_
        refine Wc.seq ?_
        refine Wc.region rfl ?_
        refine Wl.pure (PR.moveL rfl) ?_
        refine Wl.pure (PR.moveL rfl) ?_
        refine Wl.callS st (c_laws_toHandingS (A := A) (n := n) (cp := cp) (x := x) (y := y) (hR.st st) (by first | assumption | omega)) rfl ?_
        clear st
        intro b37 w12 st
        refine Wl.callV (c_laws_eqHandingS (A := some ⟨b26, 0, none⟩) (n := n) (cp := n) (x := x) (y := y) (B := some ⟨b37, 0, none⟩) (cq := n) ((st.rdA (i := 2) (n := (n * 2)) rfl (all_sub (recV_len (s := 2) (hanV_row _ _) _))).sl) ((st.rdA (i := 0) (n := (n * 2)) rfl (all_sub (recV_len (s := 2) (hanV_row _ _) _))).sl) (by first | assumption | omega)) rfl ?_
        intro w13 hbel
        replace st := st.call hbel
        clear hbel
        refine Wl.pure (PR.not_ rfl) ?_
        refine Wl.nil ?_
        refine tn ?_
        refine Wc.condF rfl ?_
        refine Wc.skip ?_
        refine tn ?_
        refine Wc.seq ?_
        refine Wc.seq ?_
        refine Wc.region rfl ?_
        refine Wl.pure (PR.moveL rfl) ?_
        refine Wl.pure (PR.moveL rfl) ?_
        refine Wl.callS st (c_laws_toHandingS (A := B) (n := m) (cp := cq) (x := u) (y := v) (hQ.st st) (by first | assumption | omega)) rfl ?_
        clear st
        intro b42 w14 st
        refine Wl.callV (c_laws_eqHandingS (A := some ⟨b28, 0, none⟩) (n := m) (cp := m) (x := u) (y := v) (B := some ⟨b42, 0, none⟩) (cq := m) ((st.rdA (i := 2) (n := (m * 2)) rfl (all_sub (recV_len (s := 2) (hanV_row _ _) _))).sl) ((st.rdA (i := 0) (n := (m * 2)) rfl (all_sub (recV_len (s := 2) (hanV_row _ _) _))).sl) (by first | assumption | omega)) rfl ?_
        intro w15 hbel
        replace st := st.call hbel
        clear hbel
        refine Wl.pure (PR.not_ rfl) ?_
        refine Wl.nil ?_
        refine tn ?_
        refine Wc.condF rfl ?_
        refine Wc.skip ?_
        refine tn ?_
        refine Wc.seq ?_
        refine Wc.region rfl ?_
        refine Wl.pure (PR.assB rfl) ?_
        refine Wl.nil ?_
        refine tn ?_
        refine Wc.ret ?_
        refine postL.tmp rfl rfl ?_
        exact RetV.of rfl st.below

end Go.Proofs.Ytgcgfcfkbeomdaa
