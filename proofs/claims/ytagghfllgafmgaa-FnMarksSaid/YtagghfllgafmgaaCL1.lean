/-
  Contracts of functions, printed by a program of ours.
-/
import Derived.Test.YtagghfllgafmgaaCL0
namespace Go.Proofs.Ytagghfllgafmgaa
open Go.RowKit
set_option linter.unusedVariables false
set_option linter.unusedSimpArgs false

set_option maxHeartbeats 400000 in
set_option maxRecDepth 4000 in
theorem c_laws_szLayerS {A : Option Addr} {n : Nat} {cp : Nat} {p : Nat → Int} {c : Nat → Nat → Nat} {z : Int} {w : World} (hn : n ≤ 9223372036854775807) (hz : 0 ≤ z ∧ z ≤ 1048576) :
    CE Try.prog 12 [.slice (A) (n) (cp), .int .i64 (z)] w (RetV w (.int .i64 ((szL n z)))) := by
  refine CE.enter 12 [(0, .slice (A) (n) (cp)), (1, .int .i64 (z))] en_12 Try.func12 rfl rfl (Nat.le_of_ble_eq_true rfl) rfl ?_
  have st := St.start w
  refine Wc.seq ?_
  refine Wc.region rfl ?_
  refine Wl.pure (PR.assI rfl) ?_
  refine Wl.nil ?_
  refine tn ?_
  refine Wc.seq ?_
  refine Wc.region rfl ?_
  refine Wl.pure (PR.moveI rfl) ?_
  refine Wl.pure (PR.moveL rfl) ?_
  refine Wl.pure (PR.lenL tS_32 rfl) ?_
  refine Wl.pure (PR.sub (a := z) (b := ((n : Nat) : Int)) rfl rfl (by simp only [fitI]; omega)) ?_
  refine Wl.pure (PR.assI rfl) ?_
  refine Wl.nil ?_
  refine tn ?_
  refine Wc.seq ?_
  refine Wc.seq ?_
  refine Wc.region rfl ?_
  refine Wl.pure (PR.moveI rfl) ?_
  refine Wl.pure (PR.lss (a := (z - ((n : Nat) : Int))) (b := 0) rfl rfl) ?_
  refine Wl.nil ?_
  refine tn ?_
  refine Wc.condD (p := (z - ((n : Nat) : Int)) < 0) rfl (fun h1 => ?_) (fun h1 => ?_)
  · refine Wc.seq ?_
    refine Wc.region rfl ?_
    refine Wl.pure (PR.assI rfl) ?_
    refine Wl.nil ?_
    refine tn ?_
    refine Wc.ret ?_
    refine tr ?_
    refine postL.tmp rfl rfl ?_
    refine RetV.of ?_ st.below
    refine congrArg (Value.int .i64) ?_
    unfold szL; split <;> omega
  · refine Wc.skip ?_
    refine tn ?_
    refine Wc.seq ?_
    refine Wc.region rfl ?_
    refine Wl.pure (PR.moveI rfl) ?_
    refine Wl.pure (PR.assI rfl) ?_
    refine Wl.nil ?_
    refine tn ?_
    refine Wc.ret ?_
    refine postL.tmp rfl rfl ?_
    refine RetV.of ?_ st.below
    refine congrArg (Value.int .i64) ?_
    unfold szL; split <;> omega

set_option maxHeartbeats 400000 in
set_option maxRecDepth 4000 in
theorem c_laws_toLayerS {A : Option Addr} {n : Nat} {cp : Nat} {p : Nat → Int} {c : Nat → Nat → Nat} {w : World} (hR : RdS w A n (layS n p c)) (hc : ∀ i k, c i k < 256) (hn : n ≤ 1048576) :
    CE Try.prog 14 [.slice (A) (n) (cp)] w (RetS w 29 (n) (n) (layS n p c)) := by
  refine CE.enter 23 [(0, .slice (A) (n) (cp))] en_14 Try.func14 rfl rfl (Nat.le_of_ble_eq_true rfl) rfl ?_
  have st := St.start w
  refine Wc.seq ?_
  refine Wc.region rfl ?_
  refine Wl.pure (PR.assL rfl) ?_
  refine Wl.nil ?_
  refine tn ?_
  refine Wc.seq ?_
  refine Wc.region rfl ?_
  refine Wl.pure (PR.moveL rfl) ?_
  refine Wl.pure (PR.lenL tS_32 rfl) ?_
  refine Wl.makeSlice (n := n) st tS_37 tZ_29 rfl rfl rfl (by omega) (by omega) ?_
  clear st
  intro b7 w1 st
  replace st : St [] w w1 [(b7, layS n (fun _ => 0) (fun _ _ => 0), 29)] := st
  refine Wl.pure (PR.assL rfl) ?_
  refine Wl.nil ?_
  refine tn ?_
  refine Wc.seq ?_
  refine Wc.seq ?_
  refine Wc.region rfl ?_
  refine Wl.pure (PR.assI rfl) ?_
  refine Wl.nil ?_
  refine tn ?_
  refine Wc.block ?_
  refine Wc.loopF (γ := Nat × (Nat → Int) × (Nat → Nat → Nat)) (fun g => [(0, .slice (A) (n) (cp)), (2, .slice (none) (0) (0)), (3, .slice (some ⟨b7, 0, none⟩) (n) (n)), (4, .int .i64 (((g.1 : Nat) : Int)))]) (fun g w_ => St [] w w_ [(b7, layS n g.2.1 g.2.2, 29)] ∧ (g.1 ≤ n) ∧ (∀ j, j < g.1 → g.2.1 j = p j) ∧ (∀ j, j < g.1 → g.2.2 j = c j)) (fun g => n - g.1) ?_ ?_
  · exact ⟨(0, (fun _ => 0), (fun _ _ => 0)), (.cons rfl (.cons rfl (.cons rfl (.cons rfl (.nil _))))), st, (by first | omega | (dsimp only; omega)), (fun j hj => by omega), (fun j hj => by omega)⟩
  clear st
  rintro ⟨k, p1, c1⟩ w2 ⟨st, hk, gx, gy⟩
  try dsimp only at st hk gx gy ⊢
  refine Wc.seq ?_
  refine Wc.seq ?_
  refine Wc.region rfl ?_
  refine Wl.pure (PR.moveI rfl) ?_
  refine Wl.pure (PR.moveL rfl) ?_
  refine Wl.pure (PR.lenL tS_32 rfl) ?_
  refine Wl.pure (PR.lss (a := ((k : Nat) : Int)) (b := ((n : Nat) : Int)) rfl rfl) ?_
  refine Wl.nil ?_
  refine tn ?_
  refine Wc.condD (p := ((k : Nat) : Int) < ((n : Nat) : Int)) rfl (fun h3 => ?_) (fun h3 => ?_)
  · refine Wc.skip ?_
    refine tn ?_
    refine Wc.seq ?_
    refine Wc.block ?_
    refine Wc.region rfl ?_
    refine Wl.pure (PR.moveL rfl) ?_
    refine Wl.pure (PR.moveI rfl) ?_
    refine Wl.pure (PR.moveL rfl) ?_
    refine Wl.pure (PR.moveI rfl) ?_
    obtain ⟨bs4, os5, rfl, hs6⟩ := hR (by omega)
    refine Wl.pure (PR.idxAddrS (i := k) tS_32 rfl rfl (by omega)) ?_
    refine Wl.loadAC (vs := layV (p k) ((c k))) tA_25 rfl layV_len ((hs6.st st).sub (recV_sub (n := n) (i := k) (layS_row _ _) (by omega)) rfl) ?_
    refine Wl.callV (c_laws_toLayer (p := p k) (c := (c k)) (hc k)) rfl ?_
    intro w7 hbel
    replace st := st.call hbel
    clear hbel
    refine Wl.pure (PR.idxAddrS (i := k) tS_37 rfl rfl (by omega)) ?_
    refine Wl.storeA (i := 0) (cs' := layS n (upd p1 (k) ((p k))) (upd c1 (k) ((c k)))) st tA_29 rfl rfl layV_len layV_one rfl (recV_tot (layS_row _ _) (by omega)) (layS_put (by omega)) ?_
    clear st
    intro w8 st
    replace st : St [] w w8 [(b7, layS n (upd p1 (k) ((p k))) (upd c1 (k) ((c k))), 29)] := st
    refine Wl.nil ?_
    refine bn ?_
    refine tn ?_
    refine Wc.region rfl ?_
    refine Wl.pure (PR.moveI rfl) ?_
    refine Wl.pure (PR.add (a := ((k : Nat) : Int)) (b := 1) rfl rfl (by simp only [fitI]; omega)) ?_
    refine Wl.pure (PR.assI rfl) ?_
    refine Wl.nil ?_
    refine tn ?_
    exact ⟨(k + 1, (upd p1 (k) ((p k))), (upd c1 (k) ((c k)))), (.cons rfl (.cons rfl (.cons rfl (.cons rfl (.nil _))))), ⟨st, (by first | omega | (dsimp only; omega)), (upd_snoc gx rfl), (upd_snoc gy rfl)⟩, (by first | omega | (dsimp only; omega))⟩
  · refine Wc.exit ?_
    refine tx ?_
    refine tx ?_
    refine bh ?_
    refine tn ?_
    refine Wc.seq ?_
    refine Wc.region rfl ?_
    refine Wl.pure (PR.moveL rfl) ?_
    refine Wl.pure (PR.assL rfl) ?_
    refine Wl.nil ?_
    refine tn ?_
    refine Wc.ret ?_
    refine postL.tmp rfl rfl ?_
    exact st.retS (i := 0) rfl (layS_congr (fun j hj => gx j (by omega)) (fun j hj r _ => by rw [gy j (by omega)]))

set_option maxHeartbeats 400000 in
set_option maxRecDepth 4000 in
theorem c_laws_eqByteA64 {c : Nat → Nat} {w : World} :
    CE Try.prog 82 [.agg (arrU .u8 64 c).toArray, .agg (arrU .u8 64 c).toArray] w (RetV w (.bool true)) := by
  refine CE.enter 17 [(0, .agg (arrU .u8 64 c).toArray), (1, .agg (arrU .u8 64 c).toArray)] en_82 Try.func82 rfl rfl (Nat.le_of_ble_eq_true rfl) rfl ?_
  have st := St.start w
  refine Wc.seq ?_
  refine Wc.region rfl ?_
  refine Wl.boxA st rfl ?_
  clear st
  intro b2 w1 st
  refine Wl.boxA st rfl ?_
  clear st
  intro b3 w2 st
  refine Wl.pure (PR.assB rfl) ?_
  refine Wl.nil ?_
  refine tn ?_
  refine Wc.seq ?_
  refine Wc.seq ?_
  refine Wc.region rfl ?_
  refine Wl.pure (PR.assI rfl) ?_
  refine Wl.nil ?_
  refine tn ?_
  refine Wc.block ?_
  refine Wc.loopF (γ := Nat) (fun g => [(2, .pointer (some ⟨b2, 0, none⟩)), (3, .pointer (some ⟨b3, 0, none⟩)), (5, .int .i64 (((g : Nat) : Int)))]) (fun g w_ => St [] w w_ [(b3, arrU .u8 64 c, 23), (b2, arrU .u8 64 c, 23)] ∧ (g ≤ 64)) (fun g => 64 - g) ?_ ?_
  · exact ⟨0, (.cons rfl (.cons rfl (.cons rfl (.nil _)))), st, (by first | omega | (dsimp only; omega))⟩
  clear st
  rintro k w3 ⟨st, hk⟩
  try dsimp only at st hk ⊢
  refine Wc.seq ?_
  refine Wc.seq ?_
  refine Wc.region rfl ?_
  refine Wl.pure (PR.moveI rfl) ?_
  refine Wl.pure (PR.lss (a := ((k : Nat) : Int)) (b := 64) rfl rfl) ?_
  refine Wl.nil ?_
  refine tn ?_
  refine Wc.condD (p := ((k : Nat) : Int) < 64) rfl (fun h4 => ?_) (fun h4 => ?_)
  · refine Wc.skip ?_
    refine tn ?_
    refine Wc.seq ?_
    refine Wc.block ?_
    refine Wc.seq ?_
    refine Wc.quiet hmix (by kernel_rfl) rfl ?_
    refine Wq.pure (PR.moveI rfl) ?_
    refine Wq.pure (PR.idxAddrA1 (i := k) tE_23 rfl rfl (by omega)) ?_
    refine Wq.load (i := 1) st tA_5 rfl rfl (arrU_get0 (by omega)) ?_
    refine Wq.pure (PR.moveI rfl) ?_
    refine Wq.pure (PR.idxAddrA1 (i := k) tE_23 rfl rfl (by omega)) ?_
    refine Wq.load (i := 0) st tA_5 rfl rfl (arrU_get0 (by omega)) ?_
    refine Wq.pure (PR.neqS (a := ((c (k) : Nat) : Int)) rfl rfl) ?_
    refine Wq.nil (fun w5 hbel => ?_)
    replace st := st.call hbel
    clear hbel
    refine tn ?_
    refine Wc.condF rfl ?_
    refine Wc.skip ?_
    refine bn ?_
    refine tn ?_
    refine Wc.region rfl ?_
    refine Wl.pure (PR.moveI rfl) ?_
    refine Wl.pure (PR.add (a := ((k : Nat) : Int)) (b := 1) rfl rfl (by simp only [fitI]; omega)) ?_
    refine Wl.pure (PR.assI rfl) ?_
    refine Wl.nil ?_
    refine tn ?_
    exact ⟨k + 1, (.cons rfl (.cons rfl (.cons rfl (.nil _)))), ⟨st, (by first | omega | (dsimp only; omega))⟩, (by first | omega | (dsimp only; omega))⟩
  · refine Wc.exit ?_
    refine tx ?_
    refine tx ?_
    refine bh ?_
    refine tn ?_
    refine Wc.seq ?_
    refine Wc.region rfl ?_
    refine Wl.pure (PR.assB rfl) ?_
    refine Wl.nil ?_
    refine tn ?_
    refine Wc.ret ?_
    refine postL.tmp rfl rfl ?_
    exact RetV.of rfl st.below

set_option maxHeartbeats 400000 in
set_option maxRecDepth 4000 in
theorem c_laws_eqLayer {p : Int} {c : Nat → Nat} {w : World} :
    CE Try.prog 53 [.agg (layV (p) (c)).toArray, .agg (layV (p) (c)).toArray] w (RetV w (.bool true)) := by
  refine CE.enter 16 [(0, .agg (layV (p) (c)).toArray), (1, .agg (layV (p) (c)).toArray)] en_53 Try.func53 rfl rfl (Nat.le_of_ble_eq_true rfl) rfl ?_
  have st := St.start w
  refine Wc.seq ?_
  refine Wc.region rfl ?_
  refine Wl.boxA st rfl ?_
  clear st
  intro b2 w1 st
  refine Wl.boxA st rfl ?_
  clear st
  intro b3 w2 st
  refine Wl.pure (PR.assB rfl) ?_
  refine Wl.nil ?_
  refine tn ?_
  refine Wc.seq ?_
  refine Wc.seq ?_
  refine Wc.region rfl ?_
  refine Wl.pure (PR.fieldAddr tF_29_0 rfl) ?_
  refine Wl.load (i := 1) st tA_22 rfl rfl (rfl) ?_
  refine Wl.pure (PR.fieldAddr tF_29_0 rfl) ?_
  refine Wl.load (i := 0) st tA_22 rfl rfl (rfl) ?_
  refine Wl.pure (PR.neqS (a := p) rfl rfl) ?_
  refine Wl.nil ?_
  refine tn ?_
  refine Wc.condF rfl ?_
  refine Wc.skip ?_
  refine tn ?_
  refine Wc.seq ?_
  refine Wc.seq ?_
  refine Wc.region rfl ?_
  refine Wl.pure (PR.fieldAddr tF_29_1 rfl) ?_
  refine Wl.loadA (i := 1) st tA_23 rfl rfl layV_sub_c (arrU_len _) ?_
  refine Wl.pure (PR.fieldAddr tF_29_1 rfl) ?_
  refine Wl.loadA (i := 0) st tA_23 rfl rfl layV_sub_c (arrU_len _) ?_
  refine Wl.callV (c_laws_eqByteA64 (c := c)) rfl ?_
  intro w3 hbel
  replace st := st.call hbel
  clear hbel
  refine Wl.pure (PR.not_ rfl) ?_
  refine Wl.nil ?_
  refine tn ?_
  refine Wc.condF rfl ?_
  refine Wc.skip ?_
  refine tn ?_
  refine Wc.seq ?_
  refine Wc.region rfl ?_
  refine Wl.pure (PR.assB rfl) ?_
  refine Wl.nil ?_
  refine tn ?_
  refine Wc.ret ?_
  refine postL.tmp rfl rfl ?_
  exact RetV.of rfl st.below

set_option maxHeartbeats 400000 in
set_option maxRecDepth 4000 in
theorem c_laws_eqLayerS {A : Option Addr} {n : Nat} {cp : Nat} {p : Nat → Int} {c : Nat → Nat → Nat} {B : Option Addr} {cq : Nat} {w : World} (hR : RdS w A n (layS n p c)) (hQ : RdS w B n (layS n p c)) (hn : n ≤ 1048576) :
    CE Try.prog 17 [.slice (A) (n) (cp), .slice (B) (n) (cq)] w (RetV w (.bool true)) := by
  refine CE.enter 27 [(0, .slice (A) (n) (cp)), (1, .slice (B) (n) (cq))] en_17 Try.func17 rfl rfl (Nat.le_of_ble_eq_true rfl) rfl ?_
  have st := St.start w
  refine Wc.seq ?_
  refine Wc.region rfl ?_
  refine Wl.pure (PR.assB rfl) ?_
  refine Wl.nil ?_
  refine tn ?_
  refine Wc.seq ?_
  refine Wc.seq ?_
  refine Wc.region rfl ?_
  refine Wl.pure (PR.moveL rfl) ?_
  refine Wl.pure (PR.lenL tS_37 rfl) ?_
  refine Wl.pure (PR.moveL rfl) ?_
  refine Wl.pure (PR.lenL tS_37 rfl) ?_
  refine Wl.pure (PR.neqS (a := ((n : Nat) : Int)) rfl rfl) ?_
  refine Wl.nil ?_
  refine tn ?_
  refine Wc.condF rfl ?_
  refine Wc.skip ?_
  refine tn ?_
  refine Wc.seq ?_
  refine Wc.seq ?_
  refine Wc.region rfl ?_
  refine Wl.pure (PR.assI rfl) ?_
  refine Wl.nil ?_
  refine tn ?_
  refine Wc.block ?_
  refine Wc.loopF (γ := Nat) (fun g => [(0, .slice (A) (n) (cp)), (1, .slice (B) (n) (cq)), (5, .int .i64 (((g : Nat) : Int)))]) (fun g w_ => St [] w w_ [] ∧ (g ≤ n)) (fun g => n - g) ?_ ?_
  · exact ⟨0, (.cons rfl (.cons rfl (.cons rfl (.nil _)))), st, (by first | omega | (dsimp only; omega))⟩
  clear st
  rintro k w1 ⟨st, hk⟩
  try dsimp only at st hk ⊢
  refine Wc.seq ?_
  refine Wc.seq ?_
  refine Wc.region rfl ?_
  refine Wl.pure (PR.moveI rfl) ?_
  refine Wl.pure (PR.moveL rfl) ?_
  refine Wl.pure (PR.lenL tS_37 rfl) ?_
  refine Wl.pure (PR.lss (a := ((k : Nat) : Int)) (b := ((n : Nat) : Int)) rfl rfl) ?_
  refine Wl.nil ?_
  refine tn ?_
  refine Wc.condD (p := ((k : Nat) : Int) < ((n : Nat) : Int)) rfl (fun h2 => ?_) (fun h2 => ?_)
  · refine Wc.skip ?_
    refine tn ?_
    refine Wc.seq ?_
    refine Wc.block ?_
    refine Wc.seq ?_
    refine Wc.quiet hmix (by kernel_rfl) rfl ?_
    refine Wq.pure (PR.moveL rfl) ?_
    refine Wq.pure (PR.moveI rfl) ?_
    obtain ⟨bs3, os4, rfl, hs5⟩ := hR (by omega)
    refine Wq.pure (PR.idxAddrS (i := k) tS_37 rfl rfl (by omega)) ?_
    refine Wq.loadAC (vs := layV (p k) ((c k))) tA_29 rfl layV_len ((hs5.st st).sub (recV_sub (n := n) (i := k) (layS_row _ _) (by omega)) rfl) ?_
    refine Wq.pure (PR.moveL rfl) ?_
    refine Wq.pure (PR.moveI rfl) ?_
    obtain ⟨bs6, os7, rfl, hs8⟩ := hQ (by omega)
    refine Wq.pure (PR.idxAddrS (i := k) tS_37 rfl rfl (by omega)) ?_
    refine Wq.loadAC (vs := layV (p k) ((c k))) tA_29 rfl layV_len ((hs8.st st).sub (recV_sub (n := n) (i := k) (layS_row _ _) (by omega)) rfl) ?_
    refine Wq.callV (fun _ hbel => c_laws_eqLayer (p := p k) (c := (c k))) rfl ?_
    refine Wq.pure (PR.not_ rfl) ?_
    refine Wq.nil (fun w9 hbel => ?_)
    replace st := st.call hbel
    clear hbel
    refine tn ?_
    refine Wc.condF rfl ?_
    refine Wc.skip ?_
    refine bn ?_
    refine tn ?_
    refine Wc.region rfl ?_
    refine Wl.pure (PR.moveI rfl) ?_
    refine Wl.pure (PR.add (a := ((k : Nat) : Int)) (b := 1) rfl rfl (by simp only [fitI]; omega)) ?_
    refine Wl.pure (PR.assI rfl) ?_
    refine Wl.nil ?_
    refine tn ?_
    exact ⟨k + 1, (.cons rfl (.cons rfl (.cons rfl (.nil _)))), ⟨st, (by first | omega | (dsimp only; omega))⟩, (by first | omega | (dsimp only; omega))⟩
  · refine Wc.exit ?_
    refine tx ?_
    refine tx ?_
    refine bh ?_
    refine tn ?_
    refine Wc.seq ?_
    refine Wc.region rfl ?_
    refine Wl.pure (PR.assB rfl) ?_
    refine Wl.nil ?_
    refine tn ?_
    refine Wc.ret ?_
    refine postL.tmp rfl rfl ?_
    exact RetV.of rfl st.below

set_option maxHeartbeats 400000 in
set_option maxRecDepth 4000 in
theorem c_laws_markLayerS {ba : Nat} {n : Nat} {cp : Nat} {p : Nat → Int} {c : Nat → Nat → Nat} {sp : List Value} {z : Nat} {w : World} (hn : n ≤ 1048576) (hz : z ≤ 1000000) (hst : St [ba] w w [(ba, layS n p c ++ sp, 29)]) :
    CE Try.prog 18 [.slice (some ⟨ba, 0, none⟩) (n) (cp), .int .i64 (((z : Nat) : Int))] w (RetXE (γ := (Nat → Int) × (Nat → Nat → Nat)) w [ba] (fun g => True) (fun g => .int .i64 ((((z + 65 * n) : Nat) : Int))) (fun g => [(ba, layS n g.1 g.2 ++ sp, 29)])) := by
  refine CE.enter 36 [(0, .slice (some ⟨ba, 0, none⟩) (n) (cp)), (1, .int .i64 (((z : Nat) : Int)))] en_18 Try.func18 rfl rfl (Nat.le_of_ble_eq_true rfl) rfl ?_
  have st := hst
  refine Wc.seq ?_
  refine Wc.region rfl ?_
  refine Wl.pure (PR.assI rfl) ?_
  refine Wl.nil ?_
  refine tn ?_
  refine Wc.seq ?_
  refine Wc.seq ?_
  refine Wc.region rfl ?_
  refine Wl.pure (PR.assI rfl) ?_
  refine Wl.nil ?_
  refine tn ?_
  refine Wc.block ?_
  refine Wc.loopF (γ := Nat × Nat × (Nat → Int) × (Nat → Nat → Nat)) (fun g => [(0, .slice (some ⟨ba, 0, none⟩) (n) (cp)), (1, .int .i64 (((g.2.1 : Nat) : Int))), (4, .int .i64 (0)), (5, .int .i64 (((g.1 : Nat) : Int)))]) (fun g w_ => St [ba] w w_ [(ba, layS n g.2.2.1 g.2.2.2 ++ sp, 29)] ∧ (g.1 ≤ n) ∧ (g.2.1 = z + 65 * g.1)) (fun g => n - g.1) ?_ ?_
  · exact ⟨(0, z, p, c), (.cons rfl (.cons rfl (.cons rfl (.cons rfl (.nil _))))), st, (by first | omega | (dsimp only; omega)), rfl⟩
  clear st
  rintro ⟨i, y, p, c⟩ w1 ⟨st, hi, hy⟩
  try dsimp only at st hi hy ⊢
  refine Wc.seq ?_
  refine Wc.seq ?_
  refine Wc.region rfl ?_
  refine Wl.pure (PR.moveI rfl) ?_
  refine Wl.pure (PR.moveL rfl) ?_
  refine Wl.pure (PR.lenL tS_37 rfl) ?_
  refine Wl.pure (PR.lss (a := ((i : Nat) : Int)) (b := ((n : Nat) : Int)) rfl rfl) ?_
  refine Wl.nil ?_
  refine tn ?_
  refine Wc.condD (p := ((i : Nat) : Int) < ((n : Nat) : Int)) rfl (fun h2 => ?_) (fun h2 => ?_)
  · refine Wc.skip ?_
    refine tn ?_
    refine Wc.seq ?_
    refine Wc.block ?_
    refine Wc.seq ?_
    refine Wc.region rfl ?_
    refine Wl.pure (PR.moveL rfl) ?_
    refine Wl.pure (PR.moveI rfl) ?_
    refine Wl.pure (PR.moveI rfl) ?_
    refine Wl.pure (PR.convW (n := ((y : Nat) : Int)) tI_22 rfl Try.underlying3) ?_
    refine Wl.pure (PR.idxAddrS (i := i) tS_37 rfl rfl (by omega)) ?_
    refine Wl.pure (PR.fieldAddr tF_29_0 rfl) ?_
    refine Wl.store (i := 0) (cs' := layS n (upd p i (IntKind.i8.wrap ((y : Nat) : Int))) c ++ sp) st tA_22 rfl rfl rfl rfl (app_in (layS_in (i := i) (j := 0) (by omega) (by omega) (by omega))) (app_set (layS_in (i := i) (j := 0) (by omega) (by omega) (by omega)) (layS_set_p (by omega))) ?_
    clear st
    intro w3 st
    replace st : St [ba] w w3 [(ba, layS n (upd p i (IntKind.i8.wrap ((y : Nat) : Int))) c ++ sp, 29)] := st
    refine Wl.nil ?_
    refine tn ?_
    refine Wc.seq ?_
    refine Wc.region rfl ?_
    refine Wl.pure (PR.moveI rfl) ?_
    refine Wl.pure (PR.add (a := ((y : Nat) : Int)) (b := 1) rfl rfl (by simp only [fitI]; omega)) ?_
    refine Wl.pure (PR.assI rfl) ?_
    refine Wl.nil ?_
    refine tn ?_
    refine Wc.seq ?_
    refine Wc.region rfl ?_
    refine Wl.pure (PR.assI rfl) ?_
    refine Wl.nil ?_
    refine tn ?_
    refine Wc.block ?_
    refine Wc.loopF (γ := Nat × Nat × (Nat → Nat → Nat)) (fun g => [(0, .slice (some ⟨ba, 0, none⟩) (n) (cp)), (1, .int .i64 (((g.2.1 : Nat) : Int))), (4, .int .i64 (0)), (5, .int .i64 (((i : Nat) : Int))), (6, .int .i64 (((g.1 : Nat) : Int))), (7, .int .i64 (((i : Nat) : Int))), (8, .slice (some ⟨ba, 0, none⟩) (n) (cp)), (9, .int .i64 (((n : Nat) : Int))), (10, .bool (decide (((i : Nat) : Int) < ((n : Nat) : Int)))), (13, .slice (some ⟨ba, 0, none⟩) (n) (cp)), (14, .int .i64 (((i : Nat) : Int))), (15, .int .i64 (((y : Nat) : Int))), (16, .int .i8 ((IntKind.i8.wrap ((y : Nat) : Int)))), (17, .pointer (some ⟨ba, 0 + i * 65, none⟩)), (18, .pointer (some ⟨ba, 0 + i * 65, none⟩)), (19, .int .i64 (((y : Nat) : Int))), (20, .int .i64 ((((y + 1) : Nat) : Int)))]) (fun g w_ => St [ba] w w_ [(ba, layS n (upd p i (IntKind.i8.wrap ((y : Nat) : Int))) g.2.2 ++ sp, 29)] ∧ (g.1 ≤ 64) ∧ (g.2.1 = z + 65 * i + 1 + g.1)) (fun g => 64 - g.1) ?_ ?_
    · exact ⟨(0, (y + 1), c), (.cons rfl (.cons rfl (.cons rfl (.cons rfl (.cons rfl (.cons rfl (.cons rfl (.cons rfl (.cons rfl (.cons rfl (.cons rfl (.cons rfl (.cons rfl (.cons rfl (.cons rfl (.cons rfl (.cons rfl (.nil _)))))))))))))))))), st, (by first | omega | (dsimp only; omega)), (by first | omega | (dsimp only; omega))⟩
    clear st
    rintro ⟨j, yy, c⟩ w4 ⟨st, hj, hyy⟩
    try dsimp only at st hj hyy ⊢
    refine Wc.seq ?_
    refine Wc.seq ?_
    refine Wc.region rfl ?_
    refine Wl.pure (PR.moveI rfl) ?_
    refine Wl.pure (PR.lss (a := ((j : Nat) : Int)) (b := 64) rfl rfl) ?_
    refine Wl.nil ?_
    refine tn ?_
    refine Wc.condD (p := ((j : Nat) : Int) < 64) rfl (fun h5 => ?_) (fun h5 => ?_)
    · refine Wc.skip ?_
      refine tn ?_
      refine Wc.seq ?_
      refine Wc.block ?_
      refine Wc.seq ?_
      refine Wc.region rfl ?_
      refine Wl.pure (PR.moveL rfl) ?_
      refine Wl.pure (PR.moveI rfl) ?_
      refine Wl.pure (PR.moveI rfl) ?_
      refine Wl.pure (PR.moveI rfl) ?_
      refine Wl.pure (PR.convU (n := yy) tI_5 rfl (by decide) Try.underlying3) ?_
      refine Wl.pure (PR.idxAddrS (i := i) tS_37 rfl rfl (by omega)) ?_
      refine Wl.pure (PR.fieldAddr tF_29_1 rfl) ?_
      refine Wl.pure (PR.idxAddrA1 (i := j) tE_23 rfl rfl (by omega)) ?_
      refine Wl.store (i := 0) (cs' := layS n (upd p i (IntKind.i8.wrap ((y : Nat) : Int))) (upd c i (upd (c i) j (yy % 256))) ++ sp) st tA_5 rfl rfl rfl rfl (app_in (layS_in (i := i) (j := 1 + j) (by omega) (by omega) (by omega))) (app_set (layS_in (i := i) (j := 1 + j) (by omega) (by omega) (by omega)) (layS_set_c (by omega) (by omega))) ?_
      clear st
      intro w6 st
      replace st : St [ba] w w6 [(ba, layS n (upd p i (IntKind.i8.wrap ((y : Nat) : Int))) (upd c i (upd (c i) j (yy % 256))) ++ sp, 29)] := st
      refine Wl.nil ?_
      refine tn ?_
      refine Wc.region rfl ?_
      refine Wl.pure (PR.moveI rfl) ?_
      refine Wl.pure (PR.add (a := ((yy : Nat) : Int)) (b := 1) rfl rfl (by simp only [fitI]; omega)) ?_
      refine Wl.pure (PR.assI rfl) ?_
      refine Wl.nil ?_
      refine bn ?_
      refine tn ?_
      refine Wc.region rfl ?_
      refine Wl.pure (PR.moveI rfl) ?_
      refine Wl.pure (PR.add (a := ((j : Nat) : Int)) (b := 1) rfl rfl (by simp only [fitI]; omega)) ?_
      refine Wl.pure (PR.assI rfl) ?_
      refine Wl.nil ?_
      refine tn ?_
      exact ⟨(j + 1, (yy + 1), (upd c i (upd (c i) j (yy % 256)))), (.cons rfl (.cons rfl (.cons rfl (.cons rfl (.cons rfl (.cons rfl (.cons rfl (.cons rfl (.cons rfl (.cons rfl (.cons rfl (.cons rfl (.cons rfl (.cons rfl (.cons rfl (.cons rfl (.cons rfl (.nil _)))))))))))))))))), ⟨st, (by first | omega | (dsimp only; omega)), (by first | omega | (dsimp only; omega))⟩, (by first | omega | (dsimp only; omega))⟩
    · refine Wc.exit ?_
      refine tx ?_
      refine tx ?_
      refine bh ?_
      refine bn ?_
      refine tn ?_
      refine Wc.region rfl ?_
      refine Wl.pure (PR.moveI rfl) ?_
      refine Wl.pure (PR.add (a := ((i : Nat) : Int)) (b := 1) rfl rfl (by simp only [fitI]; omega)) ?_
      refine Wl.pure (PR.assI rfl) ?_
      refine Wl.nil ?_
      refine tn ?_
      exact ⟨(i + 1, yy, (upd p i (IntKind.i8.wrap ((y : Nat) : Int))), c), (.cons rfl (.cons rfl (.cons rfl (.cons rfl (.nil _))))), ⟨st, (by first | omega | (dsimp only; omega)), (by first | omega | (dsimp only; omega))⟩, (by first | omega | (dsimp only; omega))⟩
  · refine Wc.exit ?_
    refine tx ?_
    refine tx ?_
    refine bh ?_
    refine tn ?_
    refine Wc.seq ?_
    refine Wc.region rfl ?_
    refine Wl.pure (PR.moveI rfl) ?_
    refine Wl.pure (PR.assI rfl) ?_
    refine Wl.nil ?_
    refine tn ?_
    refine Wc.ret ?_
    refine postL.tmp rfl rfl ?_
    obtain rfl : i = n := by omega
    subst hy
    exact ⟨(p, c), trivial, rfl, st⟩

set_option maxHeartbeats 400000 in
set_option maxRecDepth 4000 in
theorem c_laws_eqUint32S {A : Option Addr} {n : Nat} {cp : Nat} {c : Nat → Nat} {B : Option Addr} {cq : Nat} {w : World} (hR : RdS w A n (arrU .u32 n c)) (hQ : RdS w B n (arrU .u32 n c)) (hn : n ≤ 1048576) :
    CE Try.prog 16 [.slice (A) (n) (cp), .slice (B) (n) (cq)] w (RetV w (.bool true)) := by
  refine CE.enter 26 [(0, .slice (A) (n) (cp)), (1, .slice (B) (n) (cq))] en_16 Try.func16 rfl rfl (Nat.le_of_ble_eq_true rfl) rfl ?_
  have st := St.start w
  refine Wc.seq ?_
  refine Wc.region rfl ?_
  refine Wl.pure (PR.assB rfl) ?_
  refine Wl.nil ?_
  refine tn ?_
  refine Wc.seq ?_
  refine Wc.seq ?_
  refine Wc.region rfl ?_
  refine Wl.pure (PR.moveL rfl) ?_
  refine Wl.pure (PR.lenL tS_34 rfl) ?_
  refine Wl.pure (PR.moveL rfl) ?_
  refine Wl.pure (PR.lenL tS_34 rfl) ?_
  refine Wl.pure (PR.neqS (a := ((n : Nat) : Int)) rfl rfl) ?_
  refine Wl.nil ?_
  refine tn ?_
  refine Wc.condF rfl ?_
  refine Wc.skip ?_
  refine tn ?_
  refine Wc.seq ?_
  refine Wc.seq ?_
  refine Wc.region rfl ?_
  refine Wl.pure (PR.assI rfl) ?_
  refine Wl.nil ?_
  refine tn ?_
  refine Wc.block ?_
  refine Wc.loopF (γ := Nat) (fun g => [(0, .slice (A) (n) (cp)), (1, .slice (B) (n) (cq)), (5, .int .i64 (((g : Nat) : Int)))]) (fun g w_ => St [] w w_ [] ∧ (g ≤ n)) (fun g => n - g) ?_ ?_
  · exact ⟨0, (.cons rfl (.cons rfl (.cons rfl (.nil _)))), st, (by first | omega | (dsimp only; omega))⟩
  clear st
  rintro k w1 ⟨st, hk⟩
  try dsimp only at st hk ⊢
  refine Wc.seq ?_
  refine Wc.seq ?_
  refine Wc.region rfl ?_
  refine Wl.pure (PR.moveI rfl) ?_
  refine Wl.pure (PR.moveL rfl) ?_
  refine Wl.pure (PR.lenL tS_34 rfl) ?_
  refine Wl.pure (PR.lss (a := ((k : Nat) : Int)) (b := ((n : Nat) : Int)) rfl rfl) ?_
  refine Wl.nil ?_
  refine tn ?_
  refine Wc.condD (p := ((k : Nat) : Int) < ((n : Nat) : Int)) rfl (fun h2 => ?_) (fun h2 => ?_)
  · refine Wc.skip ?_
    refine tn ?_
    refine Wc.seq ?_
    refine Wc.block ?_
    refine Wc.seq ?_
    refine Wc.quiet hmix (by kernel_rfl) rfl ?_
    refine Wq.pure (PR.moveL rfl) ?_
    refine Wq.pure (PR.moveI rfl) ?_
    obtain ⟨bs3, os4, rfl, hs5⟩ := hR (by omega)
    refine Wq.pure (PR.idxAddrS1 (i := k) tS_34 rfl rfl (by omega)) ?_
    refine Wq.loadC tA_26 rfl ((hs5.st st).at_ (arrU_get0 (by omega)) (Nat.add_assoc _ _ _).symm) ?_
    refine Wq.pure (PR.moveL rfl) ?_
    refine Wq.pure (PR.moveI rfl) ?_
    obtain ⟨bs6, os7, rfl, hs8⟩ := hQ (by omega)
    refine Wq.pure (PR.idxAddrS1 (i := k) tS_34 rfl rfl (by omega)) ?_
    refine Wq.loadC tA_26 rfl ((hs8.st st).at_ (arrU_get0 (by omega)) (Nat.add_assoc _ _ _).symm) ?_
    refine Wq.pure (PR.neqS (a := ((c (k) : Nat) : Int)) rfl rfl) ?_
    refine Wq.nil (fun w9 hbel => ?_)
    replace st := st.call hbel
    clear hbel
    refine tn ?_
    refine Wc.condF rfl ?_
    refine Wc.skip ?_
    refine bn ?_
    refine tn ?_
    refine Wc.region rfl ?_
    refine Wl.pure (PR.moveI rfl) ?_
    refine Wl.pure (PR.add (a := ((k : Nat) : Int)) (b := 1) rfl rfl (by simp only [fitI]; omega)) ?_
    refine Wl.pure (PR.assI rfl) ?_
    refine Wl.nil ?_
    refine tn ?_
    exact ⟨k + 1, (.cons rfl (.cons rfl (.cons rfl (.nil _)))), ⟨st, (by first | omega | (dsimp only; omega))⟩, (by first | omega | (dsimp only; omega))⟩
  · refine Wc.exit ?_
    refine tx ?_
    refine tx ?_
    refine bh ?_
    refine tn ?_
    refine Wc.seq ?_
    refine Wc.region rfl ?_
    refine Wl.pure (PR.assB rfl) ?_
    refine Wl.nil ?_
    refine tn ?_
    refine Wc.ret ?_
    refine postL.tmp rfl rfl ?_
    exact RetV.of rfl st.below

set_option maxHeartbeats 400000 in
set_option maxRecDepth 4000 in
theorem c_markUint32S {ba : Nat} {n : Nat} {cp : Nat} {c : Nat → Nat} {sp : List Value} {z : Nat} {w : World} (hz : z + n ≤ 100000000) (hst : St [ba] w w [(ba, arrU .u32 n c ++ sp, 26)]) :
    CE Try.prog 19 [.slice (some ⟨ba, 0, none⟩) (n) (cp), .int .i64 (((z : Nat) : Int))] w (RetX w [ba] (.int .i64 ((((z + n) : Nat) : Int))) [(ba, arrU .u32 n (fun j => z + j) ++ sp, 26)]) := by
  refine CE.enter 20 [(0, .slice (some ⟨ba, 0, none⟩) (n) (cp)), (1, .int .i64 (((z : Nat) : Int)))] en_19 Try.func19 rfl rfl (Nat.le_of_ble_eq_true rfl) rfl ?_
  have st := hst
  refine Wc.seq ?_
  refine Wc.region rfl ?_
  refine Wl.pure (PR.assI rfl) ?_
  refine Wl.nil ?_
  refine tn ?_
  refine Wc.seq ?_
  refine Wc.seq ?_
  refine Wc.region rfl ?_
  refine Wl.pure (PR.assI rfl) ?_
  refine Wl.nil ?_
  refine tn ?_
  refine Wc.block ?_
  refine Wc.loopF (γ := Nat × Nat × (Nat → Nat)) (fun g => [(0, .slice (some ⟨ba, 0, none⟩) (n) (cp)), (1, .int .i64 (((g.2.1 : Nat) : Int))), (4, .int .i64 (0)), (5, .int .i64 (((g.1 : Nat) : Int)))]) (fun g w_ => St [ba] w w_ [(ba, arrU .u32 n g.2.2 ++ sp, 26)] ∧ (g.1 ≤ n) ∧ (g.2.1 = z + g.1) ∧ (∀ u, u < g.1 → g.2.2 u = (fun j => z + j) u)) (fun g => n - g.1) ?_ ?_
  · exact ⟨(0, z, c), (.cons rfl (.cons rfl (.cons rfl (.cons rfl (.nil _))))), st, (by first | omega | (dsimp only; omega)), (by first | omega | (dsimp only; omega)), (fun u hu => by omega)⟩
  clear st
  rintro ⟨i, y, c⟩ w1 ⟨st, hi, hy, hg⟩
  try dsimp only at st hi hy hg ⊢
  refine Wc.seq ?_
  refine Wc.seq ?_
  refine Wc.region rfl ?_
  refine Wl.pure (PR.moveI rfl) ?_
  refine Wl.pure (PR.moveL rfl) ?_
  refine Wl.pure (PR.lenL tS_34 rfl) ?_
  refine Wl.pure (PR.lss (a := ((i : Nat) : Int)) (b := ((n : Nat) : Int)) rfl rfl) ?_
  refine Wl.nil ?_
  refine tn ?_
  refine Wc.condD (p := ((i : Nat) : Int) < ((n : Nat) : Int)) rfl (fun h2 => ?_) (fun h2 => ?_)
  · refine Wc.skip ?_
    refine tn ?_
    refine Wc.seq ?_
    refine Wc.block ?_
    refine Wc.seq ?_
    refine Wc.region rfl ?_
    refine Wl.pure (PR.moveL rfl) ?_
    refine Wl.pure (PR.moveI rfl) ?_
    refine Wl.pure (PR.moveI rfl) ?_
    refine Wl.pure (PR.conv (n := ((y : Nat) : Int)) tI_26 rfl (by simp only [fitI]; omega) Try.underlying3) ?_
    refine Wl.pure (PR.idxAddrS1 (i := i) tS_34 rfl rfl (by omega)) ?_
    refine Wl.store (i := 0) (cs' := arrU .u32 n (upd c (i) (y)) ++ sp) st tA_26 rfl rfl rfl rfl (app_in (lt_of_len (arrU_len _) (by omega))) (app_set (lt_of_len (arrU_len _) (by omega)) (arrU_set0)) ?_
    clear st
    intro w3 st
    replace st : St [ba] w w3 [(ba, arrU .u32 n (upd c (i) (y)) ++ sp, 26)] := st
    refine Wl.nil ?_
    refine tn ?_
    refine Wc.region rfl ?_
    refine Wl.pure (PR.moveI rfl) ?_
    refine Wl.pure (PR.add (a := ((y : Nat) : Int)) (b := 1) rfl rfl (by simp only [fitI]; omega)) ?_
    refine Wl.pure (PR.assI rfl) ?_
    refine Wl.nil ?_
    refine bn ?_
    refine tn ?_
    refine Wc.region rfl ?_
    refine Wl.pure (PR.moveI rfl) ?_
    refine Wl.pure (PR.add (a := ((i : Nat) : Int)) (b := 1) rfl rfl (by simp only [fitI]; omega)) ?_
    refine Wl.pure (PR.assI rfl) ?_
    refine Wl.nil ?_
    refine tn ?_
    exact ⟨(i + 1, (y + 1), upd c (i) (y)), (.cons rfl (.cons rfl (.cons rfl (.cons rfl (.nil _))))), ⟨st, (by first | omega | (dsimp only; omega)), (by first | omega | (dsimp only; omega)), (upd_snoc hg (by subst hy; rfl))⟩, (by first | omega | (dsimp only; omega))⟩
  · refine Wc.exit ?_
    refine tx ?_
    refine tx ?_
    refine bh ?_
    refine tn ?_
    refine Wc.seq ?_
    refine Wc.region rfl ?_
    refine Wl.pure (PR.moveI rfl) ?_
    refine Wl.pure (PR.assI rfl) ?_
    refine Wl.nil ?_
    refine tn ?_
    refine Wc.ret ?_
    refine postL.tmp rfl rfl ?_
    obtain rfl : n = i := by omega
    subst hy
    rw [arrU_congr (d := (fun j => z + j)) (fun u hu => hg u hu)] at st
    exact st.retX (by
    refine congrArg (Value.int .i64) ?_
    first | rfl | omega) rfl

set_option maxHeartbeats 400000 in
set_option maxRecDepth 4000 in
theorem c_markUint32S0 {A : Option Addr} {cp : Nat} {z : Nat} {w : World} :
    CE Try.prog 19 [.slice (A) (0) (cp), .int .i64 (((z : Nat) : Int))] w (RetV w (.int .i64 (((z : Nat) : Int)))) := by
  refine CE.enter 20 [(0, .slice (A) (0) (cp)), (1, .int .i64 (((z : Nat) : Int)))] en_19 Try.func19 rfl rfl (Nat.le_of_ble_eq_true rfl) rfl ?_
  have st := St.start w
  refine Wc.seq ?_
  refine Wc.region rfl ?_
  refine Wl.pure (PR.assI rfl) ?_
  refine Wl.nil ?_
  refine tn ?_
  refine Wc.seq ?_
  refine Wc.seq ?_
  refine Wc.region rfl ?_
  refine Wl.pure (PR.assI rfl) ?_
  refine Wl.nil ?_
  refine tn ?_
  refine Wc.block ?_
  refine Wc.loopF (γ := Unit) (fun g => [(0, .slice (A) (0) (cp)), (1, .int .i64 (((z : Nat) : Int))), (4, .int .i64 (0)), (5, .int .i64 (0))]) (fun g w_ => St [] w w_ []) (fun g => 0) ?_ ?_
  · exact ⟨(), (.cons rfl (.cons rfl (.cons rfl (.cons rfl (.nil _))))), st⟩
  clear st
  rintro u_ w1 st
  try dsimp only at st ⊢
  refine Wc.seq ?_
  refine Wc.seq ?_
  refine Wc.region rfl ?_
  refine Wl.pure (PR.moveI rfl) ?_
  refine Wl.pure (PR.moveL rfl) ?_
  refine Wl.pure (PR.lenL tS_34 rfl) ?_
  refine Wl.pure (PR.lss (a := 0) (b := 0) rfl rfl) ?_
  refine Wl.nil ?_
  refine tn ?_
  refine Wc.condD (p := 0 < 0) rfl (fun h2 => ?_) (fun h2 => ?_)
  · refine Wc.skip ?_
    refine tn ?_
    refine Wc.seq ?_
    refine Wc.block ?_
    refine Wc.seq ?_
    exfalso
    omega
  · refine Wc.exit ?_
    refine tx ?_
    refine tx ?_
    refine bh ?_
    refine tn ?_
    refine Wc.seq ?_
    refine Wc.region rfl ?_
    refine Wl.pure (PR.moveI rfl) ?_
    refine Wl.pure (PR.assI rfl) ?_
    refine Wl.nil ?_
    refine tn ?_
    refine Wc.ret ?_
    refine postL.tmp rfl rfl ?_
    exact RetV.of rfl st.below

set_option maxHeartbeats 400000 in
set_option maxRecDepth 4000 in
theorem c_laws_heldUint32S {A : Option Addr} {n : Nat} {cp : Nat} {c : Nat → Nat} {z : Nat} {w : World} (hR : RdS w A n (arrU .u32 n c)) (hz : z + n ≤ 100000000) (hck : ∀ u, u < n → c u = (fun j => z + j) u) :
    CE Try.prog 20 [.slice (A) (n) (cp), .int .i64 (((z : Nat) : Int))] w (RetV w (.int .i64 ((((z + n) : Nat) : Int)))) := by
  refine CE.enter 22 [(0, .slice (A) (n) (cp)), (1, .int .i64 (((z : Nat) : Int)))] en_20 Try.func20 rfl rfl (Nat.le_of_ble_eq_true rfl) rfl ?_
  have st := St.start w
  refine Wc.seq ?_
  refine Wc.region rfl ?_
  refine Wl.pure (PR.assI rfl) ?_
  refine Wl.nil ?_
  refine tn ?_
  refine Wc.seq ?_
  refine Wc.seq ?_
  refine Wc.region rfl ?_
  refine Wl.pure (PR.assI rfl) ?_
  refine Wl.nil ?_
  refine tn ?_
  refine Wc.block ?_
  refine Wc.loopF (γ := Nat × Nat) (fun g => [(0, .slice (A) (n) (cp)), (1, .int .i64 (((g.2 : Nat) : Int))), (5, .int .i64 (((g.1 : Nat) : Int)))]) (fun g w_ => St [] w w_ [] ∧ (g.1 ≤ n) ∧ (g.2 = z + g.1)) (fun g => n - g.1) ?_ ?_
  · exact ⟨(0, z), (.cons rfl (.cons rfl (.cons rfl (.nil _)))), st, (by first | omega | (dsimp only; omega)), (by first | omega | (dsimp only; omega))⟩
  clear st
  rintro ⟨i, y⟩ w1 ⟨st, hi, hy⟩
  try dsimp only at st hi hy ⊢
  refine Wc.seq ?_
  refine Wc.seq ?_
  refine Wc.region rfl ?_
  refine Wl.pure (PR.moveI rfl) ?_
  refine Wl.pure (PR.moveL rfl) ?_
  refine Wl.pure (PR.lenL tS_34 rfl) ?_
  refine Wl.pure (PR.lss (a := ((i : Nat) : Int)) (b := ((n : Nat) : Int)) rfl rfl) ?_
  refine Wl.nil ?_
  refine tn ?_
  refine Wc.condD (p := ((i : Nat) : Int) < ((n : Nat) : Int)) rfl (fun h2 => ?_) (fun h2 => ?_)
  · refine Wc.skip ?_
    refine tn ?_
    refine Wc.seq ?_
    refine Wc.block ?_
    refine Wc.seq ?_
    refine Wc.seq ?_
    have hck9 : c i = (fun j => z + j) i := hck i (by omega)
    simp only at hck9
    refine Wc.region rfl ?_
    refine Wl.pure (PR.moveL rfl) ?_
    refine Wl.pure (PR.moveI rfl) ?_
    obtain ⟨bs3, os4, rfl, hs5⟩ := hR (by omega)
    refine Wl.pure (PR.idxAddrS1 (i := i) tS_34 rfl rfl (by omega)) ?_
    refine Wl.loadC tA_26 rfl ((hs5.st st).at_ (arrU_get0 (by omega)) (Nat.add_assoc _ _ _).symm) ?_
    refine Wl.pure (PR.moveI rfl) ?_
    refine Wl.pure (PR.conv (n := ((y : Nat) : Int)) tI_26 rfl (by simp only [fitI]; omega) Try.underlying3) ?_
    refine Wl.pure (PR.neq (a := ((c (i) : Nat) : Int)) (b := ((y : Nat) : Int)) rfl rfl) ?_
    refine Wl.nil ?_
    refine tn ?_
    refine Wc.condN (p := ((c (i) : Nat) : Int) = ((y : Nat) : Int)) rfl (fun h6 => ?_) (fun h6 => ?_)
    · refine Wc.seq ?_
      refine Wc.region rfl ?_
      refine Wl.pure (PR.assI rfl) ?_
      refine Wl.nil ?_
      refine tn ?_
      refine Wc.ret ?_
      refine tr ?_
      refine br ?_
      refine tr ?_
      refine tr ?_
      refine br ?_
      refine tr ?_
      refine postL.tmp rfl rfl ?_
      refine RetV.of ?_ st.below
      refine congrArg (Value.int .i64) ?_
      first | rfl | omega
    · refine Wc.skip ?_
      refine tn ?_
      refine Wc.region rfl ?_
      refine Wl.pure (PR.moveI rfl) ?_
      refine Wl.pure (PR.add (a := ((y : Nat) : Int)) (b := 1) rfl rfl (by simp only [fitI]; omega)) ?_
      refine Wl.pure (PR.assI rfl) ?_
      refine Wl.nil ?_
      refine bn ?_
      refine tn ?_
      refine Wc.region rfl ?_
      refine Wl.pure (PR.moveI rfl) ?_
      refine Wl.pure (PR.add (a := ((i : Nat) : Int)) (b := 1) rfl rfl (by simp only [fitI]; omega)) ?_
      refine Wl.pure (PR.assI rfl) ?_
      refine Wl.nil ?_
      refine tn ?_
      exact ⟨(i + 1, (y + 1)), (.cons rfl (.cons rfl (.cons rfl (.nil _)))), ⟨st, (by first | omega | (dsimp only; omega)), (by first | omega | (dsimp only; omega))⟩, (by first | omega | (dsimp only; omega))⟩
  · refine Wc.exit ?_
    refine tx ?_
    refine tx ?_
    refine bh ?_
    refine tn ?_
    refine Wc.seq ?_
    refine Wc.region rfl ?_
    refine Wl.pure (PR.moveI rfl) ?_
    refine Wl.pure (PR.assI rfl) ?_
    refine Wl.nil ?_
    refine tn ?_
    refine Wc.ret ?_
    refine postL.tmp rfl rfl ?_
    refine RetV.of ?_ st.below
    refine congrArg (Value.int .i64) ?_
    first | rfl | omega

set_option maxHeartbeats 400000 in
set_option maxRecDepth 4000 in
theorem c_laws_toUint32S {A : Option Addr} {n : Nat} {cp : Nat} {c : Nat → Nat} {w : World} (hR : RdS w A n (arrU .u32 n c)) (hn : n ≤ 1048576) (hc : ∀ k, c k < 4294967296) :
    CE Try.prog 22 [.slice (A) (n) (cp)] w (RetS w 26 (n) (n) (arrU .u32 n c)) := by
  refine CE.enter 22 [(0, .slice (A) (n) (cp))] en_22 Try.func22 rfl rfl (Nat.le_of_ble_eq_true rfl) rfl ?_
  have st := St.start w
  refine Wc.seq ?_
  refine Wc.region rfl ?_
  refine Wl.pure (PR.assL rfl) ?_
  refine Wl.nil ?_
  refine tn ?_
  refine Wc.seq ?_
  refine Wc.region rfl ?_
  refine Wl.pure (PR.moveL rfl) ?_
  refine Wl.pure (PR.lenL tS_34 rfl) ?_
  refine Wl.makeSlice (n := n) st tS_34 tZ_26 rfl rfl rfl (by omega) (by omega) ?_
  clear st
  intro b7 w1 st
  rw [made_arrU] at st
  refine Wl.pure (PR.assL rfl) ?_
  refine Wl.nil ?_
  refine tn ?_
  refine Wc.seq ?_
  refine Wc.seq ?_
  refine Wc.region rfl ?_
  refine Wl.pure (PR.assI rfl) ?_
  refine Wl.nil ?_
  refine tn ?_
  refine Wc.block ?_
  refine Wc.loopF (γ := Nat × (Nat → Nat)) (fun g => [(0, .slice (A) (n) (cp)), (2, .slice (none) (0) (0)), (3, .slice (some ⟨b7, 0, none⟩) (n) (n)), (4, .int .i64 (((g.1 : Nat) : Int)))]) (fun g w_ => St [] w w_ [(b7, arrU .u32 n g.2, 26)] ∧ (g.1 ≤ n) ∧ (∀ j, j < g.1 → g.2 j = c j)) (fun g => n - g.1) ?_ ?_
  · exact ⟨(0, (fun _ => 0)), (.cons rfl (.cons rfl (.cons rfl (.cons rfl (.nil _))))), st, (by first | omega | (dsimp only; omega)), (fun j hj => by omega)⟩
  clear st
  rintro ⟨k, c1⟩ w2 ⟨st, hk, gx⟩
  try dsimp only at st hk gx ⊢
  refine Wc.seq ?_
  refine Wc.seq ?_
  refine Wc.region rfl ?_
  refine Wl.pure (PR.moveI rfl) ?_
  refine Wl.pure (PR.moveL rfl) ?_
  refine Wl.pure (PR.lenL tS_34 rfl) ?_
  refine Wl.pure (PR.lss (a := ((k : Nat) : Int)) (b := ((n : Nat) : Int)) rfl rfl) ?_
  refine Wl.nil ?_
  refine tn ?_
  refine Wc.condD (p := ((k : Nat) : Int) < ((n : Nat) : Int)) rfl (fun h3 => ?_) (fun h3 => ?_)
  · refine Wc.skip ?_
    refine tn ?_
    refine Wc.seq ?_
    refine Wc.block ?_
    refine Wc.region rfl ?_
    refine Wl.pure (PR.moveL rfl) ?_
    refine Wl.pure (PR.moveI rfl) ?_
    refine Wl.pure (PR.moveL rfl) ?_
    refine Wl.pure (PR.moveI rfl) ?_
    obtain ⟨bs4, os5, rfl, hs6⟩ := hR (by omega)
    refine Wl.pure (PR.idxAddrS1 (i := k) tS_34 rfl rfl (by omega)) ?_
    refine Wl.loadC tA_26 rfl ((hs6.st st).at_ (arrU_get0 (by omega)) (Nat.add_assoc _ _ _).symm) ?_
    refine Wl.pure (PR.idxAddrS1 (i := k) tS_34 rfl rfl (by omega)) ?_
    refine Wl.store (i := 0) (cs' := arrU .u32 n (upd c1 (k) (c (k)))) st tA_26 rfl rfl rfl rfl (lt_of_len (arrU_len _) (by omega)) (arrU_set0) ?_
    clear st
    intro w7 st
    replace st : St [] w w7 [(b7, arrU .u32 n (upd c1 (k) (c (k))), 26)] := st
    refine Wl.nil ?_
    refine bn ?_
    refine tn ?_
    refine Wc.region rfl ?_
    refine Wl.pure (PR.moveI rfl) ?_
    refine Wl.pure (PR.add (a := ((k : Nat) : Int)) (b := 1) rfl rfl (by simp only [fitI]; omega)) ?_
    refine Wl.pure (PR.assI rfl) ?_
    refine Wl.nil ?_
    refine tn ?_
    exact ⟨(k + 1, upd c1 (k) (c (k))), (.cons rfl (.cons rfl (.cons rfl (.cons rfl (.nil _))))), ⟨st, (by first | omega | (dsimp only; omega)), (upd_snoc gx rfl)⟩, (by first | omega | (dsimp only; omega))⟩
  · refine Wc.exit ?_
    refine tx ?_
    refine tx ?_
    refine bh ?_
    refine tn ?_
    refine Wc.seq ?_
    refine Wc.region rfl ?_
    refine Wl.pure (PR.moveL rfl) ?_
    refine Wl.pure (PR.assL rfl) ?_
    refine Wl.nil ?_
    refine tn ?_
    refine Wc.ret ?_
    refine postL.tmp rfl rfl ?_
    exact st.retS (i := 0) rfl (arrU_congr (fun j hj => gx j (by omega)))

set_option maxHeartbeats 400000 in
set_option maxRecDepth 4000 in
theorem c_laws_eqInt64S {A : Option Addr} {n : Nat} {cp : Nat} {c : Nat → Nat} {B : Option Addr} {cq : Nat} {w : World} (hR : RdS w A n (arrU .i64 n c)) (hQ : RdS w B n (arrU .i64 n c)) (hn : n ≤ 1048576) :
    CE Try.prog 24 [.slice (A) (n) (cp), .slice (B) (n) (cq)] w (RetV w (.bool true)) := by
  refine CE.enter 26 [(0, .slice (A) (n) (cp)), (1, .slice (B) (n) (cq))] en_24 Try.func24 rfl rfl (Nat.le_of_ble_eq_true rfl) rfl ?_
  have st := St.start w
  refine Wc.seq ?_
  refine Wc.region rfl ?_
  refine Wl.pure (PR.assB rfl) ?_
  refine Wl.nil ?_
  refine tn ?_
  refine Wc.seq ?_
  refine Wc.seq ?_
  refine Wc.region rfl ?_
  refine Wl.pure (PR.moveL rfl) ?_
  refine Wl.pure (PR.lenL tS_44 rfl) ?_
  refine Wl.pure (PR.moveL rfl) ?_
  refine Wl.pure (PR.lenL tS_44 rfl) ?_
  refine Wl.pure (PR.neqS (a := ((n : Nat) : Int)) rfl rfl) ?_
  refine Wl.nil ?_
  refine tn ?_
  refine Wc.condF rfl ?_
  refine Wc.skip ?_
  refine tn ?_
  refine Wc.seq ?_
  refine Wc.seq ?_
  refine Wc.region rfl ?_
  refine Wl.pure (PR.assI rfl) ?_
  refine Wl.nil ?_
  refine tn ?_
  refine Wc.block ?_
  refine Wc.loopF (γ := Nat) (fun g => [(0, .slice (A) (n) (cp)), (1, .slice (B) (n) (cq)), (5, .int .i64 (((g : Nat) : Int)))]) (fun g w_ => St [] w w_ [] ∧ (g ≤ n)) (fun g => n - g) ?_ ?_
  · exact ⟨0, (.cons rfl (.cons rfl (.cons rfl (.nil _)))), st, (by first | omega | (dsimp only; omega))⟩
  clear st
  rintro k w1 ⟨st, hk⟩
  try dsimp only at st hk ⊢
  refine Wc.seq ?_
  refine Wc.seq ?_
  refine Wc.region rfl ?_
  refine Wl.pure (PR.moveI rfl) ?_
  refine Wl.pure (PR.moveL rfl) ?_
  refine Wl.pure (PR.lenL tS_44 rfl) ?_
  refine Wl.pure (PR.lss (a := ((k : Nat) : Int)) (b := ((n : Nat) : Int)) rfl rfl) ?_
  refine Wl.nil ?_
  refine tn ?_
  refine Wc.condD (p := ((k : Nat) : Int) < ((n : Nat) : Int)) rfl (fun h2 => ?_) (fun h2 => ?_)
  · refine Wc.skip ?_
    refine tn ?_
    refine Wc.seq ?_
    refine Wc.block ?_
    refine Wc.seq ?_
    refine Wc.quiet hmix (by kernel_rfl) rfl ?_
    refine Wq.pure (PR.moveL rfl) ?_
    refine Wq.pure (PR.moveI rfl) ?_
    obtain ⟨bs3, os4, rfl, hs5⟩ := hR (by omega)
    refine Wq.pure (PR.idxAddrS1 (i := k) tS_44 rfl rfl (by omega)) ?_
    refine Wq.loadC tA_2 rfl ((hs5.st st).at_ (arrU_get0 (by omega)) (Nat.add_assoc _ _ _).symm) ?_
    refine Wq.pure (PR.moveL rfl) ?_
    refine Wq.pure (PR.moveI rfl) ?_
    obtain ⟨bs6, os7, rfl, hs8⟩ := hQ (by omega)
    refine Wq.pure (PR.idxAddrS1 (i := k) tS_44 rfl rfl (by omega)) ?_
    refine Wq.loadC tA_2 rfl ((hs8.st st).at_ (arrU_get0 (by omega)) (Nat.add_assoc _ _ _).symm) ?_
    refine Wq.pure (PR.neqS (a := ((c (k) : Nat) : Int)) rfl rfl) ?_
    refine Wq.nil (fun w9 hbel => ?_)
    replace st := st.call hbel
    clear hbel
    refine tn ?_
    refine Wc.condF rfl ?_
    refine Wc.skip ?_
    refine bn ?_
    refine tn ?_
    refine Wc.region rfl ?_
    refine Wl.pure (PR.moveI rfl) ?_
    refine Wl.pure (PR.add (a := ((k : Nat) : Int)) (b := 1) rfl rfl (by simp only [fitI]; omega)) ?_
    refine Wl.pure (PR.assI rfl) ?_
    refine Wl.nil ?_
    refine tn ?_
    exact ⟨k + 1, (.cons rfl (.cons rfl (.cons rfl (.nil _)))), ⟨st, (by first | omega | (dsimp only; omega))⟩, (by first | omega | (dsimp only; omega))⟩
  · refine Wc.exit ?_
    refine tx ?_
    refine tx ?_
    refine bh ?_
    refine tn ?_
    refine Wc.seq ?_
    refine Wc.region rfl ?_
    refine Wl.pure (PR.assB rfl) ?_
    refine Wl.nil ?_
    refine tn ?_
    refine Wc.ret ?_
    refine postL.tmp rfl rfl ?_
    exact RetV.of rfl st.below

set_option maxHeartbeats 400000 in
set_option maxRecDepth 4000 in
theorem c_markInt64S {ba : Nat} {n : Nat} {cp : Nat} {c : Nat → Nat} {sp : List Value} {z : Nat} {w : World} (hz : z + n ≤ 100000000) (hst : St [ba] w w [(ba, arrU .i64 n c ++ sp, 2)]) :
    CE Try.prog 25 [.slice (some ⟨ba, 0, none⟩) (n) (cp), .int .i64 (((z : Nat) : Int))] w (RetX w [ba] (.int .i64 ((((z + n) : Nat) : Int))) [(ba, arrU .i64 n (fun j => z + j) ++ sp, 2)]) := by
  refine CE.enter 19 [(0, .slice (some ⟨ba, 0, none⟩) (n) (cp)), (1, .int .i64 (((z : Nat) : Int)))] en_25 Try.func25 rfl rfl (Nat.le_of_ble_eq_true rfl) rfl ?_
  have st := hst
  refine Wc.seq ?_
  refine Wc.region rfl ?_
  refine Wl.pure (PR.assI rfl) ?_
  refine Wl.nil ?_
  refine tn ?_
  refine Wc.seq ?_
  refine Wc.seq ?_
  refine Wc.region rfl ?_
  refine Wl.pure (PR.assI rfl) ?_
  refine Wl.nil ?_
  refine tn ?_
  refine Wc.block ?_
  refine Wc.loopF (γ := Nat × Nat × (Nat → Nat)) (fun g => [(0, .slice (some ⟨ba, 0, none⟩) (n) (cp)), (1, .int .i64 (((g.2.1 : Nat) : Int))), (4, .int .i64 (0)), (5, .int .i64 (((g.1 : Nat) : Int)))]) (fun g w_ => St [ba] w w_ [(ba, arrU .i64 n g.2.2 ++ sp, 2)] ∧ (g.1 ≤ n) ∧ (g.2.1 = z + g.1) ∧ (∀ u, u < g.1 → g.2.2 u = (fun j => z + j) u)) (fun g => n - g.1) ?_ ?_
  · exact ⟨(0, z, c), (.cons rfl (.cons rfl (.cons rfl (.cons rfl (.nil _))))), st, (by first | omega | (dsimp only; omega)), (by first | omega | (dsimp only; omega)), (fun u hu => by omega)⟩
  clear st
  rintro ⟨i, y, c⟩ w1 ⟨st, hi, hy, hg⟩
  try dsimp only at st hi hy hg ⊢
  refine Wc.seq ?_
  refine Wc.seq ?_
  refine Wc.region rfl ?_
  refine Wl.pure (PR.moveI rfl) ?_
  refine Wl.pure (PR.moveL rfl) ?_
  refine Wl.pure (PR.lenL tS_44 rfl) ?_
  refine Wl.pure (PR.lss (a := ((i : Nat) : Int)) (b := ((n : Nat) : Int)) rfl rfl) ?_
  refine Wl.nil ?_
  refine tn ?_
  refine Wc.condD (p := ((i : Nat) : Int) < ((n : Nat) : Int)) rfl (fun h2 => ?_) (fun h2 => ?_)
  · refine Wc.skip ?_
    refine tn ?_
    refine Wc.seq ?_
    refine Wc.block ?_
    refine Wc.seq ?_
    refine Wc.region rfl ?_
    refine Wl.pure (PR.moveL rfl) ?_
    refine Wl.pure (PR.moveI rfl) ?_
    refine Wl.pure (PR.moveI rfl) ?_
    refine Wl.pure (PR.idxAddrS1 (i := i) tS_44 rfl rfl (by omega)) ?_
    refine Wl.store (i := 0) (cs' := arrU .i64 n (upd c (i) (y)) ++ sp) st tA_2 rfl rfl rfl rfl (app_in (lt_of_len (arrU_len _) (by omega))) (app_set (lt_of_len (arrU_len _) (by omega)) (arrU_set0)) ?_
    clear st
    intro w3 st
    replace st : St [ba] w w3 [(ba, arrU .i64 n (upd c (i) (y)) ++ sp, 2)] := st
    refine Wl.nil ?_
    refine tn ?_
    refine Wc.region rfl ?_
    refine Wl.pure (PR.moveI rfl) ?_
    refine Wl.pure (PR.add (a := ((y : Nat) : Int)) (b := 1) rfl rfl (by simp only [fitI]; omega)) ?_
    refine Wl.pure (PR.assI rfl) ?_
    refine Wl.nil ?_
    refine bn ?_
    refine tn ?_
    refine Wc.region rfl ?_
    refine Wl.pure (PR.moveI rfl) ?_
    refine Wl.pure (PR.add (a := ((i : Nat) : Int)) (b := 1) rfl rfl (by simp only [fitI]; omega)) ?_
    refine Wl.pure (PR.assI rfl) ?_
    refine Wl.nil ?_
    refine tn ?_
    exact ⟨(i + 1, (y + 1), upd c (i) (y)), (.cons rfl (.cons rfl (.cons rfl (.cons rfl (.nil _))))), ⟨st, (by first | omega | (dsimp only; omega)), (by first | omega | (dsimp only; omega)), (upd_snoc hg (by subst hy; rfl))⟩, (by first | omega | (dsimp only; omega))⟩
  · refine Wc.exit ?_
    refine tx ?_
    refine tx ?_
    refine bh ?_
    refine tn ?_
    refine Wc.seq ?_
    refine Wc.region rfl ?_
    refine Wl.pure (PR.moveI rfl) ?_
    refine Wl.pure (PR.assI rfl) ?_
    refine Wl.nil ?_
    refine tn ?_
    refine Wc.ret ?_
    refine postL.tmp rfl rfl ?_
    obtain rfl : n = i := by omega
    subst hy
    rw [arrU_congr (d := (fun j => z + j)) (fun u hu => hg u hu)] at st
    exact st.retX (by
    refine congrArg (Value.int .i64) ?_
    first | rfl | omega) rfl

set_option maxHeartbeats 400000 in
set_option maxRecDepth 4000 in
theorem c_markInt64S0 {A : Option Addr} {cp : Nat} {z : Nat} {w : World} :
    CE Try.prog 25 [.slice (A) (0) (cp), .int .i64 (((z : Nat) : Int))] w (RetV w (.int .i64 (((z : Nat) : Int)))) := by
  refine CE.enter 19 [(0, .slice (A) (0) (cp)), (1, .int .i64 (((z : Nat) : Int)))] en_25 Try.func25 rfl rfl (Nat.le_of_ble_eq_true rfl) rfl ?_
  have st := St.start w
  refine Wc.seq ?_
  refine Wc.region rfl ?_
  refine Wl.pure (PR.assI rfl) ?_
  refine Wl.nil ?_
  refine tn ?_
  refine Wc.seq ?_
  refine Wc.seq ?_
  refine Wc.region rfl ?_
  refine Wl.pure (PR.assI rfl) ?_
  refine Wl.nil ?_
  refine tn ?_
  refine Wc.block ?_
  refine Wc.loopF (γ := Unit) (fun g => [(0, .slice (A) (0) (cp)), (1, .int .i64 (((z : Nat) : Int))), (4, .int .i64 (0)), (5, .int .i64 (0))]) (fun g w_ => St [] w w_ []) (fun g => 0) ?_ ?_
  · exact ⟨(), (.cons rfl (.cons rfl (.cons rfl (.cons rfl (.nil _))))), st⟩
  clear st
  rintro u_ w1 st
  try dsimp only at st ⊢
  refine Wc.seq ?_
  refine Wc.seq ?_
  refine Wc.region rfl ?_
  refine Wl.pure (PR.moveI rfl) ?_
  refine Wl.pure (PR.moveL rfl) ?_
  refine Wl.pure (PR.lenL tS_44 rfl) ?_
  refine Wl.pure (PR.lss (a := 0) (b := 0) rfl rfl) ?_
  refine Wl.nil ?_
  refine tn ?_
  refine Wc.condD (p := 0 < 0) rfl (fun h2 => ?_) (fun h2 => ?_)
  · refine Wc.skip ?_
    refine tn ?_
    refine Wc.seq ?_
    refine Wc.block ?_
    refine Wc.seq ?_
    exfalso
    omega
  · refine Wc.exit ?_
    refine tx ?_
    refine tx ?_
    refine bh ?_
    refine tn ?_
    refine Wc.seq ?_
    refine Wc.region rfl ?_
    refine Wl.pure (PR.moveI rfl) ?_
    refine Wl.pure (PR.assI rfl) ?_
    refine Wl.nil ?_
    refine tn ?_
    refine Wc.ret ?_
    refine postL.tmp rfl rfl ?_
    exact RetV.of rfl st.below

set_option maxHeartbeats 400000 in
set_option maxRecDepth 4000 in
theorem c_laws_heldInt64S {A : Option Addr} {n : Nat} {cp : Nat} {c : Nat → Nat} {z : Nat} {w : World} (hR : RdS w A n (arrU .i64 n c)) (hz : z + n ≤ 100000000) (hck : ∀ u, u < n → c u = (fun j => z + j) u) :
    CE Try.prog 26 [.slice (A) (n) (cp), .int .i64 (((z : Nat) : Int))] w (RetV w (.int .i64 ((((z + n) : Nat) : Int)))) := by
  refine CE.enter 21 [(0, .slice (A) (n) (cp)), (1, .int .i64 (((z : Nat) : Int)))] en_26 Try.func26 rfl rfl (Nat.le_of_ble_eq_true rfl) rfl ?_
  have st := St.start w
  refine Wc.seq ?_
  refine Wc.region rfl ?_
  refine Wl.pure (PR.assI rfl) ?_
  refine Wl.nil ?_
  refine tn ?_
  refine Wc.seq ?_
  refine Wc.seq ?_
  refine Wc.region rfl ?_
  refine Wl.pure (PR.assI rfl) ?_
  refine Wl.nil ?_
  refine tn ?_
  refine Wc.block ?_
  refine Wc.loopF (γ := Nat × Nat) (fun g => [(0, .slice (A) (n) (cp)), (1, .int .i64 (((g.2 : Nat) : Int))), (5, .int .i64 (((g.1 : Nat) : Int)))]) (fun g w_ => St [] w w_ [] ∧ (g.1 ≤ n) ∧ (g.2 = z + g.1)) (fun g => n - g.1) ?_ ?_
  · exact ⟨(0, z), (.cons rfl (.cons rfl (.cons rfl (.nil _)))), st, (by first | omega | (dsimp only; omega)), (by first | omega | (dsimp only; omega))⟩
  clear st
  rintro ⟨i, y⟩ w1 ⟨st, hi, hy⟩
  try dsimp only at st hi hy ⊢
  refine Wc.seq ?_
  refine Wc.seq ?_
  refine Wc.region rfl ?_
  refine Wl.pure (PR.moveI rfl) ?_
  refine Wl.pure (PR.moveL rfl) ?_
  refine Wl.pure (PR.lenL tS_44 rfl) ?_
  refine Wl.pure (PR.lss (a := ((i : Nat) : Int)) (b := ((n : Nat) : Int)) rfl rfl) ?_
  refine Wl.nil ?_
  refine tn ?_
  refine Wc.condD (p := ((i : Nat) : Int) < ((n : Nat) : Int)) rfl (fun h2 => ?_) (fun h2 => ?_)
  · refine Wc.skip ?_
    refine tn ?_
    refine Wc.seq ?_
    refine Wc.block ?_
    refine Wc.seq ?_
    refine Wc.seq ?_
    have hck9 : c i = (fun j => z + j) i := hck i (by omega)
    simp only at hck9
    refine Wc.region rfl ?_
    refine Wl.pure (PR.moveL rfl) ?_
    refine Wl.pure (PR.moveI rfl) ?_
    obtain ⟨bs3, os4, rfl, hs5⟩ := hR (by omega)
    refine Wl.pure (PR.idxAddrS1 (i := i) tS_44 rfl rfl (by omega)) ?_
    refine Wl.loadC tA_2 rfl ((hs5.st st).at_ (arrU_get0 (by omega)) (Nat.add_assoc _ _ _).symm) ?_
    refine Wl.pure (PR.moveI rfl) ?_
    refine Wl.pure (PR.neq (a := ((c (i) : Nat) : Int)) (b := ((y : Nat) : Int)) rfl rfl) ?_
    refine Wl.nil ?_
    refine tn ?_
    refine Wc.condN (p := ((c (i) : Nat) : Int) = ((y : Nat) : Int)) rfl (fun h6 => ?_) (fun h6 => ?_)
    · refine Wc.seq ?_
      refine Wc.region rfl ?_
      refine Wl.pure (PR.assI rfl) ?_
      refine Wl.nil ?_
      refine tn ?_
      refine Wc.ret ?_
      refine tr ?_
      refine br ?_
      refine tr ?_
      refine tr ?_
      refine br ?_
      refine tr ?_
      refine postL.tmp rfl rfl ?_
      refine RetV.of ?_ st.below
      refine congrArg (Value.int .i64) ?_
      first | rfl | omega
    · refine Wc.skip ?_
      refine tn ?_
      refine Wc.region rfl ?_
      refine Wl.pure (PR.moveI rfl) ?_
      refine Wl.pure (PR.add (a := ((y : Nat) : Int)) (b := 1) rfl rfl (by simp only [fitI]; omega)) ?_
      refine Wl.pure (PR.assI rfl) ?_
      refine Wl.nil ?_
      refine bn ?_
      refine tn ?_
      refine Wc.region rfl ?_
      refine Wl.pure (PR.moveI rfl) ?_
      refine Wl.pure (PR.add (a := ((i : Nat) : Int)) (b := 1) rfl rfl (by simp only [fitI]; omega)) ?_
      refine Wl.pure (PR.assI rfl) ?_
      refine Wl.nil ?_
      refine tn ?_
      exact ⟨(i + 1, (y + 1)), (.cons rfl (.cons rfl (.cons rfl (.nil _)))), ⟨st, (by first | omega | (dsimp only; omega)), (by first | omega | (dsimp only; omega))⟩, (by first | omega | (dsimp only; omega))⟩
  · refine Wc.exit ?_
    refine tx ?_
    refine tx ?_
    refine bh ?_
    refine tn ?_
    refine Wc.seq ?_
    refine Wc.region rfl ?_
    refine Wl.pure (PR.moveI rfl) ?_
    refine Wl.pure (PR.assI rfl) ?_
    refine Wl.nil ?_
    refine tn ?_
    refine Wc.ret ?_
    refine postL.tmp rfl rfl ?_
    refine RetV.of ?_ st.below
    refine congrArg (Value.int .i64) ?_
    first | rfl | omega

end Go.Proofs.Ytagghfllgafmgaa
