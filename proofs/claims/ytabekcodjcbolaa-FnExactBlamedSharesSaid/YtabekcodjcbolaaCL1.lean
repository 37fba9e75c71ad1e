/-
  Contracts of functions, printed by a program of ours.
-/
import Derived.Test.YtabekcodjcbolaaCL0
namespace Go.Proofs.Ytabekcodjcbolaa
open Go.RowKit
set_option linter.unusedVariables false
set_option linter.unusedSimpArgs false

set_option maxHeartbeats 400000 in
set_option maxRecDepth 4000 in
theorem c_laws_szLayerS {A : Option Addr} {n : Nat} {cp : Nat} {p : Nat → Int} {c : Nat → Nat → Nat} {z : Int} {w : World} (hn : n ≤ 9223372036854775807) (hz : 0 ≤ z ∧ z ≤ 1048576) :
    CE Try.prog 8 [.slice (A) (n) (cp), .int .i64 (z)] w (RetV w (.int .i64 ((szL n z)))) := by
  refine CE.enter 12 [(0, .slice (A) (n) (cp)), (1, .int .i64 (z))] en_8 Try.func8 rfl rfl (Nat.le_of_ble_eq_true rfl) rfl ?_
  have st := St.start w
  refine Wc.seq ?_
  refine Wc.region rfl ?_
  refine Wl.pure (PR.assI rfl) ?_
  refine Wl.nil ?_
  refine tn ?_
  refine Wc.seq ?_
  refine Wc.region rfl ?_
  refine Wl.pure (PR.moveI rfl) ?_
  refine Wl.pure (PR.moveL rfl) ?_
  refine Wl.pure (PR.lenL tS_27 rfl) ?_
  refine Wl.pure (PR.sub (a := z) (b := ((n : Nat) : Int)) rfl rfl (by simp only [fitI]; omega)) ?_
  refine Wl.pure (PR.assI rfl) ?_
  refine Wl.nil ?_
  refine tn ?_
  refine Wc.seq ?_
  refine Wc.seq ?_
  refine Wc.region rfl ?_
  refine Wl.pure (PR.moveI rfl) ?_
  refine Wl.pure (PR.lss (a := (z - ((n : Nat) : Int))) (b := 0) rfl rfl) ?_
  refine Wl.nil ?_
  refine tn ?_
  refine Wc.condD (p := (z - ((n : Nat) : Int)) < 0) rfl (fun h1 => ?_) (fun h1 => ?_)
  · refine Wc.seq ?_
    refine Wc.region rfl ?_
    refine Wl.pure (PR.assI rfl) ?_
    refine Wl.nil ?_
    refine tn ?_
    refine Wc.ret ?_
    refine tr ?_
    refine postL.tmp rfl rfl ?_
    refine RetV.of ?_ st.below
    refine congrArg (Value.int .i64) ?_
    unfold szL; split <;> omega
  · refine Wc.skip ?_
    refine tn ?_
    refine Wc.seq ?_
    refine Wc.region rfl ?_
    refine Wl.pure (PR.moveI rfl) ?_
    refine Wl.pure (PR.assI rfl) ?_
    refine Wl.nil ?_
    refine tn ?_
    refine Wc.ret ?_
    refine postL.tmp rfl rfl ?_
    refine RetV.of ?_ st.below
    refine congrArg (Value.int .i64) ?_
    unfold szL; split <;> omega

set_option maxHeartbeats 400000 in
set_option maxRecDepth 4000 in
theorem c_laws_toLayerS {A : Option Addr} {n : Nat} {cp : Nat} {p : Nat → Int} {c : Nat → Nat → Nat} {w : World} (hR : RdS w A n (layS n p c)) (hc : ∀ i k, c i k < 256) (hn : n ≤ 1048576) :
    CE Try.prog 11 [.slice (A) (n) (cp)] w (RetS w 49 (n) (n) (layS n p c)) := by
  refine CE.enter 23 [(0, .slice (A) (n) (cp))] en_11 Try.func11 rfl rfl (Nat.le_of_ble_eq_true rfl) rfl ?_
  have st := St.start w
  refine Wc.seq ?_
  refine Wc.region rfl ?_
  refine Wl.pure (PR.assL rfl) ?_
  refine Wl.nil ?_
  refine tn ?_
  refine Wc.seq ?_
  refine Wc.region rfl ?_
  refine Wl.pure (PR.moveL rfl) ?_
  refine Wl.pure (PR.lenL tS_27 rfl) ?_
  refine Wl.makeSlice (n := n) st tS_34 tZ_49 rfl rfl rfl (by omega) (by omega) ?_
  clear st
  intro b7 w1 st
  replace st : St [] w w1 [(b7, layS n (fun _ => 0) (fun _ _ => 0), 49)] := st
  refine Wl.pure (PR.assL rfl) ?_
  refine Wl.nil ?_
  refine tn ?_
  refine Wc.seq ?_
  refine Wc.seq ?_
  refine Wc.region rfl ?_
  refine Wl.pure (PR.assI rfl) ?_
  refine Wl.nil ?_
  refine tn ?_
  refine Wc.block ?_
  refine Wc.loopF (γ := Nat × (Nat → Int) × (Nat → Nat → Nat)) (fun g => [(0, .slice (A) (n) (cp)), (2, .slice (none) (0) (0)), (3, .slice (some ⟨b7, 0, none⟩) (n) (n)), (4, .int .i64 (((g.1 : Nat) : Int)))]) (fun g w_ => St [] w w_ [(b7, layS n g.2.1 g.2.2, 49)] ∧ (g.1 ≤ n) ∧ (∀ j, j < g.1 → g.2.1 j = p j) ∧ (∀ j, j < g.1 → g.2.2 j = c j)) (fun g => n - g.1) ?_ ?_
  · exact ⟨(0, (fun _ => 0), (fun _ _ => 0)), (.cons rfl (.cons rfl (.cons rfl (.cons rfl (.nil _))))), st, (by first | omega | (dsimp only; omega)), (fun j hj => by omega), (fun j hj => by omega)⟩
  clear st
  rintro ⟨k, p1, c1⟩ w2 ⟨st, hk, gx, gy⟩
  try dsimp only at st hk gx gy ⊢
  refine Wc.seq ?_
  refine Wc.seq ?_
  refine Wc.region rfl ?_
  refine Wl.pure (PR.moveI rfl) ?_
  refine Wl.pure (PR.moveL rfl) ?_
  refine Wl.pure (PR.lenL tS_27 rfl) ?_
  refine Wl.pure (PR.lss (a := ((k : Nat) : Int)) (b := ((n : Nat) : Int)) rfl rfl) ?_
  refine Wl.nil ?_
  refine tn ?_
  refine Wc.condD (p := ((k : Nat) : Int) < ((n : Nat) : Int)) rfl (fun h3 => ?_) (fun h3 => ?_)
  · refine Wc.skip ?_
    refine tn ?_
    refine Wc.seq ?_
    refine Wc.block ?_
    refine Wc.region rfl ?_
    refine Wl.pure (PR.moveL rfl) ?_
    refine Wl.pure (PR.moveI rfl) ?_
    refine Wl.pure (PR.moveL rfl) ?_
    refine Wl.pure (PR.moveI rfl) ?_
    obtain ⟨bs4, os5, rfl, hs6⟩ := hR (by omega)
    refine Wl.pure (PR.idxAddrS (i := k) tS_27 rfl rfl (by omega)) ?_
    refine Wl.loadAC (vs := layV (p k) ((c k))) tA_64 rfl layV_len ((hs6.st st).sub (recV_sub (n := n) (i := k) (layS_row _ _) (by omega)) rfl) ?_
    refine Wl.callV (c_laws_toLayer (p := p k) (c := (c k)) (hc k)) rfl ?_
    intro w7 hbel
    replace st := st.call hbel
    clear hbel
    refine Wl.pure (PR.idxAddrS (i := k) tS_34 rfl rfl (by omega)) ?_
    refine Wl.storeA (i := 0) (cs' := layS n (upd p1 (k) ((p k))) (upd c1 (k) ((c k)))) st tA_49 rfl rfl layV_len layV_one rfl (recV_tot (layS_row _ _) (by omega)) (layS_put (by omega)) ?_
    clear st
    intro w8 st
    replace st : St [] w w8 [(b7, layS n (upd p1 (k) ((p k))) (upd c1 (k) ((c k))), 49)] := st
    refine Wl.nil ?_
    refine bn ?_
    refine tn ?_
    refine Wc.region rfl ?_
    refine Wl.pure (PR.moveI rfl) ?_
    refine Wl.pure (PR.add (a := ((k : Nat) : Int)) (b := 1) rfl rfl (by simp only [fitI]; omega)) ?_
    refine Wl.pure (PR.assI rfl) ?_
    refine Wl.nil ?_
    refine tn ?_
    exact ⟨(k + 1, (upd p1 (k) ((p k))), (upd c1 (k) ((c k)))), (.cons rfl (.cons rfl (.cons rfl (.cons rfl (.nil _))))), ⟨st, (by first | omega | (dsimp only; omega)), (upd_snoc gx rfl), (upd_snoc gy rfl)⟩, (by first | omega | (dsimp only; omega))⟩
  · refine Wc.exit ?_
    refine tx ?_
    refine tx ?_
    refine bh ?_
    refine tn ?_
    refine Wc.seq ?_
    refine Wc.region rfl ?_
    refine Wl.pure (PR.moveL rfl) ?_
    refine Wl.pure (PR.assL rfl) ?_
    refine Wl.nil ?_
    refine tn ?_
    refine Wc.ret ?_
    refine postL.tmp rfl rfl ?_
    exact st.retS (i := 0) rfl (layS_congr (fun j hj => gx j (by omega)) (fun j hj r _ => by rw [gy j (by omega)]))

set_option maxHeartbeats 400000 in
set_option maxRecDepth 4000 in
theorem c_laws_eqByteA64 {c : Nat → Nat} {w : World} :
    CE Try.prog 49 [.agg (arrU .u8 64 c).toArray, .agg (arrU .u8 64 c).toArray] w (RetV w (.bool true)) := by
  refine CE.enter 17 [(0, .agg (arrU .u8 64 c).toArray), (1, .agg (arrU .u8 64 c).toArray)] en_49 Try.func49 rfl rfl (Nat.le_of_ble_eq_true rfl) rfl ?_
  have st := St.start w
  refine Wc.seq ?_
  refine Wc.region rfl ?_
  refine Wl.boxA st rfl ?_
  clear st
  intro b2 w1 st
  refine Wl.boxA st rfl ?_
  clear st
  intro b3 w2 st
  refine Wl.pure (PR.assB rfl) ?_
  refine Wl.nil ?_
  refine tn ?_
  refine Wc.seq ?_
  refine Wc.seq ?_
  refine Wc.region rfl ?_
  refine Wl.pure (PR.assI rfl) ?_
  refine Wl.nil ?_
  refine tn ?_
  refine Wc.block ?_
  refine Wc.loopF (γ := Nat) (fun g => [(2, .pointer (some ⟨b2, 0, none⟩)), (3, .pointer (some ⟨b3, 0, none⟩)), (5, .int .i64 (((g : Nat) : Int)))]) (fun g w_ => St [] w w_ [(b3, arrU .u8 64 c, 47), (b2, arrU .u8 64 c, 47)] ∧ (g ≤ 64)) (fun g => 64 - g) ?_ ?_
  · exact ⟨0, (.cons rfl (.cons rfl (.cons rfl (.nil _)))), st, (by first | omega | (dsimp only; omega))⟩
  clear st
  rintro k w3 ⟨st, hk⟩
  try dsimp only at st hk ⊢
  refine Wc.seq ?_
  refine Wc.seq ?_
  refine Wc.region rfl ?_
  refine Wl.pure (PR.moveI rfl) ?_
  refine Wl.pure (PR.lss (a := ((k : Nat) : Int)) (b := 64) rfl rfl) ?_
  refine Wl.nil ?_
  refine tn ?_
  refine Wc.condD (p := ((k : Nat) : Int) < 64) rfl (fun h4 => ?_) (fun h4 => ?_)
  · refine Wc.skip ?_
    refine tn ?_
    refine Wc.seq ?_
    refine Wc.block ?_
    refine Wc.seq ?_
    refine Wc.quiet hmix (by kernel_rfl) rfl ?_
    refine Wq.pure (PR.moveI rfl) ?_
    refine Wq.pure (PR.idxAddrA1 (i := k) tE_47 rfl rfl (by omega)) ?_
    refine Wq.load (i := 1) st tA_5 rfl rfl (arrU_get0 (by omega)) ?_
    refine Wq.pure (PR.moveI rfl) ?_
    refine Wq.pure (PR.idxAddrA1 (i := k) tE_47 rfl rfl (by omega)) ?_
    refine Wq.load (i := 0) st tA_5 rfl rfl (arrU_get0 (by omega)) ?_
    refine Wq.pure (PR.neqS (a := ((c (k) : Nat) : Int)) rfl rfl) ?_
    refine Wq.nil (fun w5 hbel => ?_)
    replace st := st.call hbel
    clear hbel
    refine tn ?_
    refine Wc.condF rfl ?_
    refine Wc.skip ?_
    refine bn ?_
    refine tn ?_
    refine Wc.region rfl ?_
    refine Wl.pure (PR.moveI rfl) ?_
    refine Wl.pure (PR.add (a := ((k : Nat) : Int)) (b := 1) rfl rfl (by simp only [fitI]; omega)) ?_
    refine Wl.pure (PR.assI rfl) ?_
    refine Wl.nil ?_
    refine tn ?_
    exact ⟨k + 1, (.cons rfl (.cons rfl (.cons rfl (.nil _)))), ⟨st, (by first | omega | (dsimp only; omega))⟩, (by first | omega | (dsimp only; omega))⟩
  · refine Wc.exit ?_
    refine tx ?_
    refine tx ?_
    refine bh ?_
    refine tn ?_
    refine Wc.seq ?_
    refine Wc.region rfl ?_
    refine Wl.pure (PR.assB rfl) ?_
    refine Wl.nil ?_
    refine tn ?_
    refine Wc.ret ?_
    refine postL.tmp rfl rfl ?_
    exact RetV.of rfl st.below

set_option maxHeartbeats 400000 in
set_option maxRecDepth 4000 in
theorem c_laws_eqLayer {p : Int} {c : Nat → Nat} {w : World} :
    CE Try.prog 24 [.agg (layV (p) (c)).toArray, .agg (layV (p) (c)).toArray] w (RetV w (.bool true)) := by
  refine CE.enter 16 [(0, .agg (layV (p) (c)).toArray), (1, .agg (layV (p) (c)).toArray)] en_24 Try.func24 rfl rfl (Nat.le_of_ble_eq_true rfl) rfl ?_
  have st := St.start w
  refine Wc.seq ?_
  refine Wc.region rfl ?_
  refine Wl.boxA st rfl ?_
  clear st
  intro b2 w1 st
  refine Wl.boxA st rfl ?_
  clear st
  intro b3 w2 st
  refine Wl.pure (PR.assB rfl) ?_
  refine Wl.nil ?_
  refine tn ?_
  refine Wc.seq ?_
  refine Wc.seq ?_
  refine Wc.region rfl ?_
  refine Wl.pure (PR.fieldAddr tF_49_0 rfl) ?_
  refine Wl.load (i := 1) st tA_22 rfl rfl (rfl) ?_
  refine Wl.pure (PR.fieldAddr tF_49_0 rfl) ?_
  refine Wl.load (i := 0) st tA_22 rfl rfl (rfl) ?_
  refine Wl.pure (PR.neqS (a := p) rfl rfl) ?_
  refine Wl.nil ?_
  refine tn ?_
  refine Wc.condF rfl ?_
  refine Wc.skip ?_
  refine tn ?_
  refine Wc.seq ?_
  refine Wc.seq ?_
  refine Wc.region rfl ?_
  refine Wl.pure (PR.fieldAddr tF_49_1 rfl) ?_
  refine Wl.loadA (i := 1) st tA_47 rfl rfl layV_sub_c (arrU_len _) ?_
  refine Wl.pure (PR.fieldAddr tF_49_1 rfl) ?_
  refine Wl.loadA (i := 0) st tA_47 rfl rfl layV_sub_c (arrU_len _) ?_
  refine Wl.callV (c_laws_eqByteA64 (c := c)) rfl ?_
  intro w3 hbel
  replace st := st.call hbel
  clear hbel
  refine Wl.pure (PR.not_ rfl) ?_
  refine Wl.nil ?_
  refine tn ?_
  refine Wc.condF rfl ?_
  refine Wc.skip ?_
  refine tn ?_
  refine Wc.seq ?_
  refine Wc.region rfl ?_
  refine Wl.pure (PR.assB rfl) ?_
  refine Wl.nil ?_
  refine tn ?_
  refine Wc.ret ?_
  refine postL.tmp rfl rfl ?_
  exact RetV.of rfl st.below

set_option maxHeartbeats 400000 in
set_option maxRecDepth 4000 in
theorem c_laws_eqLayerS {A : Option Addr} {n : Nat} {cp : Nat} {p : Nat → Int} {c : Nat → Nat → Nat} {B : Option Addr} {cq : Nat} {w : World} (hR : RdS w A n (layS n p c)) (hQ : RdS w B n (layS n p c)) (hn : n ≤ 1048576) :
    CE Try.prog 13 [.slice (A) (n) (cp), .slice (B) (n) (cq)] w (RetV w (.bool true)) := by
  refine CE.enter 27 [(0, .slice (A) (n) (cp)), (1, .slice (B) (n) (cq))] en_13 Try.func13 rfl rfl (Nat.le_of_ble_eq_true rfl) rfl ?_
  have st := St.start w
  refine Wc.seq ?_
  refine Wc.region rfl ?_
  refine Wl.pure (PR.assB rfl) ?_
  refine Wl.nil ?_
  refine tn ?_
  refine Wc.seq ?_
  refine Wc.seq ?_
  refine Wc.region rfl ?_
  refine Wl.pure (PR.moveL rfl) ?_
  refine Wl.pure (PR.lenL tS_34 rfl) ?_
  refine Wl.pure (PR.moveL rfl) ?_
  refine Wl.pure (PR.lenL tS_34 rfl) ?_
  refine Wl.pure (PR.neqS (a := ((n : Nat) : Int)) rfl rfl) ?_
  refine Wl.nil ?_
  refine tn ?_
  refine Wc.condF rfl ?_
  refine Wc.skip ?_
  refine tn ?_
  refine Wc.seq ?_
  refine Wc.seq ?_
  refine Wc.region rfl ?_
  refine Wl.pure (PR.assI rfl) ?_
  refine Wl.nil ?_
  refine tn ?_
  refine Wc.block ?_
  refine Wc.loopF (γ := Nat) (fun g => [(0, .slice (A) (n) (cp)), (1, .slice (B) (n) (cq)), (5, .int .i64 (((g : Nat) : Int)))]) (fun g w_ => St [] w w_ [] ∧ (g ≤ n)) (fun g => n - g) ?_ ?_
  · exact ⟨0, (.cons rfl (.cons rfl (.cons rfl (.nil _)))), st, (by first | omega | (dsimp only; omega))⟩
  clear st
  rintro k w1 ⟨st, hk⟩
  try dsimp only at st hk ⊢
  refine Wc.seq ?_
  refine Wc.seq ?_
  refine Wc.region rfl ?_
  refine Wl.pure (PR.moveI rfl) ?_
  refine Wl.pure (PR.moveL rfl) ?_
  refine Wl.pure (PR.lenL tS_34 rfl) ?_
  refine Wl.pure (PR.lss (a := ((k : Nat) : Int)) (b := ((n : Nat) : Int)) rfl rfl) ?_
  refine Wl.nil ?_
  refine tn ?_
  refine Wc.condD (p := ((k : Nat) : Int) < ((n : Nat) : Int)) rfl (fun h2 => ?_) (fun h2 => ?_)
  · refine Wc.skip ?_
    refine tn ?_
    refine Wc.seq ?_
    refine Wc.block ?_
    refine Wc.seq ?_
    refine Wc.quiet hmix (by kernel_rfl) rfl ?_
    refine Wq.pure (PR.moveL rfl) ?_
    refine Wq.pure (PR.moveI rfl) ?_
    obtain ⟨bs3, os4, rfl, hs5⟩ := hR (by omega)
    refine Wq.pure (PR.idxAddrS (i := k) tS_34 rfl rfl (by omega)) ?_
    refine Wq.loadAC (vs := layV (p k) ((c k))) tA_49 rfl layV_len ((hs5.st st).sub (recV_sub (n := n) (i := k) (layS_row _ _) (by omega)) rfl) ?_
    refine Wq.pure (PR.moveL rfl) ?_
    refine Wq.pure (PR.moveI rfl) ?_
    obtain ⟨bs6, os7, rfl, hs8⟩ := hQ (by omega)
    refine Wq.pure (PR.idxAddrS (i := k) tS_34 rfl rfl (by omega)) ?_
    refine Wq.loadAC (vs := layV (p k) ((c k))) tA_49 rfl layV_len ((hs8.st st).sub (recV_sub (n := n) (i := k) (layS_row _ _) (by omega)) rfl) ?_
    refine Wq.callV (fun _ hbel => c_laws_eqLayer (p := p k) (c := (c k))) rfl ?_
    refine Wq.pure (PR.not_ rfl) ?_
    refine Wq.nil (fun w9 hbel => ?_)
    replace st := st.call hbel
    clear hbel
    refine tn ?_
    refine Wc.condF rfl ?_
    refine Wc.skip ?_
    refine bn ?_
    refine tn ?_
    refine Wc.region rfl ?_
    refine Wl.pure (PR.moveI rfl) ?_
    refine Wl.pure (PR.add (a := ((k : Nat) : Int)) (b := 1) rfl rfl (by simp only [fitI]; omega)) ?_
    refine Wl.pure (PR.assI rfl) ?_
    refine Wl.nil ?_
    refine tn ?_
    exact ⟨k + 1, (.cons rfl (.cons rfl (.cons rfl (.nil _)))), ⟨st, (by first | omega | (dsimp only; omega))⟩, (by first | omega | (dsimp only; omega))⟩
  · refine Wc.exit ?_
    refine tx ?_
    refine tx ?_
    refine bh ?_
    refine tn ?_
    refine Wc.seq ?_
    refine Wc.region rfl ?_
    refine Wl.pure (PR.assB rfl) ?_
    refine Wl.nil ?_
    refine tn ?_
    refine Wc.ret ?_
    refine postL.tmp rfl rfl ?_
    exact RetV.of rfl st.below

end Go.Proofs.Ytabekcodjcbolaa
