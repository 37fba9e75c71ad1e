/-
  Contracts of functions, printed by a program of ours.
-/
import Derived.Test.YtabekcodjcbolaaGreatCZ2
import Derived.Test.YtabekcodjcbolaaGreatBlame
namespace Go.Proofs.YtabekcodjcbolaaGreat
open Go.RowKit
set_option linter.unusedVariables false
set_option linter.unusedSimpArgs false

set_option maxHeartbeats 400000 in
set_option maxRecDepth 4000 in
theorem c_math_bits_OnesCount64 {x : Nat} {w : World} (hx : x < 18446744073709551616) :
    CE Tryz.prog 52 [.int .u64 (((x : Nat) : Int))] w (RetV w (.int .i64 (((pc x : Nat) : Int)))) := by
  refine CE.enter 35 [(0, .int .u64 (((x : Nat) : Int)))] en_52 Tryz.func52 rfl rfl (Nat.le_of_ble_eq_true rfl) rfl ?_
  have st := St.start w
  refine Wc.seq ?_
  refine Wc.region rfl ?_
  refine Wl.pure (PR.assI rfl) ?_
  refine Wl.nil ?_
  refine tn ?_
  refine Wc.seq ?_
  obtain ⟨hl1, hl2, hl3, hl4, hl5, hl6⟩ := o_lt hx
  have hl7 := o6_le hx
  refine Wc.region rfl ?_
  refine Wl.pure (PR.moveI rfl) ?_
  refine Wl.pure (PR.shr (a := x) (n := 1) rfl rfl (by decide) hx) ?_
  refine Wl.pure (PR.and (a := (x >>> 1)) (b := 6148914691236517205) rfl rfl (by decide) (shr_lt hx) (by decide)) ?_
  refine Wl.pure (PR.moveI rfl) ?_
  refine Wl.pure (PR.and (a := x) (b := 6148914691236517205) rfl rfl (by decide) hx (by decide)) ?_
  refine Wl.pure (PR.add (a := ((((x >>> 1) &&& 6148914691236517205) : Nat) : Int)) (b := (((x &&& 6148914691236517205) : Nat) : Int)) rfl rfl (fitN (show _ < 18446744073709551616 from by first | exact hl1 | (have h9 := hl1; unfold o1 at h9; exact h9)) rfl)) ?_
  refine Wl.pure (PR.assI rfl) ?_
  refine Wl.nil ?_
  refine tn ?_
  refine Wc.seq ?_
  rw [show (((((x >>> 1) &&& 6148914691236517205) : Nat) : Int) + (((x &&& 6148914691236517205) : Nat) : Int)) = (((o1 x) : Nat) : Int) from (by unfold o1; rfl)]
  refine Wc.region rfl ?_
  refine Wl.pure (PR.moveI rfl) ?_
  refine Wl.pure (PR.shr (a := (o1 x)) (n := 2) rfl rfl (by decide) hl1) ?_
  refine Wl.pure (PR.and (a := ((o1 x) >>> 2)) (b := 3689348814741910323) rfl rfl (by decide) (shr_lt hl1) (by decide)) ?_
  refine Wl.pure (PR.moveI rfl) ?_
  refine Wl.pure (PR.and (a := (o1 x)) (b := 3689348814741910323) rfl rfl (by decide) hl1 (by decide)) ?_
  refine Wl.pure (PR.add (a := (((((o1 x) >>> 2) &&& 3689348814741910323) : Nat) : Int)) (b := ((((o1 x) &&& 3689348814741910323) : Nat) : Int)) rfl rfl (fitN (show _ < 18446744073709551616 from by first | exact hl2 | (have h9 := hl2; unfold o2 at h9; exact h9)) rfl)) ?_
  refine Wl.pure (PR.assI rfl) ?_
  refine Wl.nil ?_
  refine tn ?_
  refine Wc.seq ?_
  rw [show ((((((o1 x) >>> 2) &&& 3689348814741910323) : Nat) : Int) + ((((o1 x) &&& 3689348814741910323) : Nat) : Int)) = (((o2 x) : Nat) : Int) from (by unfold o2; rfl)]
  refine Wc.region rfl ?_
  refine Wl.pure (PR.moveI rfl) ?_
  refine Wl.pure (PR.shr (a := (o2 x)) (n := 4) rfl rfl (by decide) hl2) ?_
  refine Wl.pure (PR.moveI rfl) ?_
  refine Wl.pure (PR.add (a := ((((o2 x) >>> 4) : Nat) : Int)) (b := (((o2 x) : Nat) : Int)) rfl rfl (fitN (show _ < 18446744073709551616 from hl3) rfl)) ?_
  refine Wl.pure (PR.and (a := (((o2 x) >>> 4) + (o2 x))) (b := 1085102592571150095) rfl rfl (by decide) (by first | assumption | omega) (by decide)) ?_
  refine Wl.pure (PR.assI rfl) ?_
  refine Wl.nil ?_
  refine tn ?_
  refine Wc.seq ?_
  rw [show (((((o2 x) >>> 4) + (o2 x)) &&& 1085102592571150095)) = (o3 x) from (by unfold o3; rfl)]
  refine Wc.region rfl ?_
  refine Wl.pure (PR.moveI rfl) ?_
  refine Wl.pure (PR.moveI rfl) ?_
  refine Wl.pure (PR.shr (a := (o3 x)) (n := 8) rfl rfl (by decide) (by unfold o3; exact Nat.lt_of_le_of_lt Nat.and_le_right (by decide))) ?_
  refine Wl.pure (PR.add (a := (((o3 x) : Nat) : Int)) (b := ((((o3 x) >>> 8) : Nat) : Int)) rfl rfl (fitN (show _ < 18446744073709551616 from by first | exact hl4 | (have h9 := hl4; unfold o4 at h9; exact h9)) rfl)) ?_
  refine Wl.pure (PR.assI rfl) ?_
  refine Wl.nil ?_
  refine tn ?_
  refine Wc.seq ?_
  rw [show ((((o3 x) : Nat) : Int) + ((((o3 x) >>> 8) : Nat) : Int)) = (((o4 x) : Nat) : Int) from (by unfold o4; rfl)]
  refine Wc.region rfl ?_
  refine Wl.pure (PR.moveI rfl) ?_
  refine Wl.pure (PR.moveI rfl) ?_
  refine Wl.pure (PR.shr (a := (o4 x)) (n := 16) rfl rfl (by decide) hl4) ?_
  refine Wl.pure (PR.add (a := (((o4 x) : Nat) : Int)) (b := ((((o4 x) >>> 16) : Nat) : Int)) rfl rfl (fitN (show _ < 18446744073709551616 from by first | exact hl5 | (have h9 := hl5; unfold o5 at h9; exact h9)) rfl)) ?_
  refine Wl.pure (PR.assI rfl) ?_
  refine Wl.nil ?_
  refine tn ?_
  refine Wc.seq ?_
  rw [show ((((o4 x) : Nat) : Int) + ((((o4 x) >>> 16) : Nat) : Int)) = (((o5 x) : Nat) : Int) from (by unfold o5; rfl)]
  refine Wc.region rfl ?_
  refine Wl.pure (PR.moveI rfl) ?_
  refine Wl.pure (PR.moveI rfl) ?_
  refine Wl.pure (PR.shr (a := (o5 x)) (n := 32) rfl rfl (by decide) hl5) ?_
  refine Wl.pure (PR.add (a := (((o5 x) : Nat) : Int)) (b := ((((o5 x) >>> 32) : Nat) : Int)) rfl rfl (fitN (show _ < 18446744073709551616 from by first | exact hl6 | (have h9 := hl6; unfold o6 at h9; exact h9)) rfl)) ?_
  refine Wl.pure (PR.assI rfl) ?_
  refine Wl.nil ?_
  refine tn ?_
  refine Wc.seq ?_
  rw [show ((((o5 x) : Nat) : Int) + ((((o5 x) >>> 32) : Nat) : Int)) = (((o6 x) : Nat) : Int) from (by unfold o6; rfl)]
  refine Wc.region rfl ?_
  refine Wl.pure (PR.moveI rfl) ?_
  refine Wl.pure (PR.conv (n := (((o6 x) : Nat) : Int)) tI_3 rfl (by simp only [fitI]; omega) Tryz.underlying29) ?_
  refine Wl.pure (PR.andI (a := (o6 x)) (b := 127) rfl rfl (Nat.lt_succ_of_le hl7) (by decide)) ?_
  refine Wl.pure (PR.assI rfl) ?_
  refine Wl.nil ?_
  refine tn ?_
  refine Wc.ret ?_
  refine postL.tmp rfl rfl ?_
  refine RetV.of ?_ st.below
  exact congrArg (fun x : Nat => Value.int .i64 (x : Int)) (ones_64 hx)

set_option maxHeartbeats 400000 in
set_option maxRecDepth 4000 in
theorem c_impl_CountBlack {x : Nat} {w : World} (hx : x < 18446744073709551616) :
    CE Tryz.prog 24 [.int .u64 (((x : Nat) : Int))] w (RetV w (.int .i64 (((pc x : Nat) : Int)))) := by
  refine CE.enter 5 [(0, .int .u64 (((x : Nat) : Int)))] en_24 Tryz.func24 rfl rfl (Nat.le_of_ble_eq_true rfl) rfl ?_
  have st := St.start w
  refine Wc.seq ?_
  refine Wc.region rfl ?_
  refine Wl.pure (PR.assI rfl) ?_
  refine Wl.nil ?_
  refine tn ?_
  refine Wc.seq ?_
  refine Wc.region rfl ?_
  refine Wl.pure (PR.moveI rfl) ?_
  refine Wl.callV (c_math_bits_OnesCount64 (x := x) hx) rfl ?_
  intro w1 hbel
  replace st := st.call hbel
  clear hbel
  refine Wl.pure (PR.assI rfl) ?_
  refine Wl.nil ?_
  refine tn ?_
  refine Wc.ret ?_
  refine postL.tmp rfl rfl ?_
  exact RetV.of rfl st.below

set_option maxHeartbeats 400000 in
set_option maxRecDepth 4000 in
theorem c_l00Same {A : Option Addr} {n : Nat} {cp : Nat} {c : Nat → Nat} {B : Option Addr} {cq : Nat} {w : World} (hR : RdS w A n (arrU .i64 n c)) (hQ : RdS w B n (arrU .i64 n c)) (hn : n ≤ 1000000) :
    CE Tryz.prog 50 [.slice (A) (n) (cp), .slice (B) (n) (cq)] w (RetV w (.bool true)) := by
  refine CE.enter 26 [(0, .slice (A) (n) (cp)), (1, .slice (B) (n) (cq))] en_50 Tryz.func50 rfl rfl (Nat.le_of_ble_eq_true rfl) rfl ?_
  have st := St.start w
  refine Wc.seq ?_
  refine Wc.region rfl ?_
  refine Wl.pure (PR.assB rfl) ?_
  refine Wl.nil ?_
  refine tn ?_
  refine Wc.seq ?_
  refine Wc.seq ?_
  refine Wc.region rfl ?_
  refine Wl.pure (PR.moveL rfl) ?_
  refine Wl.pure (PR.lenL tS_39 rfl) ?_
  refine Wl.pure (PR.moveL rfl) ?_
  refine Wl.pure (PR.lenL tS_39 rfl) ?_
  refine Wl.pure (PR.neqS (a := ((n : Nat) : Int)) rfl rfl) ?_
  refine Wl.nil ?_
  refine tn ?_
  refine Wc.condF rfl ?_
  refine Wc.skip ?_
  refine tn ?_
  refine Wc.seq ?_
  refine Wc.seq ?_
  refine Wc.region rfl ?_
  refine Wl.pure (PR.assI rfl) ?_
  refine Wl.nil ?_
  refine tn ?_
  refine Wc.block ?_
  refine Wc.loopF (γ := Nat) (fun g => [(0, .slice (A) (n) (cp)), (1, .slice (B) (n) (cq)), (5, .int .i64 (((g : Nat) : Int)))]) (fun g w_ => St [] w w_ [] ∧ (g ≤ n)) (fun g => n - g) ?_ ?_
  · exact ⟨0, (.cons rfl (.cons rfl (.cons rfl (.nil _)))), st, (by first | omega | (dsimp only; omega))⟩
  clear st
  rintro k w1 ⟨st, hk⟩
  try dsimp only at st hk ⊢
  refine Wc.seq ?_
  refine Wc.seq ?_
  refine Wc.region rfl ?_
  refine Wl.pure (PR.moveI rfl) ?_
  refine Wl.pure (PR.moveL rfl) ?_
  refine Wl.pure (PR.lenL tS_39 rfl) ?_
  refine Wl.pure (PR.lss (a := ((k : Nat) : Int)) (b := ((n : Nat) : Int)) rfl rfl) ?_
  refine Wl.nil ?_
  refine tn ?_
  refine Wc.condD (p := ((k : Nat) : Int) < ((n : Nat) : Int)) rfl (fun h2 => ?_) (fun h2 => ?_)
  · refine Wc.skip ?_
    refine tn ?_
    refine Wc.seq ?_
    refine Wc.block ?_
    refine Wc.seq ?_
    refine Wc.quiet hmix (by kernel_rfl) rfl ?_
    refine Wq.pure (PR.moveL rfl) ?_
    refine Wq.pure (PR.moveI rfl) ?_
    obtain ⟨bs3, os4, rfl, hs5⟩ := hR (by omega)
    refine Wq.pure (PR.idxAddrS1 (i := k) tS_39 rfl rfl (by omega)) ?_
    refine Wq.loadC tA_2 rfl ((hs5.st st).at_ (arrU_get0 (by omega)) (Nat.add_assoc _ _ _).symm) ?_
    refine Wq.pure (PR.moveL rfl) ?_
    refine Wq.pure (PR.moveI rfl) ?_
    obtain ⟨bs6, os7, rfl, hs8⟩ := hQ (by omega)
    refine Wq.pure (PR.idxAddrS1 (i := k) tS_39 rfl rfl (by omega)) ?_
    refine Wq.loadC tA_2 rfl ((hs8.st st).at_ (arrU_get0 (by omega)) (Nat.add_assoc _ _ _).symm) ?_
    refine Wq.pure (PR.neqS (a := ((c (k) : Nat) : Int)) rfl rfl) ?_
    refine Wq.nil (fun w9 hbel => ?_)
    replace st := st.call hbel
    clear hbel
    refine tn ?_
    refine Wc.condF rfl ?_
    refine Wc.skip ?_
    refine bn ?_
    refine tn ?_
    refine Wc.region rfl ?_
    refine Wl.pure (PR.moveI rfl) ?_
    refine Wl.pure (PR.add (a := ((k : Nat) : Int)) (b := 1) rfl rfl (by simp only [fitI]; omega)) ?_
    refine Wl.pure (PR.assI rfl) ?_
    refine Wl.nil ?_
    refine tn ?_
    exact ⟨k + 1, (.cons rfl (.cons rfl (.cons rfl (.nil _)))), ⟨st, (by first | omega | (dsimp only; omega))⟩, (by first | omega | (dsimp only; omega))⟩
  · refine Wc.exit ?_
    refine tx ?_
    refine tx ?_
    refine bh ?_
    refine tn ?_
    refine Wc.seq ?_
    refine Wc.region rfl ?_
    refine Wl.pure (PR.assB rfl) ?_
    refine Wl.nil ?_
    refine tn ?_
    refine Wc.ret ?_
    refine postL.tmp rfl rfl ?_
    exact RetV.of rfl st.below

set_option maxHeartbeats 400000 in
set_option maxRecDepth 4000 in
theorem c_l00Same0 {A : Option Addr} {cp : Nat} {B : Option Addr} {cq : Nat} {w : World} :
    CE Tryz.prog 50 [.slice (A) (0) (cp), .slice (B) (0) (cq)] w (RetV w (.bool true)) := by
  refine CE.enter 26 [(0, .slice (A) (0) (cp)), (1, .slice (B) (0) (cq))] en_50 Tryz.func50 rfl rfl (Nat.le_of_ble_eq_true rfl) rfl ?_
  have st := St.start w
  refine Wc.seq ?_
  refine Wc.region rfl ?_
  refine Wl.pure (PR.assB rfl) ?_
  refine Wl.nil ?_
  refine tn ?_
  refine Wc.seq ?_
  refine Wc.seq ?_
  refine Wc.region rfl ?_
  refine Wl.pure (PR.moveL rfl) ?_
  refine Wl.pure (PR.lenL tS_39 rfl) ?_
  refine Wl.pure (PR.moveL rfl) ?_
  refine Wl.pure (PR.lenL tS_39 rfl) ?_
  refine Wl.pure (PR.neqS (a := 0) rfl rfl) ?_
  refine Wl.nil ?_
  refine tn ?_
  refine Wc.condF rfl ?_
  refine Wc.skip ?_
  refine tn ?_
  refine Wc.seq ?_
  refine Wc.seq ?_
  refine Wc.region rfl ?_
  refine Wl.pure (PR.assI rfl) ?_
  refine Wl.nil ?_
  refine tn ?_
  refine Wc.block ?_
  refine Wc.loopF (γ := Unit) (fun g => [(0, .slice (A) (0) (cp)), (1, .slice (B) (0) (cq)), (5, .int .i64 (0))]) (fun g w_ => St [] w w_ []) (fun g => 0) ?_ ?_
  · exact ⟨(), (.cons rfl (.cons rfl (.cons rfl (.nil _)))), st⟩
  clear st
  rintro u_ w1 st
  try dsimp only at st ⊢
  refine Wc.seq ?_
  refine Wc.seq ?_
  refine Wc.region rfl ?_
  refine Wl.pure (PR.moveI rfl) ?_
  refine Wl.pure (PR.moveL rfl) ?_
  refine Wl.pure (PR.lenL tS_39 rfl) ?_
  refine Wl.pure (PR.lss (a := 0) (b := 0) rfl rfl) ?_
  refine Wl.nil ?_
  refine tn ?_
  refine Wc.condD (p := 0 < 0) rfl (fun h2 => ?_) (fun h2 => ?_)
  · refine Wc.skip ?_
    refine tn ?_
    refine Wc.seq ?_
    refine Wc.block ?_
    refine Wc.seq ?_
    exfalso
    omega
  · refine Wc.exit ?_
    refine tx ?_
    refine tx ?_
    refine bh ?_
    refine tn ?_
    refine Wc.seq ?_
    refine Wc.region rfl ?_
    refine Wl.pure (PR.assB rfl) ?_
    refine Wl.nil ?_
    refine tn ?_
    refine Wc.ret ?_
    refine postL.tmp rfl rfl ?_
    exact RetV.of rfl st.below

set_option maxHeartbeats 400000 in
set_option maxRecDepth 4000 in
theorem c_SameNumbers {A : Option Addr} {n : Nat} {cp : Nat} {c : Nat → Nat} {B : Option Addr} {cq : Nat} {w : World} (hR : RdS w A n (arrU .i64 n c)) (hQ : RdS w B n (arrU .i64 n c)) (hn : n ≤ 1000000) :
    CE Tryz.prog 20 [.slice (A) (n) (cp), .slice (B) (n) (cq)] w (RetV w (.bool true)) := by
  refine CE.enter 8 [(0, .slice (A) (n) (cp)), (1, .slice (B) (n) (cq))] en_20 Tryz.func20 rfl rfl (Nat.le_of_ble_eq_true rfl) rfl ?_
  have st := St.start w
  refine Wc.seq ?_
  refine Wc.region rfl ?_
  refine Wl.pure (PR.assB rfl) ?_
  refine Wl.nil ?_
  refine tn ?_
  refine Wc.seq ?_
  refine Wc.region rfl ?_
  refine Wl.pure (PR.moveL rfl) ?_
  refine Wl.pure (PR.moveL rfl) ?_
  refine Wl.callV (c_l00Same (A := A) (n := n) (cp := cp) (c := c) (B := B) (cq := cq) (hR.st st) (hQ.st st) (by first | assumption | omega)) rfl ?_
  intro w1 hbel
  replace st := st.call hbel
  clear hbel
  refine Wl.pure (PR.assB rfl) ?_
  refine Wl.nil ?_
  refine tn ?_
  refine Wc.ret ?_
  refine postL.tmp rfl rfl ?_
  exact RetV.of rfl st.below

set_option maxHeartbeats 400000 in
set_option maxRecDepth 4000 in
theorem c_SameNumbers0 {A : Option Addr} {cp : Nat} {B : Option Addr} {cq : Nat} {w : World} :
    CE Tryz.prog 20 [.slice (A) (0) (cp), .slice (B) (0) (cq)] w (RetV w (.bool true)) := by
  refine CE.enter 8 [(0, .slice (A) (0) (cp)), (1, .slice (B) (0) (cq))] en_20 Tryz.func20 rfl rfl (Nat.le_of_ble_eq_true rfl) rfl ?_
  have st := St.start w
  refine Wc.seq ?_
  refine Wc.region rfl ?_
  refine Wl.pure (PR.assB rfl) ?_
  refine Wl.nil ?_
  refine tn ?_
  refine Wc.seq ?_
  refine Wc.region rfl ?_
  refine Wl.pure (PR.moveL rfl) ?_
  refine Wl.pure (PR.moveL rfl) ?_
  refine Wl.callV (c_l00Same (A := A) (n := 0) (cp := cp) (c := (fun _ => 0)) (B := B) (cq := cq) (fun h => absurd h (by decide)) (fun h => absurd h (by decide)) (by first | assumption | omega)) rfl ?_
  intro w1 hbel
  replace st := st.call hbel
  clear hbel
  refine Wl.pure (PR.assB rfl) ?_
  refine Wl.nil ?_
  refine tn ?_
  refine Wc.ret ?_
  refine postL.tmp rfl rfl ?_
  exact RetV.of rfl st.below

set_option maxHeartbeats 400000 in
set_option maxRecDepth 4000 in
theorem c_spec_l00Has {A : Option Addr} {n : Nat} {cp : Nat} {c : Nat → Nat} {z : Nat} {w : World} (hR : RdS w A n (arrU .i64 n c)) (hn : n ≤ 1000000) :
    CE Tryz.prog 51 [.slice (A) (n) (cp), .int .i64 (((z : Nat) : Int))] w (RetV w (.bool (hasB n c z))) := by
  refine CE.enter 18 [(0, .slice (A) (n) (cp)), (1, .int .i64 (((z : Nat) : Int)))] en_51 Tryz.func51 rfl rfl (Nat.le_of_ble_eq_true rfl) rfl ?_
  have st := St.start w
  refine Wc.seq ?_
  refine Wc.region rfl ?_
  refine Wl.pure (PR.assB rfl) ?_
  refine Wl.nil ?_
  refine tn ?_
  refine Wc.seq ?_
  refine Wc.seq ?_
  refine Wc.region rfl ?_
  refine Wl.pure (PR.assI rfl) ?_
  refine Wl.nil ?_
  refine tn ?_
  refine Wc.block ?_
  refine Wc.loopF (γ := Nat) (fun g => [(0, .slice (A) (n) (cp)), (1, .int .i64 (((z : Nat) : Int))), (5, .int .i64 (((g : Nat) : Int)))]) (fun g w_ => St [] w w_ [] ∧ (g ≤ n) ∧ (∀ j, j < g → ¬ c j = z)) (fun g => n - g) ?_ ?_
  · exact ⟨0, (.cons rfl (.cons rfl (.cons rfl (.nil _)))), st, (by first | omega | (dsimp only; omega)), (fun j hj => by omega)⟩
  clear st
  rintro k w1 ⟨st, hk, hg⟩
  try dsimp only at st hk hg ⊢
  refine Wc.seq ?_
  refine Wc.seq ?_
  refine Wc.region rfl ?_
  refine Wl.pure (PR.moveI rfl) ?_
  refine Wl.pure (PR.moveL rfl) ?_
  refine Wl.pure (PR.lenL tS_39 rfl) ?_
  refine Wl.pure (PR.lss (a := ((k : Nat) : Int)) (b := ((n : Nat) : Int)) rfl rfl) ?_
  refine Wl.nil ?_
  refine tn ?_
  refine Wc.condD (p := ((k : Nat) : Int) < ((n : Nat) : Int)) rfl (fun h2 => ?_) (fun h2 => ?_)
  · refine Wc.skip ?_
    refine tn ?_
    refine Wc.seq ?_
    refine Wc.block ?_
    refine Wc.seq ?_
    refine Wc.region rfl ?_
    refine Wl.pure (PR.moveL rfl) ?_
    refine Wl.pure (PR.moveI rfl) ?_
    obtain ⟨bs3, os4, rfl, hs5⟩ := hR (by omega)
    refine Wl.pure (PR.idxAddrS1 (i := k) tS_39 rfl rfl (by omega)) ?_
    refine Wl.loadC tA_2 rfl ((hs5.st st).at_ (arrU_get0 (by omega)) (Nat.add_assoc _ _ _).symm) ?_
    refine Wl.pure (PR.moveI rfl) ?_
    refine Wl.pure (PR.eql (a := ((c (k) : Nat) : Int)) (b := ((z : Nat) : Int)) rfl rfl) ?_
    refine Wl.nil ?_
    refine tn ?_
    refine Wc.condD (p := ((c (k) : Nat) : Int) = ((z : Nat) : Int)) rfl (fun h6 => ?_) (fun h6 => ?_)
    · refine Wc.seq ?_
      refine Wc.region rfl ?_
      refine Wl.pure (PR.assB rfl) ?_
      refine Wl.nil ?_
      refine tn ?_
      refine Wc.ret ?_
      refine br ?_
      refine tr ?_
      refine tr ?_
      refine br ?_
      refine tr ?_
      refine postL.tmp rfl rfl ?_
      refine RetV.of ?_ st.below
      refine congrArg Value.bool ?_
      exact hasB_t (k := k) (by omega) (by omega)
    · refine Wc.skip ?_
      refine bn ?_
      refine tn ?_
      refine Wc.region rfl ?_
      refine Wl.pure (PR.moveI rfl) ?_
      refine Wl.pure (PR.add (a := ((k : Nat) : Int)) (b := 1) rfl rfl (by simp only [fitI]; omega)) ?_
      refine Wl.pure (PR.assI rfl) ?_
      refine Wl.nil ?_
      refine tn ?_
      exact ⟨k + 1, (.cons rfl (.cons rfl (.cons rfl (.nil _)))), ⟨st, (by first | omega | (dsimp only; omega)), (all_snoc hg (by omega))⟩, (by first | omega | (dsimp only; omega))⟩
  · refine Wc.exit ?_
    refine tx ?_
    refine tx ?_
    refine bh ?_
    refine tn ?_
    refine Wc.seq ?_
    refine Wc.region rfl ?_
    refine Wl.pure (PR.assB rfl) ?_
    refine Wl.nil ?_
    refine tn ?_
    refine Wc.ret ?_
    refine postL.tmp rfl rfl ?_
    refine RetV.of ?_ st.below
    refine congrArg Value.bool ?_
    exact hasB_f (fun j hj => hg j (by omega))

set_option maxHeartbeats 400000 in
set_option maxRecDepth 4000 in
theorem c_spec_HasNumber {A : Option Addr} {n : Nat} {cp : Nat} {c : Nat → Nat} {z : Nat} {w : World} (hR : RdS w A n (arrU .i64 n c)) (hn : n ≤ 1000000) :
    CE Tryz.prog 21 [.slice (A) (n) (cp), .int .i64 (((z : Nat) : Int))] w (RetV w (.bool (hasB n c z))) := by
  refine CE.enter 8 [(0, .slice (A) (n) (cp)), (1, .int .i64 (((z : Nat) : Int)))] en_21 Tryz.func21 rfl rfl (Nat.le_of_ble_eq_true rfl) rfl ?_
  have st := St.start w
  refine Wc.seq ?_
  refine Wc.region rfl ?_
  refine Wl.pure (PR.assB rfl) ?_
  refine Wl.nil ?_
  refine tn ?_
  refine Wc.seq ?_
  refine Wc.region rfl ?_
  refine Wl.pure (PR.moveL rfl) ?_
  refine Wl.pure (PR.moveI rfl) ?_
  refine Wl.callV (c_spec_l00Has (A := A) (n := n) (cp := cp) (c := c) (z := z) (hR.st st) (by first | assumption | omega)) rfl ?_
  intro w1 hbel
  replace st := st.call hbel
  clear hbel
  refine Wl.pure (PR.assB rfl) ?_
  refine Wl.nil ?_
  refine tn ?_
  refine Wc.ret ?_
  refine postL.tmp rfl rfl ?_
  exact RetV.of rfl st.below

set_option maxHeartbeats 400000 in
set_option maxRecDepth 4000 in
theorem c_spec_IsBlack {x : Nat} {k : Nat} {w : World} (hx : x < 18446744073709551616) (hk : k < 64) :
    CE Tryz.prog 15 [.int .u64 (((x : Nat) : Int)), .int .i64 (((k : Nat) : Int))] w (RetV w (.bool (bitB x k))) := by
  refine CE.enter 8 [(0, .int .u64 (((x : Nat) : Int))), (1, .int .i64 (((k : Nat) : Int)))] en_15 Tryz.func15 rfl rfl (Nat.le_of_ble_eq_true rfl) rfl ?_
  have st := St.start w
  refine Wc.seq ?_
  refine Wc.region rfl ?_
  refine Wl.pure (PR.assB rfl) ?_
  refine Wl.nil ?_
  refine tn ?_
  refine Wc.seq ?_
  refine Wc.region rfl ?_
  refine Wl.pure (PR.moveI rfl) ?_
  refine Wl.pure (PR.moveI rfl) ?_
  refine Wl.callV (c_bit_pec (x := x) (k := k) hx (by first | assumption | omega)) rfl ?_
  intro w1 hbel
  replace st := st.call hbel
  clear hbel
  refine Wl.pure (PR.assB rfl) ?_
  refine Wl.nil ?_
  refine tn ?_
  refine Wc.ret ?_
  refine postL.tmp rfl rfl ?_
  exact RetV.of rfl st.below

set_option maxHeartbeats 400000 in
set_option maxRecDepth 4000 in
theorem c_spec_SameParts {A : Option Addr} {n : Nat} {cp : Nat} {c : Nat → Nat} {B : Option Addr} {cq : Nat} {d : Nat → Nat} {w : World} (hR : RdS w A n (arrU .u8 n c)) (hQ : RdS w B n (arrU .u8 n d)) (hc : ∀ k, c k < 256) (hd : ∀ k, d k < 256) (hn : n ≤ 1000) :
    CE Tryz.prog 17 [.slice (A) (n) (cp), .slice (B) (n) (cq)] w (RetV w (.bool (eqR n c d))) := by
  refine CE.enter 8 [(0, .slice (A) (n) (cp)), (1, .slice (B) (n) (cq))] en_17 Tryz.func17 rfl rfl (Nat.le_of_ble_eq_true rfl) rfl ?_
  have st := St.start w
  refine Wc.seq ?_
  refine Wc.region rfl ?_
  refine Wl.pure (PR.assB rfl) ?_
  refine Wl.nil ?_
  refine tn ?_
  refine Wc.seq ?_
  refine Wc.region rfl ?_
  refine Wl.pure (PR.moveL rfl) ?_
  refine Wl.pure (PR.moveL rfl) ?_
  refine Wl.callV (c_spec_l03Same (A := A) (n := n) (cp := cp) (c := c) (B := B) (cq := cq) (d := d) (hR.st st) (hQ.st st) hc hd (by first | assumption | omega)) rfl ?_
  intro w1 hbel
  replace st := st.call hbel
  clear hbel
  refine Wl.pure (PR.assB rfl) ?_
  refine Wl.nil ?_
  refine tn ?_
  refine Wc.ret ?_
  refine postL.tmp rfl rfl ?_
  exact RetV.of rfl st.below

end Go.Proofs.YtabekcodjcbolaaGreat
