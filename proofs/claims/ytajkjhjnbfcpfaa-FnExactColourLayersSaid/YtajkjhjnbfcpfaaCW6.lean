/-
  Contracts of functions, printed by a program of ours.
-/
import Derived.Test.YtajkjhjnbfcpfaaCW5
namespace Go.Proofs.Ytajkjhjnbfcpfaa
open Go.RowKit
set_option linter.unusedVariables false
set_option linter.unusedSimpArgs false

set_option maxHeartbeats 400000 in
set_option maxRecDepth 4000 in
theorem c_impl_shadeCell {v : Nat} {w : World} (hv : v ≤ 4) (hvb : v < 256) :
    CE Try.prog 88 [.int .u8 (((v : Nat) : Int))] w (RetV w (.int .u8 (((shV v : Nat) : Int)))) := by
  refine CE.enter 12 [(0, .int .u8 (((v : Nat) : Int)))] en_88 Try.func88 rfl rfl (Nat.le_of_ble_eq_true rfl) rfl ?_
  have st := St.start w
  refine Wc.seq ?_
  refine Wc.region rfl ?_
  refine Wl.pure (PR.assI rfl) ?_
  refine Wl.nil ?_
  refine tn ?_
  refine Wc.seq ?_
  refine Wc.region rfl ?_
  refine Wl.pure (PR.moveI rfl) ?_
  refine Wl.pure (PR.subN (a := 4) (b := v) rfl rfl (by omega) (by simp only [fitI]; omega)) ?_
  refine Wl.pure (PR.shl (a := 1) (n := (4 - v)) rfl rfl (by decide)) ?_
  refine Wl.pure (PR.subU (a := ((1 <<< (4 - v)) % 256)) (b := 1) rfl rfl (by decide) (by decide)) ?_
  refine Wl.pure (PR.moveI rfl) ?_
  refine Wl.pure (PR.shl (a := 1) (n := v) rfl rfl (by decide)) ?_
  refine Wl.pure (PR.subU (a := ((1 <<< v) % 256)) (b := 1) rfl rfl (by decide) (by decide)) ?_
  refine Wl.pure (PR.shl (a := ((((1 <<< v) % 256) + (256 - 1)) % 256)) (n := 4) rfl rfl (by decide)) ?_
  refine Wl.pure (PR.or (a := ((((1 <<< (4 - v)) % 256) + (256 - 1)) % 256)) (b := ((((((1 <<< v) % 256) + (256 - 1)) % 256) <<< 4) % 256)) rfl rfl (by decide) (Nat.mod_lt _ (by decide)) (Nat.mod_lt _ (by decide))) ?_
  refine Wl.pure (PR.assI rfl) ?_
  refine Wl.nil ?_
  refine tn ?_
  refine Wc.ret ?_
  refine postL.tmp rfl rfl ?_
  refine RetV.of ?_ st.below
  rcases (show v = 0 ∨ v = 1 ∨ v = 2 ∨ v = 3 ∨ v = 4 by omega) with rfl | rfl | rfl | rfl | rfl <;> rfl

set_option maxHeartbeats 400000 in
set_option maxRecDepth 4000 in
theorem c_spec_l05Second {v : Nat} {w : World} (hv : v ≤ 4) :
    CE Try.prog 86 [.int .i64 (((v : Nat) : Int))] w (RetV w (.int .u8 (((shV v : Nat) : Int)))) := by
  refine CE.enter 18 [(0, .int .i64 (((v : Nat) : Int)))] en_86 Try.func86 rfl rfl (Nat.le_of_ble_eq_true rfl) rfl ?_
  have st := St.start w
  refine Wc.seq ?_
  refine Wc.region rfl ?_
  refine Wl.pure (PR.assI rfl) ?_
  refine Wl.nil ?_
  refine tn ?_
  refine Wc.seq ?_
  refine Wc.region rfl ?_
  refine Wl.pure (PR.moveI rfl) ?_
  refine Wl.pure (PR.subN (a := 4) (b := v) rfl rfl (by omega) (by simp only [fitI]; omega)) ?_
  refine Wl.pure (PR.conv (n := (((4 - v) : Nat) : Int)) tI_133 rfl (by simp only [fitI]; omega) Try.underlying2) ?_
  refine Wl.pure (PR.shl (a := 1) (n := (4 - v)) rfl rfl (by decide)) ?_
  refine Wl.pure (PR.subU (a := ((1 <<< (4 - v)) % 256)) (b := 1) rfl rfl (by decide) (by decide)) ?_
  refine Wl.pure (PR.assI rfl) ?_
  refine Wl.nil ?_
  refine tn ?_
  refine Wc.seq ?_
  refine Wc.region rfl ?_
  refine Wl.pure (PR.moveI rfl) ?_
  refine Wl.pure (PR.conv (n := ((v : Nat) : Int)) tI_133 rfl (by simp only [fitI]; omega) Try.underlying2) ?_
  refine Wl.pure (PR.shl (a := 1) (n := v) rfl rfl (by decide)) ?_
  refine Wl.pure (PR.subU (a := ((1 <<< v) % 256)) (b := 1) rfl rfl (by decide) (by decide)) ?_
  refine Wl.pure (PR.shl (a := ((((1 <<< v) % 256) + (256 - 1)) % 256)) (n := 4) rfl rfl (by decide)) ?_
  refine Wl.pure (PR.assI rfl) ?_
  refine Wl.nil ?_
  refine tn ?_
  refine Wc.seq ?_
  refine Wc.region rfl ?_
  refine Wl.pure (PR.moveI rfl) ?_
  refine Wl.pure (PR.moveI rfl) ?_
  refine Wl.pure (PR.or (a := ((((1 <<< (4 - v)) % 256) + (256 - 1)) % 256)) (b := ((((((1 <<< v) % 256) + (256 - 1)) % 256) <<< 4) % 256)) rfl rfl (by decide) (Nat.mod_lt _ (by decide)) (Nat.mod_lt _ (by decide))) ?_
  refine Wl.pure (PR.assI rfl) ?_
  refine Wl.nil ?_
  refine tn ?_
  refine Wc.ret ?_
  refine postL.tmp rfl rfl ?_
  refine RetV.of ?_ st.below
  rcases (show v = 0 ∨ v = 1 ∨ v = 2 ∨ v = 3 ∨ v = 4 by omega) with rfl | rfl | rfl | rfl | rfl <;> rfl

set_option maxHeartbeats 400000 in
set_option maxRecDepth 4000 in
theorem c_slices_Max_uint8_uint8 {A : Option Addr} {n : Nat} {cp : Nat} {c : Nat → Nat} {w : World} (hR : RdS w A n (arrU .u8 n c)) (hn : 1 ≤ n ∧ n ≤ 1000) (hc : ∀ k, c k < 256) :
    CE Try.prog 103 [.slice (A) (n) (cp)] w (RetV w (.int .u8 (((maxF c (n - 1) : Nat) : Int)))) := by
  refine CE.enter 25 [(0, .slice (A) (n) (cp))] en_103 Try.func103 rfl rfl (Nat.le_of_ble_eq_true rfl) rfl ?_
  have st := St.start w
  refine Wc.seq ?_
  refine Wc.region rfl ?_
  refine Wl.pure (PR.assI rfl) ?_
  refine Wl.nil ?_
  refine tn ?_
  refine Wc.seq ?_
  refine Wc.seq ?_
  refine Wc.region rfl ?_
  refine Wl.pure (PR.moveL rfl) ?_
  refine Wl.pure (PR.lenL tS_67 rfl) ?_
  refine Wl.pure (PR.lss (a := ((n : Nat) : Int)) (b := 1) rfl rfl) ?_
  refine Wl.nil ?_
  refine tn ?_
  refine Wc.condD (p := ((n : Nat) : Int) < 1) rfl (fun h1 => ?_) (fun h1 => ?_)
  · exfalso
    omega
  · refine Wc.skip ?_
    refine tn ?_
    refine Wc.seq ?_
    refine Wc.region rfl ?_
    refine Wl.pure (PR.moveL rfl) ?_
    obtain ⟨bs2, os3, rfl, hs4⟩ := hR (by omega)
    refine Wl.pure (PR.idxAddrS1 (i := 0) tS_67 rfl rfl (by omega)) ?_
    refine Wl.loadC tA_5 rfl ((hs4.st st).at_ (arrU_get0 (by omega)) (Nat.add_assoc _ _ _).symm) ?_
    refine Wl.pure (PR.assI rfl) ?_
    refine Wl.nil ?_
    refine tn ?_
    refine Wc.seq ?_
    refine Wc.seq ?_
    refine Wc.region rfl ?_
    refine Wl.pure (PR.assI rfl) ?_
    refine Wl.nil ?_
    refine tn ?_
    refine Wc.block ?_
    refine Wc.loopF (γ := Nat × Nat) (fun g => [(0, .slice (some ⟨bs2, os3, none⟩) (n) (cp)), (2, .int .u8 (0)), (3, .int .u8 (((g.2 : Nat) : Int))), (4, .int .i64 ((((g.1 + 1) : Nat) : Int)))]) (fun g w_ => St [] w w_ [] ∧ (g.1 + 1 ≤ n) ∧ (g.2 = maxF c g.1)) (fun g => n - g.1) ?_ ?_
    · exact ⟨(0, (c 0)), (.cons rfl (.cons rfl (.cons rfl (.cons rfl (.nil _))))), st, (by omega), rfl⟩
    clear st
    rintro ⟨k, v⟩ w5 ⟨st, hk, hv⟩
    try dsimp only at st hk hv ⊢
    refine Wc.seq ?_
    refine Wc.seq ?_
    refine Wc.region rfl ?_
    refine Wl.pure (PR.moveI rfl) ?_
    refine Wl.pure (PR.moveL rfl) ?_
    refine Wl.pure (PR.lenL tS_67 rfl) ?_
    refine Wl.pure (PR.lss (a := (((k + 1) : Nat) : Int)) (b := ((n : Nat) : Int)) rfl rfl) ?_
    refine Wl.nil ?_
    refine tn ?_
    refine Wc.condD (p := (((k + 1) : Nat) : Int) < ((n : Nat) : Int)) rfl (fun h6 => ?_) (fun h6 => ?_)
    · refine Wc.skip ?_
      refine tn ?_
      refine Wc.seq ?_
      refine Wc.block ?_
      refine Wc.region rfl ?_
      refine Wl.pure (PR.moveI rfl) ?_
      refine Wl.pure (PR.moveL rfl) ?_
      refine Wl.pure (PR.moveI rfl) ?_
      refine Wl.pure (PR.idxAddrS1 (i := (k + 1)) tS_67 rfl rfl (by omega)) ?_
      refine Wl.loadC tA_5 rfl ((hs4.st st).at_ (arrU_get0 (by omega)) (Nat.add_assoc _ _ _).symm) ?_
      refine Wl.pure (PR.max2N (a := v) (b := c ((k + 1))) rfl rfl) ?_
      refine Wl.pure (PR.assI rfl) ?_
      refine Wl.nil ?_
      refine bn ?_
      refine tn ?_
      refine Wc.region rfl ?_
      refine Wl.pure (PR.moveI rfl) ?_
      refine Wl.pure (PR.add (a := (((k + 1) : Nat) : Int)) (b := 1) rfl rfl (by simp only [fitI]; omega)) ?_
      refine Wl.pure (PR.assI rfl) ?_
      refine Wl.nil ?_
      refine tn ?_
      exact ⟨(k + 1, (max v (c ((k + 1))))), (.cons rfl (.cons rfl (.cons rfl (.cons rfl (.nil _))))), ⟨st, (by first | omega | (dsimp only; omega)), (by rw [hv]; rfl)⟩, (by first | omega | (dsimp only; omega))⟩
    · refine Wc.exit ?_
      refine tx ?_
      refine tx ?_
      refine bh ?_
      refine tn ?_
      refine Wc.seq ?_
      refine Wc.region rfl ?_
      refine Wl.pure (PR.moveI rfl) ?_
      refine Wl.pure (PR.assI rfl) ?_
      refine Wl.nil ?_
      refine tn ?_
      refine Wc.ret ?_
      refine postL.tmp rfl rfl ?_
      refine RetV.of ?_ st.below
      refine congrArg (fun x : Nat => Value.int .u8 (x : Int)) ?_
      obtain rfl : k = n - 1 := by omega
      exact hv

set_option maxHeartbeats 400000 in
set_option maxRecDepth 4000 in
theorem c_impl_ValidShades {c : Nat → Nat} {w : World} (hc : ∀ k, c k < 256) :
    CE Try.prog 60 [.agg (arrU .u8 64 c).toArray] w (RetV w (.bool (shOk c))) := by
  refine CE.enter 6 [(0, .agg (arrU .u8 64 c).toArray)] en_60 Try.func60 rfl rfl (Nat.le_of_ble_eq_true rfl) rfl ?_
  have st := St.start w
  refine Wc.seq ?_
  refine Wc.region rfl ?_
  refine Wl.boxA st rfl ?_
  clear st
  intro b1 w1 st
  refine Wl.pure (PR.assB rfl) ?_
  refine Wl.nil ?_
  refine tn ?_
  refine Wc.seq ?_
  refine Wc.region rfl ?_
  refine Wl.pure (PR.sliceArr tE_33 rfl) ?_
  refine Wl.callV (c_slices_Max_uint8_uint8 (A := some ⟨b1, 0, none⟩) (n := 64) (cp := 64) (c := c) ((st.rdA (i := 0) (n := 64) rfl (all_sub (arrU_len _))).sl) (by decide) (by first | assumption | omega)) rfl ?_
  intro w2 hbel
  replace st := st.call hbel
  clear hbel
  refine Wl.pure (PR.leq (a := ((maxF c (64 - 1) : Nat) : Int)) (b := 4) rfl rfl) ?_
  refine Wl.pure (PR.assB rfl) ?_
  refine Wl.nil ?_
  refine tn ?_
  refine Wc.ret ?_
  refine postL.tmp rfl rfl ?_
  refine RetV.of ?_ st.below
  exact congrArg Value.bool shOk_max

set_option maxHeartbeats 400000 in
set_option maxRecDepth 4000 in
theorem c_spec_l05Shades {b : Nat} {o : Nat} {c : Nat → Nat} {w : World} (hR : RdA w b o (arrU .u8 64 c)) (hc : ∀ k, c k < 256) :
    CE Try.prog 85 [.pointer (some ⟨b, o, none⟩)] w (RetV w (.bool (shOk c))) := by
  refine CE.enter 14 [(0, .pointer (some ⟨b, o, none⟩))] en_85 Try.func85 rfl rfl (Nat.le_of_ble_eq_true rfl) rfl ?_
  have st := St.start w
  refine Wc.seq ?_
  refine Wc.region rfl ?_
  refine Wl.pure (PR.assB rfl) ?_
  refine Wl.nil ?_
  refine tn ?_
  refine Wc.seq ?_
  refine Wc.seq ?_
  refine Wc.region rfl ?_
  refine Wl.pure (PR.assI rfl) ?_
  refine Wl.nil ?_
  refine tn ?_
  refine Wc.block ?_
  refine Wc.loopF (γ := Nat) (fun g => [(0, .pointer (some ⟨b, o, none⟩)), (3, .int .i64 (((g : Nat) : Int)))]) (fun g w_ => St [] w w_ [] ∧ (g ≤ 64) ∧ (∀ j, j < g → c j ≤ 4)) (fun g => 64 - g) ?_ ?_
  · exact ⟨0, (.cons rfl (.cons rfl (.nil _))), st, (by omega), (fun j hj => by omega)⟩
  clear st
  rintro k w1 ⟨st, hk, hg⟩
  try dsimp only at st hk hg ⊢
  refine Wc.seq ?_
  refine Wc.seq ?_
  refine Wc.region rfl ?_
  refine Wl.pure (PR.moveI rfl) ?_
  refine Wl.pure (PR.lss (a := ((k : Nat) : Int)) (b := 64) rfl rfl) ?_
  refine Wl.nil ?_
  refine tn ?_
  refine Wc.condD (p := ((k : Nat) : Int) < 64) rfl (fun h2 => ?_) (fun h2 => ?_)
  · refine Wc.skip ?_
    refine tn ?_
    refine Wc.seq ?_
    refine Wc.block ?_
    refine Wc.seq ?_
    refine Wc.region rfl ?_
    refine Wl.pure (PR.moveP rfl) ?_
    refine Wl.pure (PR.moveI rfl) ?_
    refine Wl.pure (PR.nil_ rfl) ?_
    refine Wl.pure (PR.idxAddrA1 (i := k) tE_33 rfl rfl (by omega)) ?_
    refine Wl.loadC tA_5 rfl ((hR.st st).at_ (arrU_get0 (by omega)) (Nat.add_assoc _ _ _).symm) ?_
    refine Wl.pure (PR.gtr (a := ((c (k) : Nat) : Int)) (b := 4) rfl rfl) ?_
    refine Wl.nil ?_
    refine tn ?_
    refine Wc.condD (p := 4 < ((c (k) : Nat) : Int)) rfl (fun h3 => ?_) (fun h3 => ?_)
    · refine Wc.seq ?_
      refine Wc.region rfl ?_
      refine Wl.pure (PR.assB rfl) ?_
      refine Wl.nil ?_
      refine tn ?_
      refine Wc.ret ?_
      refine br ?_
      refine tr ?_
      refine tr ?_
      refine br ?_
      refine tr ?_
      refine postL.tmp rfl rfl ?_
      refine RetV.of ?_ st.below
      refine congrArg Value.bool ?_
      exact shOk_f (k := k) (by omega) (by omega)
    · refine Wc.skip ?_
      refine bn ?_
      refine tn ?_
      refine Wc.region rfl ?_
      refine Wl.pure (PR.moveI rfl) ?_
      refine Wl.pure (PR.add (a := ((k : Nat) : Int)) (b := 1) rfl rfl (by simp only [fitI]; omega)) ?_
      refine Wl.pure (PR.assI rfl) ?_
      refine Wl.nil ?_
      refine tn ?_
      exact ⟨k + 1, (.cons rfl (.cons rfl (.nil _))), ⟨st, (by first | omega | (dsimp only; omega)), (all_snoc hg (by omega))⟩, (by first | omega | (dsimp only; omega))⟩
  · refine Wc.exit ?_
    refine tx ?_
    refine tx ?_
    refine bh ?_
    refine tn ?_
    refine Wc.seq ?_
    refine Wc.region rfl ?_
    refine Wl.pure (PR.assB rfl) ?_
    refine Wl.nil ?_
    refine tn ?_
    refine Wc.ret ?_
    refine postL.tmp rfl rfl ?_
    refine RetV.of ?_ st.below
    refine congrArg Value.bool ?_
    exact shOk_t (fun j hj => hg j (by omega))

set_option maxHeartbeats 400000 in
set_option maxRecDepth 4000 in
theorem c_impl_ShadeLayers_1 {b1 : Nat} {o1 : Nat} {c : Nat → Nat} {k : Nat} {w : World} (h1 : RdA w b1 o1 (arrU .u8 64 c)) (hc : ∀ k, c k < 256) (hs : c k ≤ 4) (hk : k < 64) :
    CE Try.prog 87 [.int .i64 (((k : Nat) : Int)), .pointer (some ⟨b1, o1, none⟩)] w (RetXG w [] 5 1 (2) (arrU .u8 2 (shaF c k)) (fun b_ c_ => .slice (some ⟨b_, 0, none⟩) (2) (c_)) []) := by
  refine CE.enter 9 [(0, .int .i64 (((k : Nat) : Int))), (1, .pointer (some ⟨b1, o1, none⟩))] en_87 Try.func87 rfl rfl (Nat.le_of_ble_eq_true rfl) rfl ?_
  have st := St.start w
  refine Wc.seq ?_
  refine Wc.region rfl ?_
  refine Wl.pure (PR.assL rfl) ?_
  refine Wl.nil ?_
  refine tn ?_
  refine Wc.seq ?_
  refine Wc.region rfl ?_
  refine Wl.pure (PR.moveI rfl) ?_
  refine Wl.pure (PR.idxAddrA1 (i := k) tE_33 rfl rfl (by omega)) ?_
  refine Wl.loadC tA_5 rfl ((h1.st st).at_ (arrU_get0 (by omega)) (Nat.add_assoc _ _ _).symm) ?_
  refine Wl.callV (c_impl_shadeCell (v := c (k)) (by first | assumption | omega) (hc (k))) rfl ?_
  intro w1 hbel
  replace st := st.call hbel
  clear hbel
  refine Wl.buildSlice (ps := [(0, .int .u8 (15)), (1, .int .u8 (((shV (c (k)) : Nat) : Int)))]) (cs := [.int .u8 (15), .int .u8 (((shV (c (k)) : Nat) : Int))]) st tS_67 tZ_5 rfl rfl rfl ?_
  clear st
  intro b8 w2 st
  refine Wl.pure (PR.assL rfl) ?_
  refine Wl.nil ?_
  refine tn ?_
  refine Wc.ret ?_
  refine postL.tmp rfl rfl ?_
  replace st := st.nilapp
  exact ⟨b8, 2, ([]), (Nat.le_refl _), (by simp), rfl, st⟩

set_option maxHeartbeats 400000 in
set_option maxRecDepth 4000 in
theorem c_impl_ShadeLayers {c : Nat → Nat} {x : Nat} {w : World} (hc : ∀ k, c k < 256) (hx : x < 4294967296) :
    CE Try.prog 33 [.agg (arrU .u8 64 c).toArray, .int .u32 (((x : Nat) : Int))] w (RetV w (.tuple #[.agg (layV (selI (bif shOk c then 0 else 1) 8) ((selF (bif shOk c then 0 else 1) (dwC (shaF c) 8 x 0)))).toArray, .agg (layV (selI (bif shOk c then 0 else 1) 8) ((selF (bif shOk c then 0 else 1) (dwC (shaF c) 8 x 1)))).toArray, .int .u32 (((selN (bif shOk c then 0 else 1) (sdK 8 x 64) : Nat) : Int)), .int .i64 ((((bif shOk c then 0 else 1) : Nat) : Int))])) := by
  refine CE.enter 23 [(0, .agg (arrU .u8 64 c).toArray), (1, .int .u32 (((x : Nat) : Int)))] en_33 Try.func33 rfl rfl (Nat.le_of_ble_eq_true rfl) rfl ?_
  have st := St.start w
  refine Wc.seq ?_
  refine Wc.region rfl ?_
  refine Wl.boxA st rfl ?_
  clear st
  intro b2 w1 st
  refine Wl.boxI st rfl ?_
  clear st
  intro b3 w2 st
  refine Wl.alloc st tZ_30 rfl ?_
  clear st
  intro b4 w3 st
  refine Wl.alloc st tZ_30 rfl ?_
  clear st
  intro b5 w4 st
  refine Wl.pure (PR.assI rfl) ?_
  refine Wl.pure (PR.assI rfl) ?_
  refine Wl.nil ?_
  refine tn ?_
  refine Wc.seq ?_
  refine Wc.seq ?_
  refine Wc.region rfl ?_
  refine Wl.loadA (i := 3) st tA_33 rfl rfl (all_sub (arrU_len _)) (arrU_len _) ?_
  refine Wl.callV (c_impl_ValidShades (c := c) hc) rfl ?_
  intro w5 hbel
  replace st := st.call hbel
  clear hbel
  refine Wl.pure (PR.not_ rfl) ?_
  refine Wl.nil ?_
  refine tn ?_
  refine Wc.condNB (b := shOk c) rfl (fun h6 => ?_) (fun h6 => ?_)
  · refine Wc.seq ?_
    refine Wc.region rfl ?_
    refine Wl.pure (PR.build (ps := []) (cs := layV (0) ((fun _ => 0))) tB_30 rfl rfl) ?_
    refine Wl.pure (PR.build (ps := []) (cs := layV (0) ((fun _ => 0))) tB_30 rfl rfl) ?_
    refine Wl.storeA (i := 1) (cs' := layV (0) ((fun _ => 0))) st tA_30 rfl rfl layV_len layV_one rfl (le_of_len layV_len (by omega)) (all_put layV_len) ?_
    clear st
    intro w7 st
    replace st : St [] w w7 [(b5, layV (0) ((fun _ => 0)), 30), (b4, layV (0) ((fun _ => 0)), 30), (b3, [.int .u32 (((x : Nat) : Int))], 38), (b2, arrU .u8 64 c, 33)] := st
    refine Wl.storeA (i := 0) (cs' := layV (0) ((fun _ => 0))) st tA_30 rfl rfl layV_len layV_one rfl (le_of_len layV_len (by omega)) (all_put layV_len) ?_
    clear st
    intro w8 st
    replace st : St [] w w8 [(b5, layV (0) ((fun _ => 0)), 30), (b4, layV (0) ((fun _ => 0)), 30), (b3, [.int .u32 (((x : Nat) : Int))], 38), (b2, arrU .u8 64 c, 33)] := st
    refine Wl.pure (PR.assI rfl) ?_
    refine Wl.pure (PR.assI rfl) ?_
    refine Wl.nil ?_
    refine tn ?_
    refine Wc.ret ?_
    refine tr ?_
    refine postL.many (rvs := [.cell 4 30, .cell 5 30, .tmp 6, .tmp 7]) rfl (.cell (us := layV (0) ((fun _ => 0))) tA_30 rfl layV_len (st.rdA (i := 1) (n := 65) rfl (all_sub layV_len)) (.cell (us := layV (0) ((fun _ => 0))) tA_30 rfl layV_len (st.rdA (i := 0) (n := 65) rfl (all_sub layV_len)) (.tmp (v := .int .u32 (0)) rfl (.tmp (v := .int .i64 (1)) rfl .nil)))) ?_
    refine RetV.of ?_ st.below
    exact shl_f (by assumption)
  · refine Wc.skip ?_
    refine tn ?_
    refine Wc.seq ?_
    have hsh := shOk_spec (c := c) (by assumption)
    refine Wc.region rfl ?_
    refine Wl.pure (PR.mkFunc (vs := [.pointer (some ⟨b2, 0, none⟩)]) rfl) ?_
    refine Wl.callXG [2] st (c_impl_drawn (bs := b3) (x := x) (n := 8) (fk := 87) (cap := [.pointer (some ⟨b2, 0, none⟩)]) (m := 2) (f := (shaF c)) hx (by first | assumption | omega) (by first | assumption | omega) (shaF_lt c) (fun i hi w' hfr => c_impl_ShadeLayers_1 (st.rdF (i := 3) (j := 2) rfl rfl (by decide) hfr) hc (hsh i hi) hi) (st.lend (L' := [(b3, [.int .u32 (((x : Nat) : Int))], 38)]) [2] (by decide) rfl)) rfl rfl ?_
    clear st
    intro b15 c15 sp15 w9 hc15 hs15 st
    replace st : St [] w w9 [(b15, layS 2 (fun _ => ((8 : Nat) : Int)) (dwC (shaF c) 8 x) ++ sp15, 30), (b3, [.int .u32 (((sdK 8 x 64 : Nat) : Int))], 38), (b5, layV (0) ((fun _ => 0)), 30), (b4, layV (0) ((fun _ => 0)), 30), (b2, arrU .u8 64 c, 33)] := st
    refine Wl.pure (PR.assL rfl) ?_
    refine Wl.nil ?_
    refine tn ?_
    refine Wc.seq ?_
    refine Wc.tree1 (w0 := w) (X := []) (Ks := [b15, b3]) (S := fun i => i == 7 || i == 8) (.st 0 0 (.st 1 0 (.st 3 0 (.st 4 0 (.st 2 1 (.st 5 3 (.st 6 3 (.st 7 2 (.st 8 2 (.st 9 0 (.st 10 0 PT.nil))))))))))) hmix (by kernel_rfl) (by kernel_rfl) rfl rfl ?_
    intro w10 hbel
    replace st := st.call hbel
    clear hbel
    refine WT.pure rfl (PR.moveL rfl) ?_
    refine WT.pure rfl (PR.idxAddrS (i := 0) tS_99 rfl rfl (by omega)) ?_
    refine WT.pure rfl (PR.moveL rfl) ?_
    refine WT.pure rfl (PR.idxAddrS (i := 1) tS_99 rfl rfl (by omega)) ?_
    refine WT.loadA1 (j := 0) (vs := layV ((fun _ => ((8 : Nat) : Int)) 0) (((dwC (shaF c) 8 x) 0))) rfl st tA_30 rfl rfl (app_sub (recV_sub0 (n := 2) (i := 0) (layS_row _ _) (by omega)) (recV_tot (n := 2) (i := 0) (layS_row _ _) (by omega))) layV_len ?_
    refine WT.loadA (j := 0) (vs := layV ((fun _ => ((8 : Nat) : Int)) 1) (((dwC (shaF c) 8 x) 1))) rfl (by simp) st tA_30 rfl rfl (app_sub (recV_sub0 (n := 2) (i := 1) (layS_row _ _) (by omega)) (recV_tot (n := 2) (i := 1) (layS_row _ _) (by omega))) layV_len ?_
    refine WT.load (j := 1) rfl (by simp) st tA_38 rfl rfl (rfl) ?_
    have st0 := st
    refine WT.s rfl rfl ?_
    refine Wl.storeA (i := 3) (cs' := layV ((fun _ => ((8 : Nat) : Int)) 0) (((dwC (shaF c) 8 x) 0))) st tA_30 rfl rfl layV_len layV_one rfl (le_of_len layV_len (by omega)) (all_put layV_len) ?_
    clear st
    intro w11 st
    replace st : St [] w w11 [(b15, layS 2 (fun _ => ((8 : Nat) : Int)) (dwC (shaF c) 8 x) ++ sp15, 30), (b3, [.int .u32 (((sdK 8 x 64 : Nat) : Int))], 38), (b5, layV (0) ((fun _ => 0)), 30), (b4, layV ((fun _ => ((8 : Nat) : Int)) 0) (((dwC (shaF c) 8 x) 0)), 30), (b2, arrU .u8 64 c, 33)] := st
    refine Wl.nil ⟨rfl, RK.of st0 st (ksC (i := 0) (j := 0) rfl rfl rfl (ksC (i := 1) (j := 1) rfl rfl rfl ksN)), ?_⟩
    clear st0
    have st0 := st
    refine WT.s rfl rfl ?_
    refine Wl.storeA (i := 2) (cs' := layV ((fun _ => ((8 : Nat) : Int)) 1) (((dwC (shaF c) 8 x) 1))) st tA_30 rfl rfl layV_len layV_one rfl (le_of_len layV_len (by omega)) (all_put layV_len) ?_
    clear st
    intro w12 st
    replace st : St [] w w12 [(b15, layS 2 (fun _ => ((8 : Nat) : Int)) (dwC (shaF c) 8 x) ++ sp15, 30), (b3, [.int .u32 (((sdK 8 x 64 : Nat) : Int))], 38), (b5, layV ((fun _ => ((8 : Nat) : Int)) 1) (((dwC (shaF c) 8 x) 1)), 30), (b4, layV ((fun _ => ((8 : Nat) : Int)) 0) (((dwC (shaF c) 8 x) 0)), 30), (b2, arrU .u8 64 c, 33)] := st
    refine Wl.nil ⟨rfl, RK.of st0 st (ksC (i := 0) (j := 0) rfl rfl rfl (ksC (i := 1) (j := 1) rfl rfl rfl ksN)), ?_⟩
    clear st0
    refine WT.pure rfl (PR.assI rfl) ?_
    refine WT.pure rfl (PR.assI rfl) ?_
    refine WT.nil ?_
    refine tn ?_
    refine Wc.ret ?_
    refine postL.many (rvs := [.cell 4 30, .cell 5 30, .tmp 6, .tmp 7]) rfl (.cell (us := layV ((fun _ => ((8 : Nat) : Int)) 0) (((dwC (shaF c) 8 x) 0))) tA_30 rfl layV_len (st.rdA (i := 3) (n := 65) rfl (all_sub layV_len)) (.cell (us := layV ((fun _ => ((8 : Nat) : Int)) 1) (((dwC (shaF c) 8 x) 1))) tA_30 rfl layV_len (st.rdA (i := 2) (n := 65) rfl (all_sub layV_len)) (.tmp (v := .int .u32 (((sdK 8 x 64 : Nat) : Int))) rfl (.tmp (v := .int .i64 (0)) rfl .nil)))) ?_
    refine RetV.of ?_ st.below
    exact shl_t (by assumption) rfl (fun _ _ => rfl) rfl (fun _ _ => rfl) rfl

set_option maxHeartbeats 400000 in
set_option maxRecDepth 4000 in
theorem c_spec_ShadeLayers {c : Nat → Nat} {x : Nat} {w : World} (hc : ∀ k, c k < 256) (hx : x < 4294967296) :
    CE Try.prog 31 [.agg (arrU .u8 64 c).toArray, .int .u32 (((x : Nat) : Int))] w (RetV w (.tuple #[.agg (layV (selI (bif shOk c then 0 else 1) 8) ((selF (bif shOk c then 0 else 1) (dwC (shaF c) 8 x 0)))).toArray, .agg (layV (selI (bif shOk c then 0 else 1) 8) ((selF (bif shOk c then 0 else 1) (dwC (shaF c) 8 x 1)))).toArray, .int .u32 (((selN (bif shOk c then 0 else 1) (sdK 8 x 64) : Nat) : Int)), .int .i64 ((((bif shOk c then 0 else 1) : Nat) : Int))])) := by
  refine CE.enter 47 [(0, .agg (arrU .u8 64 c).toArray), (1, .int .u32 (((x : Nat) : Int)))] en_31 Try.func31 rfl rfl (Nat.le_of_ble_eq_true rfl) rfl ?_
  have st := St.start w
  refine Wc.seq ?_
  refine Wc.region rfl ?_
  refine Wl.boxA st rfl ?_
  clear st
  intro b2 w1 st
  refine Wl.alloc st tZ_30 rfl ?_
  clear st
  intro b4 w2 st
  refine Wl.alloc st tZ_30 rfl ?_
  clear st
  intro b5 w3 st
  refine Wl.pure (PR.assI rfl) ?_
  refine Wl.pure (PR.assI rfl) ?_
  refine Wl.nil ?_
  refine tn ?_
  refine Wc.seq ?_
  refine Wc.seq ?_
  refine Wc.region rfl ?_
  refine Wl.callV (c_spec_l05Shades (b := b2) (o := 0) (c := c) (st.rdA (i := 2) rfl (all_sub (arrU_len _))) hc) rfl ?_
  intro w4 hbel
  replace st := st.call hbel
  clear hbel
  refine Wl.pure (PR.not_ rfl) ?_
  refine Wl.nil ?_
  refine tn ?_
  refine Wc.condNB (b := shOk c) rfl (fun h5 => ?_) (fun h5 => ?_)
  · refine Wc.seq ?_
    refine Wc.region rfl ?_
    refine Wl.pure (PR.build (ps := []) (cs := layV (0) ((fun _ => 0))) tB_30 rfl rfl) ?_
    refine Wl.pure (PR.build (ps := []) (cs := layV (0) ((fun _ => 0))) tB_30 rfl rfl) ?_
    refine Wl.storeA (i := 1) (cs' := layV (0) ((fun _ => 0))) st tA_30 rfl rfl layV_len layV_one rfl (le_of_len layV_len (by omega)) (all_put layV_len) ?_
    clear st
    intro w6 st
    replace st : St [] w w6 [(b5, layV (0) ((fun _ => 0)), 30), (b4, layV (0) ((fun _ => 0)), 30), (b2, arrU .u8 64 c, 33)] := st
    refine Wl.storeA (i := 0) (cs' := layV (0) ((fun _ => 0))) st tA_30 rfl rfl layV_len layV_one rfl (le_of_len layV_len (by omega)) (all_put layV_len) ?_
    clear st
    intro w7 st
    replace st : St [] w w7 [(b5, layV (0) ((fun _ => 0)), 30), (b4, layV (0) ((fun _ => 0)), 30), (b2, arrU .u8 64 c, 33)] := st
    refine Wl.pure (PR.assI rfl) ?_
    refine Wl.pure (PR.assI rfl) ?_
    refine Wl.nil ?_
    refine tn ?_
    refine Wc.ret ?_
    refine tr ?_
    refine postL.many (rvs := [.cell 4 30, .cell 5 30, .tmp 6, .tmp 7]) rfl (.cell (us := layV (0) ((fun _ => 0))) tA_30 rfl layV_len (st.rdA (i := 1) (n := 65) rfl (all_sub layV_len)) (.cell (us := layV (0) ((fun _ => 0))) tA_30 rfl layV_len (st.rdA (i := 0) (n := 65) rfl (all_sub layV_len)) (.tmp (v := .int .u32 (0)) rfl (.tmp (v := .int .i64 (1)) rfl .nil)))) ?_
    refine RetV.of ?_ st.below
    exact shl_f (by assumption)
  · refine Wc.skip ?_
    refine tn ?_
    refine Wc.seq ?_
    have hsh := shOk_spec (c := c) (by assumption)
    refine Wc.region rfl ?_
    refine Wl.pure (PR.moveI rfl) ?_
    refine Wl.makeSlice (n := 2) st tS_99 tZ_30 rfl rfl rfl (by omega) (by omega) ?_
    clear st
    intro b15 w8 st
    replace st : St [] w w8 [(b15, layS 2 (fun _ => 0) (fun _ _ => 0), 30), (b5, layV (0) ((fun _ => 0)), 30), (b4, layV (0) ((fun _ => 0)), 30), (b2, arrU .u8 64 c, 33)] := st
    refine Wl.pure (PR.build (ps := [(0, .int .u32 (((x : Nat) : Int))), (1, .int .i8 (8)), (2, .slice (some ⟨b15, 0, none⟩) (2) (2))]) (cs := [.int .u32 (((x : Nat) : Int)), .int .i8 (8), .slice (some ⟨b15, 0, none⟩) (2) (2)]) tB_109 rfl rfl) ?_
    refine Wl.boxA st rfl ?_
    clear st
    intro b17 w9 st
    refine Wl.pure (PR.assP rfl) ?_
    refine Wl.nil ?_
    refine tn ?_
    refine Wc.seq ?_
    refine Wc.seq ?_
    refine Wc.region rfl ?_
    refine Wl.pure (PR.assI rfl) ?_
    refine Wl.nil ?_
    refine tn ?_
    refine Wc.block ?_
    refine Wc.loopF (γ := Nat × (Nat → Int) × (Nat → Nat → Nat)) (fun g => [(2, .pointer (some ⟨b2, 0, none⟩)), (4, .pointer (some ⟨b4, 0, none⟩)), (5, .pointer (some ⟨b5, 0, none⟩)), (6, .int .u32 (0)), (7, .int .i64 (0)), (8, .pointer (some ⟨b17, 0, none⟩)), (9, .int .i64 (((g.1 : Nat) : Int)))]) (fun g w_ => St [] w w_ [(b17, [.int .u32 (((sdK 8 x g.1 : Nat) : Int)), .int .i8 (8), .slice (some ⟨b15, 0, none⟩) (2) (2)], 109), (b15, layS 2 g.2.1 g.2.2, 30), (b5, layV (0) ((fun _ => 0)), 30), (b4, layV (0) ((fun _ => 0)), 30), (b2, arrU .u8 64 c, 33)] ∧ (g.1 ≤ 64) ∧ (∀ u v, g.2.2 u v < 256) ∧ (0 < g.1 → ∀ u, u < 2 → g.2.1 u = 8) ∧ (∀ u, u < 2 → ∀ v, v < g.1 → g.2.2 u v = dwC (shaF c) 8 x u v)) (fun g => 64 - g.1) ?_ ?_
    · exact ⟨(0, (fun _ => 0), (fun _ _ => 0)), (.cons rfl (.cons rfl (.cons rfl (.cons rfl (.cons rfl (.cons rfl (.cons rfl (.nil _)))))))), st, (by omega), (fun _ _ => by dsimp only; decide), (fun h => absurd h (by decide)), (fun u hu v hv => by omega)⟩
    clear st
    rintro ⟨k, pp, cc⟩ w10 ⟨st, hk, hcc, hpp, hg⟩
    try dsimp only at st hk hcc hpp hg ⊢
    refine Wc.seq ?_
    refine Wc.seq ?_
    refine Wc.region rfl ?_
    refine Wl.pure (PR.moveI rfl) ?_
    refine Wl.pure (PR.lss (a := ((k : Nat) : Int)) (b := 64) rfl rfl) ?_
    refine Wl.nil ?_
    refine tn ?_
    refine Wc.condD (p := ((k : Nat) : Int) < 64) rfl (fun h11 => ?_) (fun h11 => ?_)
    · refine Wc.skip ?_
      refine tn ?_
      refine Wc.seq ?_
      refine Wc.block ?_
      have hsk := hsh k (by omega)
      refine Wc.region rfl ?_
      refine Wl.pure (PR.moveP rfl) ?_
      refine Wl.pure (PR.moveI rfl) ?_
      refine Wl.pure (PR.moveI rfl) ?_
      refine Wl.pure (PR.idxAddrA1 (i := k) tE_33 rfl rfl (by omega)) ?_
      refine Wl.load (i := 4) st tA_5 rfl rfl (arrU_get0 (by omega)) ?_
      refine Wl.pure (PR.conv (n := ((c (k) : Nat) : Int)) tI_2 rfl (fitN (hc (k)) rfl) Try.underlying5) ?_
      refine Wl.callV (c_spec_l05Second (v := c (k)) (by first | assumption | omega)) rfl ?_
      intro w12 hbel
      replace st := st.call hbel
      clear hbel
      refine Wl.buildSlice (ps := [(0, .int .u8 (15)), (1, .int .u8 (((shV (c (k)) : Nat) : Int)))]) (cs := [.int .u8 (15), .int .u8 (((shV (c (k)) : Nat) : Int))]) st tS_67 tZ_5 rfl rfl rfl ?_
      clear st
      intro b29 w13 st
      refine Wl.callX [1, 2, 0] st (c_spec_l05Maker_add (bm := b17) (bl := b15) (br := b29) (x := sdK 8 x k) (n := 8) (q := 2) (cl := 2) (cr := 2) (pp := pp) (cc := cc) (v := (fun z_ => [15, shV (c (k))].getD z_ 0)) (k := k) (sdK_lt hx k) (by first | assumption | omega) (by first | assumption | omega) hcc (nat_lt2 (by decide) (shV_lt _)) (by first | assumption | omega) (st.lend (L' := [(b17, [.int .u32 (((sdK 8 x k : Nat) : Int)), .int .i8 (8), .slice (some ⟨b15, 0, none⟩) (2) (2)], 109), (b15, layS 2 pp cc, 30), (b29, [.int .u8 (15), .int .u8 (((shV (c (k)) : Nat) : Int))], 5)]) [1, 2, 0] (by decide) rfl)) rfl rfl ?_
      clear st
      intro w14 st
      replace st : St [] w w14 [(b17, [.int .u32 (((xOf 8 (sdK 8 x k) : Nat) : Int)), .int .i8 (8), .slice (some ⟨b15, 0, none⟩) (2) (2)], 109), (b15, layS 2 (setP pp 2 ((8 : Nat) : Int)) (setC cc 2 k (fun u => rdF ((fun z_ => [15, shV (c (k))].getD z_ 0) u) (oOf 8 (sdK 8 x k)) 8)), 30), (b29, arrU .u8 2 (fun z_ => [15, shV (c (k))].getD z_ 0), 5), (b5, layV (0) ((fun _ => 0)), 30), (b4, layV (0) ((fun _ => 0)), 30), (b2, arrU .u8 64 c, 33)] := st
      refine Wl.nil ?_
      refine bn ?_
      refine tn ?_
      refine Wc.region rfl ?_
      refine Wl.pure (PR.moveI rfl) ?_
      refine Wl.pure (PR.add (a := ((k : Nat) : Int)) (b := 1) rfl rfl (by simp only [fitI]; omega)) ?_
      refine Wl.pure (PR.assI rfl) ?_
      refine Wl.nil ?_
      refine tn ?_
      replace st : St [] w w14 [(b17, [.int .u32 (((xOf 8 (sdK 8 x k) : Nat) : Int)), .int .i8 (8), .slice (some ⟨b15, 0, none⟩) (2) (2)], 109), (b15, layS 2 (setP pp 2 ((8 : Nat) : Int)) (setC cc 2 k (fun u => rdF ((fun z_ => [15, shV (c (k))].getD z_ 0) u) (oOf 8 (sdK 8 x k)) 8)), 30), (b5, layV (0) ((fun _ => 0)), 30), (b4, layV (0) ((fun _ => 0)), 30), (b2, arrU .u8 64 c, 33)] := st.pick [0, 1, 3, 4, 5] (by decide) rfl
      exact ⟨(k + 1, (setP pp 2 ((8 : Nat) : Int)), (setC cc 2 k (fun u => rdF ((fun z_ => [15, shV (c (k))].getD z_ 0) u) (oOf 8 (sdK 8 x k)) 8))), (.cons rfl (.cons rfl (.cons rfl (.cons rfl (.cons rfl (.cons rfl (.cons rfl (.nil _)))))))), ⟨st, (by first | omega | (dsimp only; omega)), (setC_lt hcc (fun _ => rdF_lt _ _ _) _ _), (fun _ => setP_next), (setC_next hg (fun u hu => rfl))⟩, (by first | omega | (dsimp only; omega))⟩
    · refine Wc.exit ?_
      refine tx ?_
      refine tx ?_
      refine bh ?_
      refine tn ?_
      refine Wc.seq ?_
      refine Wc.tree1 (w0 := w) (X := []) (Ks := [b17, b15]) (S := fun i => i == 16 || i == 17) (.st 0 0 (.st 1 0 (.st 2 0 (.st 6 0 (.st 7 0 (.st 8 0 (.st 12 0 (.st 13 0 (.st 14 0 (.st 3 1 (.st 4 0 (.st 5 1 (.st 9 3 (.st 10 0 (.st 11 3 (.st 15 3 (.st 16 2 (.st 17 2 (.st 18 0 (.st 19 0 PT.nil)))))))))))))))))))) hmix (by kernel_rfl) (by kernel_rfl) rfl rfl ?_
      intro w15 hbel
      replace st := st.call hbel
      clear hbel
      refine WT.pure rfl (PR.moveP rfl) ?_
      refine WT.pure rfl (PR.nil_ rfl) ?_
      refine WT.pure rfl (PR.fieldAddr tF_109_2 rfl) ?_
      refine WT.pure rfl (PR.moveP rfl) ?_
      refine WT.pure rfl (PR.nil_ rfl) ?_
      refine WT.pure rfl (PR.fieldAddr tF_109_2 rfl) ?_
      refine WT.pure rfl (PR.moveP rfl) ?_
      refine WT.pure rfl (PR.nil_ rfl) ?_
      refine WT.pure rfl (PR.fieldAddr tF_109_0 rfl) ?_
      refine WT.load1 (j := 0) rfl st tA_99 rfl rfl (rfl) ?_
      refine WT.pure rfl (PR.idxAddrS (i := 0) tS_99 rfl rfl (by omega)) ?_
      refine WT.loadA1 (j := 1) (vs := layV (pp 0) ((cc 0))) rfl st tA_30 rfl rfl (recV_sub0 (n := 2) (i := 0) (layS_row _ _) (by omega)) layV_len ?_
      refine WT.load (j := 0) rfl (by simp) st tA_99 rfl rfl (rfl) ?_
      refine WT.pure rfl (PR.idxAddrS (i := 1) tS_99 rfl rfl (by omega)) ?_
      refine WT.loadA (j := 1) (vs := layV (pp 1) ((cc 1))) rfl (by simp) st tA_30 rfl rfl (recV_sub0 (n := 2) (i := 1) (layS_row _ _) (by omega)) layV_len ?_
      refine WT.load (j := 0) rfl (by simp) st tA_38 rfl rfl (rfl) ?_
      have st0 := st
      refine WT.s rfl rfl ?_
      refine Wl.storeA (i := 3) (cs' := layV (pp 0) ((cc 0))) st tA_30 rfl rfl layV_len layV_one rfl (le_of_len layV_len (by omega)) (all_put layV_len) ?_
      clear st
      intro w16 st
      replace st : St [] w w16 [(b17, [.int .u32 (((sdK 8 x k : Nat) : Int)), .int .i8 (8), .slice (some ⟨b15, 0, none⟩) (2) (2)], 109), (b15, layS 2 pp cc, 30), (b5, layV (0) ((fun _ => 0)), 30), (b4, layV (pp 0) ((cc 0)), 30), (b2, arrU .u8 64 c, 33)] := st
      refine Wl.nil ⟨rfl, RK.of st0 st (ksC (i := 0) (j := 0) rfl rfl rfl (ksC (i := 1) (j := 1) rfl rfl rfl ksN)), ?_⟩
      clear st0
      have st0 := st
      refine WT.s rfl rfl ?_
      refine Wl.storeA (i := 2) (cs' := layV (pp 1) ((cc 1))) st tA_30 rfl rfl layV_len layV_one rfl (le_of_len layV_len (by omega)) (all_put layV_len) ?_
      clear st
      intro w17 st
      replace st : St [] w w17 [(b17, [.int .u32 (((sdK 8 x k : Nat) : Int)), .int .i8 (8), .slice (some ⟨b15, 0, none⟩) (2) (2)], 109), (b15, layS 2 pp cc, 30), (b5, layV (pp 1) ((cc 1)), 30), (b4, layV (pp 0) ((cc 0)), 30), (b2, arrU .u8 64 c, 33)] := st
      refine Wl.nil ⟨rfl, RK.of st0 st (ksC (i := 0) (j := 0) rfl rfl rfl (ksC (i := 1) (j := 1) rfl rfl rfl ksN)), ?_⟩
      clear st0
      refine WT.pure rfl (PR.assI rfl) ?_
      refine WT.pure rfl (PR.assI rfl) ?_
      refine WT.nil ?_
      refine tn ?_
      refine Wc.ret ?_
      refine postL.many (rvs := [.cell 4 30, .cell 5 30, .tmp 6, .tmp 7]) rfl (.cell (us := layV (pp 0) ((cc 0))) tA_30 rfl layV_len (st.rdA (i := 3) (n := 65) rfl (all_sub layV_len)) (.cell (us := layV (pp 1) ((cc 1))) tA_30 rfl layV_len (st.rdA (i := 2) (n := 65) rfl (all_sub layV_len)) (.tmp (v := .int .u32 (((sdK 8 x k : Nat) : Int))) rfl (.tmp (v := .int .i64 (0)) rfl .nil)))) ?_
      refine RetV.of ?_ st.below
      obtain rfl : k = 64 := by omega
      exact shl_t (by assumption) (hpp (by decide) 0 (by decide)) (hg 0 (by decide)) (hpp (by decide) 1 (by decide)) (hg 1 (by decide)) rfl

set_option maxHeartbeats 400000 in
set_option maxRecDepth 4000 in
theorem c_laws_toShades {c : Nat → Nat} {w : World} (hc : ∀ k, c k < 256) :
    CE Try.prog 32 [.agg (arrU .u8 64 c).toArray] w (RetV w (.agg (arrU .u8 64 c).toArray)) := by
  refine CE.enter 15 [(0, .agg (arrU .u8 64 c).toArray)] en_32 Try.func32 rfl rfl (Nat.le_of_ble_eq_true rfl) rfl ?_
  have st := St.start w
  refine Wc.seq ?_
  refine Wc.region rfl ?_
  refine Wl.boxA st rfl ?_
  clear st
  intro b1 w1 st
  refine Wl.alloc st tZ_33 rfl ?_
  clear st
  intro b2 w2 st
  refine Wl.nil ?_
  refine tn ?_
  refine Wc.seq ?_
  refine Wc.region rfl ?_
  refine Wl.alloc st tZ_33 rfl ?_
  clear st
  intro b3 w3 st
  refine Wl.nil ?_
  refine tn ?_
  refine Wc.seq ?_
  refine Wc.seq ?_
  refine Wc.region rfl ?_
  refine Wl.pure (PR.assI rfl) ?_
  refine Wl.nil ?_
  refine tn ?_
  refine Wc.block ?_
  refine Wc.loopF (γ := Nat × (Nat → Nat)) (fun g => [(1, .pointer (some ⟨b1, 0, none⟩)), (2, .pointer (some ⟨b2, 0, none⟩)), (3, .pointer (some ⟨b3, 0, none⟩)), (4, .int .i64 (((g.1 : Nat) : Int)))]) (fun g w_ => St [] w w_ [(b3, arrU .u8 64 g.2, 33), (b2, arrU .u8 64 (fun _ => 0), 33), (b1, arrU .u8 64 c, 23)] ∧ (g.1 ≤ 64) ∧ (∀ j, j < g.1 → g.2 j = c j)) (fun g => 64 - g.1) ?_ ?_
  · exact ⟨(0, (fun _ => 0)), (.cons rfl (.cons rfl (.cons rfl (.cons rfl (.nil _))))), st, (by omega), (fun j hj => by omega)⟩
  clear st
  rintro ⟨k, d⟩ w4 ⟨st, hk, hg⟩
  try dsimp only at st hk hg ⊢
  refine Wc.seq ?_
  refine Wc.seq ?_
  refine Wc.region rfl ?_
  refine Wl.pure (PR.moveI rfl) ?_
  refine Wl.pure (PR.lss (a := ((k : Nat) : Int)) (b := 64) rfl rfl) ?_
  refine Wl.nil ?_
  refine tn ?_
  refine Wc.condD (p := ((k : Nat) : Int) < 64) rfl (fun h5 => ?_) (fun h5 => ?_)
  · refine Wc.skip ?_
    refine tn ?_
    refine Wc.seq ?_
    refine Wc.block ?_
    refine Wc.region rfl ?_
    refine Wl.pure (PR.moveI rfl) ?_
    refine Wl.pure (PR.moveI rfl) ?_
    refine Wl.pure (PR.idxAddrA1 (i := k) tE_23 rfl rfl (by omega)) ?_
    refine Wl.load (i := 2) st tA_5 rfl rfl (arrU_get0 (by omega)) ?_
    refine Wl.pure (PR.idxAddrA1 (i := k) tE_33 rfl rfl (by omega)) ?_
    refine Wl.store (i := 0) (cs' := arrU .u8 64 (upd d (k) (c (k)))) st tA_5 rfl rfl rfl rfl (lt_of_len (arrU_len _) (by omega)) (arrU_set0) ?_
    clear st
    intro w6 st
    replace st : St [] w w6 [(b3, arrU .u8 64 (upd d (k) (c (k))), 33), (b2, arrU .u8 64 (fun _ => 0), 33), (b1, arrU .u8 64 c, 23)] := st
    refine Wl.nil ?_
    refine bn ?_
    refine tn ?_
    refine Wc.region rfl ?_
    refine Wl.pure (PR.moveI rfl) ?_
    refine Wl.pure (PR.add (a := ((k : Nat) : Int)) (b := 1) rfl rfl (by simp only [fitI]; omega)) ?_
    refine Wl.pure (PR.assI rfl) ?_
    refine Wl.nil ?_
    refine tn ?_
    exact ⟨(k + 1, upd d (k) (c (k))), (.cons rfl (.cons rfl (.cons rfl (.cons rfl (.nil _))))), ⟨st, (by first | omega | (dsimp only; omega)), (upd_snoc hg rfl)⟩, (by first | omega | (dsimp only; omega))⟩
  · refine Wc.exit ?_
    refine tx ?_
    refine tx ?_
    refine bh ?_
    refine tn ?_
    refine Wc.seq ?_
    refine Wc.region rfl ?_
    refine Wl.loadA (i := 0) st tA_33 rfl rfl (all_sub (arrU_len _)) (arrU_len _) ?_
    refine Wl.storeA (i := 1) (cs' := arrU .u8 64 d) st tA_33 rfl rfl (arrU_len _) (arrU_one _) rfl (le_of_len (arrU_len _) (by omega)) (all_put (arrU_len _)) ?_
    clear st
    intro w7 st
    replace st : St [] w w7 [(b3, arrU .u8 64 d, 33), (b2, arrU .u8 64 d, 33), (b1, arrU .u8 64 c, 23)] := st
    refine Wl.nil ?_
    refine tn ?_
    refine Wc.ret ?_
    refine postL.cell (i := 1) st rfl tA_33 rfl rfl (arrU_len _) ?_
    refine RetV.of ?_ st.below
    exact congrArg (fun l : List Value => Value.agg l.toArray) (arrU_congr fun j hj => hg j (by omega))

set_option maxHeartbeats 400000 in
set_option maxRecDepth 4000 in
theorem c_laws_FnExactShadeLayers {c : Nat → Nat} {x : Nat} {w : World} (hc : ∀ k, c k < 256) (hx : x < 4294967296) :
    CE Try.prog 9 [.agg (arrU .u8 64 c).toArray, .int .u32 (((x : Nat) : Int))] w (RetV w (.bool true)) := by
  refine CE.enter 51 [(0, .agg (arrU .u8 64 c).toArray), (1, .int .u32 (((x : Nat) : Int)))] en_9 Try.func9 rfl rfl (Nat.le_of_ble_eq_true rfl) rfl ?_
  have st := St.start w
  refine Wc.seq ?_
  refine Wc.region rfl ?_
  refine Wl.boxA st rfl ?_
  clear st
  intro b2 w1 st
  refine Wl.pure (PR.assB rfl) ?_
  refine Wl.nil ?_
  refine tn ?_
  refine Wc.seq ?_
  refine Wc.region rfl ?_
  refine Wl.loadA (i := 0) st tA_23 rfl rfl (all_sub (arrU_len _)) (arrU_len _) ?_
  refine Wl.callV (c_laws_toShades (c := c) hc) rfl ?_
  intro w2 hbel
  replace st := st.call hbel
  clear hbel
  refine Wl.pure (PR.moveI rfl) ?_
  refine Wl.callV (c_spec_ShadeLayers (c := c) (x := x) hc hx) rfl ?_
  intro w3 hbel
  replace st := st.call hbel
  clear hbel
  refine Wl.pure (PR.moveV (.tuple #[.agg (layV (selI (bif shOk c then 0 else 1) 8) ((selF (bif shOk c then 0 else 1) (dwC (shaF c) 8 x 0)))).toArray, .agg (layV (selI (bif shOk c then 0 else 1) 8) ((selF (bif shOk c then 0 else 1) (dwC (shaF c) 8 x 1)))).toArray, .int .u32 (((selN (bif shOk c then 0 else 1) (sdK 8 x 64) : Nat) : Int)), .int .i64 ((((bif shOk c then 0 else 1) : Nat) : Int))]) rfl) ?_
  refine Wl.pure (PR.extr (i := 0) (vs := [.agg (layV (selI (bif shOk c then 0 else 1) 8) ((selF (bif shOk c then 0 else 1) (dwC (shaF c) 8 x 0)))).toArray, .agg (layV (selI (bif shOk c then 0 else 1) 8) ((selF (bif shOk c then 0 else 1) (dwC (shaF c) 8 x 1)))).toArray, .int .u32 (((selN (bif shOk c then 0 else 1) (sdK 8 x 64) : Nat) : Int)), .int .i64 ((((bif shOk c then 0 else 1) : Nat) : Int))]) rfl rfl) ?_
  refine Wl.pure (PR.extr (i := 1) (vs := [.agg (layV (selI (bif shOk c then 0 else 1) 8) ((selF (bif shOk c then 0 else 1) (dwC (shaF c) 8 x 0)))).toArray, .agg (layV (selI (bif shOk c then 0 else 1) 8) ((selF (bif shOk c then 0 else 1) (dwC (shaF c) 8 x 1)))).toArray, .int .u32 (((selN (bif shOk c then 0 else 1) (sdK 8 x 64) : Nat) : Int)), .int .i64 ((((bif shOk c then 0 else 1) : Nat) : Int))]) rfl rfl) ?_
  refine Wl.pure (PR.extr (i := 2) (vs := [.agg (layV (selI (bif shOk c then 0 else 1) 8) ((selF (bif shOk c then 0 else 1) (dwC (shaF c) 8 x 0)))).toArray, .agg (layV (selI (bif shOk c then 0 else 1) 8) ((selF (bif shOk c then 0 else 1) (dwC (shaF c) 8 x 1)))).toArray, .int .u32 (((selN (bif shOk c then 0 else 1) (sdK 8 x 64) : Nat) : Int)), .int .i64 ((((bif shOk c then 0 else 1) : Nat) : Int))]) rfl rfl) ?_
  refine Wl.pure (PR.extr (i := 3) (vs := [.agg (layV (selI (bif shOk c then 0 else 1) 8) ((selF (bif shOk c then 0 else 1) (dwC (shaF c) 8 x 0)))).toArray, .agg (layV (selI (bif shOk c then 0 else 1) 8) ((selF (bif shOk c then 0 else 1) (dwC (shaF c) 8 x 1)))).toArray, .int .u32 (((selN (bif shOk c then 0 else 1) (sdK 8 x 64) : Nat) : Int)), .int .i64 ((((bif shOk c then 0 else 1) : Nat) : Int))]) rfl rfl) ?_
  refine Wl.alloc st tZ_30 rfl ?_
  clear st
  intro b5 w4 st
  refine Wl.alloc st tZ_30 rfl ?_
  clear st
  intro b6 w5 st
  refine Wl.storeA (i := 1) (cs' := layV (selI (bif shOk c then 0 else 1) 8) ((selF (bif shOk c then 0 else 1) (dwC (shaF c) 8 x 0)))) st tA_30 rfl rfl layV_len layV_one rfl (le_of_len layV_len (by omega)) (all_put layV_len) ?_
  clear st
  intro w6 st
  replace st : St [] w w6 [(b6, layV (0) ((fun _ => 0)), 30), (b5, layV (selI (bif shOk c then 0 else 1) 8) ((selF (bif shOk c then 0 else 1) (dwC (shaF c) 8 x 0))), 30), (b2, arrU .u8 64 c, 23)] := st
  refine Wl.storeA (i := 0) (cs' := layV (selI (bif shOk c then 0 else 1) 8) ((selF (bif shOk c then 0 else 1) (dwC (shaF c) 8 x 1)))) st tA_30 rfl rfl layV_len layV_one rfl (le_of_len layV_len (by omega)) (all_put layV_len) ?_
  clear st
  intro w7 st
  replace st : St [] w w7 [(b6, layV (selI (bif shOk c then 0 else 1) 8) ((selF (bif shOk c then 0 else 1) (dwC (shaF c) 8 x 1))), 30), (b5, layV (selI (bif shOk c then 0 else 1) 8) ((selF (bif shOk c then 0 else 1) (dwC (shaF c) 8 x 0))), 30), (b2, arrU .u8 64 c, 23)] := st
  refine Wl.pure (PR.assI rfl) ?_
  refine Wl.pure (PR.assI rfl) ?_
  refine Wl.nil ?_
  refine tn ?_
  refine Wc.seq ?_
  refine Wc.region rfl ?_
  refine Wl.loadA (i := 2) st tA_23 rfl rfl (all_sub (arrU_len _)) (arrU_len _) ?_
  refine Wl.callV (c_laws_toShades (c := c) hc) rfl ?_
  intro w8 hbel
  replace st := st.call hbel
  clear hbel
  refine Wl.pure (PR.moveI rfl) ?_
  refine Wl.callV (c_impl_ShadeLayers (c := c) (x := x) hc hx) rfl ?_
  intro w9 hbel
  replace st := st.call hbel
  clear hbel
  refine Wl.pure (PR.moveV (.tuple #[.agg (layV (selI (bif shOk c then 0 else 1) 8) ((selF (bif shOk c then 0 else 1) (dwC (shaF c) 8 x 0)))).toArray, .agg (layV (selI (bif shOk c then 0 else 1) 8) ((selF (bif shOk c then 0 else 1) (dwC (shaF c) 8 x 1)))).toArray, .int .u32 (((selN (bif shOk c then 0 else 1) (sdK 8 x 64) : Nat) : Int)), .int .i64 ((((bif shOk c then 0 else 1) : Nat) : Int))]) rfl) ?_
  refine Wl.pure (PR.extr (i := 0) (vs := [.agg (layV (selI (bif shOk c then 0 else 1) 8) ((selF (bif shOk c then 0 else 1) (dwC (shaF c) 8 x 0)))).toArray, .agg (layV (selI (bif shOk c then 0 else 1) 8) ((selF (bif shOk c then 0 else 1) (dwC (shaF c) 8 x 1)))).toArray, .int .u32 (((selN (bif shOk c then 0 else 1) (sdK 8 x 64) : Nat) : Int)), .int .i64 ((((bif shOk c then 0 else 1) : Nat) : Int))]) rfl rfl) ?_
  refine Wl.pure (PR.extr (i := 1) (vs := [.agg (layV (selI (bif shOk c then 0 else 1) 8) ((selF (bif shOk c then 0 else 1) (dwC (shaF c) 8 x 0)))).toArray, .agg (layV (selI (bif shOk c then 0 else 1) 8) ((selF (bif shOk c then 0 else 1) (dwC (shaF c) 8 x 1)))).toArray, .int .u32 (((selN (bif shOk c then 0 else 1) (sdK 8 x 64) : Nat) : Int)), .int .i64 ((((bif shOk c then 0 else 1) : Nat) : Int))]) rfl rfl) ?_
  refine Wl.pure (PR.extr (i := 2) (vs := [.agg (layV (selI (bif shOk c then 0 else 1) 8) ((selF (bif shOk c then 0 else 1) (dwC (shaF c) 8 x 0)))).toArray, .agg (layV (selI (bif shOk c then 0 else 1) 8) ((selF (bif shOk c then 0 else 1) (dwC (shaF c) 8 x 1)))).toArray, .int .u32 (((selN (bif shOk c then 0 else 1) (sdK 8 x 64) : Nat) : Int)), .int .i64 ((((bif shOk c then 0 else 1) : Nat) : Int))]) rfl rfl) ?_
  refine Wl.pure (PR.extr (i := 3) (vs := [.agg (layV (selI (bif shOk c then 0 else 1) 8) ((selF (bif shOk c then 0 else 1) (dwC (shaF c) 8 x 0)))).toArray, .agg (layV (selI (bif shOk c then 0 else 1) 8) ((selF (bif shOk c then 0 else 1) (dwC (shaF c) 8 x 1)))).toArray, .int .u32 (((selN (bif shOk c then 0 else 1) (sdK 8 x 64) : Nat) : Int)), .int .i64 ((((bif shOk c then 0 else 1) : Nat) : Int))]) rfl rfl) ?_
  refine Wl.alloc st tZ_30 rfl ?_
  clear st
  intro b9 w10 st
  refine Wl.alloc st tZ_30 rfl ?_
  clear st
  intro b10 w11 st
  refine Wl.storeA (i := 1) (cs' := layV (selI (bif shOk c then 0 else 1) 8) ((selF (bif shOk c then 0 else 1) (dwC (shaF c) 8 x 0)))) st tA_30 rfl rfl layV_len layV_one rfl (le_of_len layV_len (by omega)) (all_put layV_len) ?_
  clear st
  intro w12 st
  replace st : St [] w w12 [(b10, layV (0) ((fun _ => 0)), 30), (b9, layV (selI (bif shOk c then 0 else 1) 8) ((selF (bif shOk c then 0 else 1) (dwC (shaF c) 8 x 0))), 30), (b6, layV (selI (bif shOk c then 0 else 1) 8) ((selF (bif shOk c then 0 else 1) (dwC (shaF c) 8 x 1))), 30), (b5, layV (selI (bif shOk c then 0 else 1) 8) ((selF (bif shOk c then 0 else 1) (dwC (shaF c) 8 x 0))), 30), (b2, arrU .u8 64 c, 23)] := st
  refine Wl.storeA (i := 0) (cs' := layV (selI (bif shOk c then 0 else 1) 8) ((selF (bif shOk c then 0 else 1) (dwC (shaF c) 8 x 1)))) st tA_30 rfl rfl layV_len layV_one rfl (le_of_len layV_len (by omega)) (all_put layV_len) ?_
  clear st
  intro w13 st
  replace st : St [] w w13 [(b10, layV (selI (bif shOk c then 0 else 1) 8) ((selF (bif shOk c then 0 else 1) (dwC (shaF c) 8 x 1))), 30), (b9, layV (selI (bif shOk c then 0 else 1) 8) ((selF (bif shOk c then 0 else 1) (dwC (shaF c) 8 x 0))), 30), (b6, layV (selI (bif shOk c then 0 else 1) 8) ((selF (bif shOk c then 0 else 1) (dwC (shaF c) 8 x 1))), 30), (b5, layV (selI (bif shOk c then 0 else 1) 8) ((selF (bif shOk c then 0 else 1) (dwC (shaF c) 8 x 0))), 30), (b2, arrU .u8 64 c, 23)] := st
  refine Wl.pure (PR.assI rfl) ?_
  refine Wl.pure (PR.assI rfl) ?_
  refine Wl.nil ?_
  refine tn ?_
  refine Wc.seq ?_
  refine Wc.seq ?_
  refine Wc.region rfl ?_
  refine Wl.loadA (i := 1) st tA_30 rfl rfl (all_sub layV_len) layV_len ?_
  refine Wl.loadA (i := 3) st tA_30 rfl rfl (all_sub layV_len) layV_len ?_
  refine Wl.callV (c_laws_eqLayer (p := selI (bif shOk c then 0 else 1) 8) (c := (selF (bif shOk c then 0 else 1) (dwC (shaF c) 8 x 0)))) rfl ?_
  intro w14 hbel
  replace st := st.call hbel
  clear hbel
  refine Wl.pure (PR.not_ rfl) ?_
  refine Wl.pure (PR.moveB rfl) ?_
  refine Wl.on rfl rfl ?_
  refine Wl.loadA (i := 0) st tA_30 rfl rfl (all_sub layV_len) layV_len ?_
  refine Wl.on rfl rfl ?_
  refine Wl.loadA (i := 2) st tA_30 rfl rfl (all_sub layV_len) layV_len ?_
  refine Wl.on rfl rfl ?_
  refine Wl.callV (c_laws_eqLayer (p := selI (bif shOk c then 0 else 1) 8) (c := (selF (bif shOk c then 0 else 1) (dwC (shaF c) 8 x 1)))) rfl ?_
  intro w15 hbel
  replace st := st.call hbel
  clear hbel
  refine Wl.on rfl rfl ?_
  refine Wl.pure (PR.not_ rfl) ?_
  refine Wl.pure (PR.pickFB rfl rfl) ?_
  refine Wl.pure (PR.moveB rfl) ?_
  refine Wl.on rfl rfl ?_
  refine Wl.pure (PR.moveI rfl) ?_
  refine Wl.on rfl rfl ?_
  refine Wl.pure (PR.moveI rfl) ?_
  refine Wl.on rfl rfl ?_
  refine Wl.pure (PR.neqS (a := ((selN (bif shOk c then 0 else 1) (sdK 8 x 64) : Nat) : Int)) rfl rfl) ?_
  refine Wl.pure (PR.pickFB rfl rfl) ?_
  refine Wl.pure (PR.moveB rfl) ?_
  refine Wl.on rfl rfl ?_
  refine Wl.pure (PR.moveI rfl) ?_
  refine Wl.on rfl rfl ?_
  refine Wl.pure (PR.moveI rfl) ?_
  refine Wl.on rfl rfl ?_
  refine Wl.pure (PR.neqS (a := (((bif shOk c then 0 else 1) : Nat) : Int)) rfl rfl) ?_
  refine Wl.pure (PR.pickFB rfl rfl) ?_
  refine Wl.nil ?_
  refine tn ?_
  refine Wc.condF rfl ?_
  refine Wc.skip ?_
  refine tn ?_
  refine Wc.seq ?_
  refine Wc.region rfl ?_
  refine Wl.pure (PR.assB rfl) ?_
  refine Wl.nil ?_
  refine tn ?_
  refine Wc.ret ?_
  refine postL.tmp rfl rfl ?_
  exact RetV.of rfl st.below

end Go.Proofs.Ytajkjhjnbfcpfaa
