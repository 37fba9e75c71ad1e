/-
  Contracts of functions, printed by a program of ours.
-/
import Derived.Test.YtagghfllgafmgaaCL1
import Derived.Test.YtagghfllgafmgaaCov
import Derived.Test.YtagghfllgafmgaaDraw
namespace Go.Proofs.Ytagghfllgafmgaa
open Go.RowKit
set_option linter.unusedVariables false
set_option linter.unusedSimpArgs false

set_option maxHeartbeats 400000 in
set_option maxRecDepth 4000 in
theorem c_impl_firstOf {bk : Nat} {o : Nat} {n : Nat} {cp : Nat} {c : Nat → Bool} {e : Nat → Int} {w : World} (hR : RdA w bk o (prV n c e)) (hn : n ≤ 1000) :
    CE Try.prog 51 [.slice (some ⟨bk, o, none⟩) (n) (cp)] w (RetV w (.int .i64 (firstZ n c e))) := by
  refine CE.enter 16 [(0, .slice (some ⟨bk, o, none⟩) (n) (cp))] en_51 Try.func51 rfl rfl (Nat.le_of_ble_eq_true rfl) rfl ?_
  have st := St.start w
  refine Wc.seq ?_
  refine Wc.region rfl ?_
  refine Wl.pure (PR.assI rfl) ?_
  refine Wl.nil ?_
  refine tn ?_
  refine Wc.seq ?_
  refine Wc.seq ?_
  refine Wc.region rfl ?_
  refine Wl.pure (PR.moveL rfl) ?_
  refine Wl.pure (PR.lenL tS_127 rfl) ?_
  refine Wl.pure (PR.moveI rfl) ?_
  refine Wl.nil ?_
  refine tn ?_
  refine Wc.block ?_
  refine Wc.loopF (γ := Nat) (fun g => [(5, .slice (some ⟨bk, o, none⟩) (n) (cp)), (6, .int .i64 (((n : Nat) : Int))), (7, .int .i64 (((g : Nat) : Int)))]) (fun g w_ => St [] w w_ [] ∧ (g ≤ n) ∧ (firstZ n c e = firstF c e (n - g) g)) (fun g => n - g) ?_ ?_
  · exact ⟨0, (.cons rfl (.cons rfl (.cons rfl (.nil _)))), st, (by first | omega | (dsimp only; omega)), rfl⟩
  clear st
  rintro k w1 ⟨st, hk, hf⟩
  try dsimp only at st hk hf ⊢
  refine Wc.seq ?_
  refine Wc.region rfl ?_
  refine Wl.pure (PR.lss (a := ((k : Nat) : Int)) (b := ((n : Nat) : Int)) rfl rfl) ?_
  refine Wl.nil ?_
  refine tn ?_
  refine Wc.seq ?_
  refine Wc.condD (p := ((k : Nat) : Int) < ((n : Nat) : Int)) rfl (fun h2 => ?_) (fun h2 => ?_)
  · refine Wc.skip ?_
    refine tn ?_
    refine Wc.seq ?_
    refine Wc.block ?_
    refine Wc.seq ?_
    refine Wc.region rfl ?_
    refine Wl.pure (PR.idxAddrS (i := k) tS_127 rfl rfl (by omega)) ?_
    refine Wl.loadAC (vs := [.bool (c k), .int .i64 (e k)]) tA_95 rfl rfl ((hR.st st).sub (recV_sub (n := n) (i := k) (prV_row _ _) (by omega)) rfl) ?_
    refine Wl.alloc st tZ_95 rfl ?_
    clear st
    intro b4 w3 st
    refine Wl.storeA (i := 0) (cs' := [.bool (c k), .int .i64 (e k)]) st tA_95 rfl rfl rfl (by simp [Value.oneCell']) rfl (by simp) (all_put rfl) ?_
    clear st
    intro w4 st
    replace st : St [] w w4 [(b4, [.bool (c k), .int .i64 (e k)], 95)] := st
    refine Wl.nil ?_
    refine tn ?_
    refine Wc.seq ?_
    refine Wc.region rfl ?_
    refine Wl.pure (PR.fieldAddr tF_95_0 rfl) ?_
    refine Wl.load (i := 0) st tA_4 rfl rfl (rfl) ?_
    refine Wl.nil ?_
    refine tn ?_
    refine Wc.condB (b := c k) rfl (fun h5 => ?_) (fun h5 => ?_)
    · refine Wc.seq ?_
      refine Wc.region rfl ?_
      refine Wl.pure (PR.fieldAddr tF_95_1 rfl) ?_
      refine Wl.load (i := 0) st tA_2 rfl rfl (rfl) ?_
      refine Wl.pure (PR.assI rfl) ?_
      refine Wl.nil ?_
      refine tn ?_
      refine Wc.ret ?_
      refine br ?_
      refine tr ?_
      refine tr ?_
      refine br ?_
      refine tr ?_
      refine postL.tmp rfl rfl ?_
      refine RetV.of ?_ st.below
      refine congrArg (Value.int .i64) ?_
      first | exact firstF_t (by omega) hf (by assumption) | exact firstF_e (by omega) hf
    · refine Wc.skip ?_
      refine bn ?_
      refine tn ?_
      refine Wc.region rfl ?_
      refine Wl.pure (PR.add (a := ((k : Nat) : Int)) (b := 1) rfl rfl (by simp only [fitI]; omega)) ?_
      refine Wl.pure (PR.moveI rfl) ?_
      refine Wl.nil ?_
      refine tn ?_
      replace st := st.tail
      exact ⟨k + 1, (.cons rfl (.cons rfl (.cons rfl (.nil _)))), ⟨st, (by first | omega | (dsimp only; omega)), (firstF_f (by omega) hf (by assumption))⟩, (by first | omega | (dsimp only; omega))⟩
  · refine Wc.exit ?_
    refine tx ?_
    refine tx ?_
    refine bh ?_
    refine tn ?_
    refine Wc.seq ?_
    refine Wc.region rfl ?_
    refine Wl.pure (PR.assI rfl) ?_
    refine Wl.nil ?_
    refine tn ?_
    refine Wc.ret ?_
    refine postL.tmp rfl rfl ?_
    refine RetV.of ?_ st.below
    refine congrArg (Value.int .i64) ?_
    first | exact firstF_t (by omega) hf (by assumption) | exact firstF_e (by omega) hf

set_option maxHeartbeats 400000 in
set_option maxRecDepth 4000 in
theorem c_impl_mark {p : Int} {c : Nat → Nat} {seed : Nat} {w : World} (hp : -128 ≤ p ∧ p ≤ 127) (hc : ∀ k, c k < 256) (hs : seed < 4294967296) :
    CE Try.prog 49 [.agg (layV (p) (c)).toArray, .int .u32 (((seed : Nat) : Int))] w (RetV w (.int .u32 (((markK seed p c 64 : Nat) : Int)))) := by
  refine CE.enter 26 [(0, .agg (layV (p) (c)).toArray), (1, .int .u32 (((seed : Nat) : Int)))] en_49 Try.func49 rfl rfl (Nat.le_of_ble_eq_true rfl) rfl ?_
  have st := St.start w
  refine Wc.seq ?_
  refine Wc.region rfl ?_
  refine Wl.boxA st rfl ?_
  clear st
  intro b2 w1 st
  refine Wl.pure (PR.assI rfl) ?_
  refine Wl.nil ?_
  refine tn ?_
  refine Wc.seq ?_
  refine Wc.region rfl ?_
  refine Wl.pure (PR.moveI rfl) ?_
  refine Wl.pure (PR.mulU (a := seed) (b := 16777619) rfl rfl (by decide)) ?_
  refine Wl.pure (PR.fieldAddr tF_29_0 rfl) ?_
  refine Wl.load (i := 0) st tA_22 rfl rfl (rfl) ?_
  refine Wl.pure (PR.convN (n := p) (B := 4294967296) tI_26 rfl (by decide) Try.underlying22) ?_
  refine Wl.pure (PR.xor (a := ((seed * 16777619) % 4294967296)) (b := (p % 4294967296).toNat) rfl rfl (by decide) (Nat.mod_lt _ (by decide)) (toNat_mod_lt (by decide))) ?_
  refine Wl.pure (PR.assI rfl) ?_
  refine Wl.nil ?_
  refine tn ?_
  refine Wc.seq ?_
  refine Wc.seq ?_
  refine Wc.region rfl ?_
  refine Wl.pure (PR.fieldAddr tF_29_1 rfl) ?_
  refine Wl.loadA (i := 0) st tA_23 rfl rfl layV_sub_c (arrU_len _) ?_
  refine Wl.pure (PR.moveI rfl) ?_
  refine Wl.nil ?_
  refine tn ?_
  refine Wc.block ?_
  refine Wc.loopF (γ := Nat) (fun g => [(4, .int .u32 (0)), (5, .int .u32 (((markK seed p c g : Nat) : Int))), (15, .agg (arrU .u8 64 c).toArray), (16, .int .i64 (((g : Nat) : Int)))]) (fun g w_ => St [] w w_ [(b2, layV (p) (c), 29)] ∧ (g ≤ 64)) (fun g => 64 - g) ?_ ?_
  · exact ⟨0, (.cons rfl (.cons rfl (.cons rfl (.cons rfl (.nil _))))), st, (by first | omega | (dsimp only; omega))⟩
  clear st
  rintro k w2 ⟨st, hk⟩
  try dsimp only at st hk ⊢
  refine Wc.seq ?_
  refine Wc.region rfl ?_
  refine Wl.pure (PR.lss (a := ((k : Nat) : Int)) (b := 64) rfl rfl) ?_
  refine Wl.nil ?_
  refine tn ?_
  refine Wc.seq ?_
  refine Wc.condD (p := ((k : Nat) : Int) < 64) rfl (fun h3 => ?_) (fun h3 => ?_)
  · refine Wc.skip ?_
    refine tn ?_
    refine Wc.seq ?_
    refine Wc.block ?_
    refine Wc.seq ?_
    refine Wc.region rfl ?_
    refine Wl.pure (PR.idxAgg (i := k) tE_23 rfl rfl (by omega) (arrU_get1 (by omega))) ?_
    refine Wl.pure (PR.assI rfl) ?_
    refine Wl.nil ?_
    refine tn ?_
    refine Wc.region rfl ?_
    refine Wl.pure (PR.moveI rfl) ?_
    refine Wl.pure (PR.mulU (a := markK seed p c k) (b := 16777619) rfl rfl (by decide)) ?_
    refine Wl.pure (PR.moveI rfl) ?_
    refine Wl.pure (PR.conv (n := ((c (k) : Nat) : Int)) tI_26 rfl (fitN (hc (k)) rfl) Try.underlying5) ?_
    refine Wl.pure (PR.xor (a := (((markK seed p c k) * 16777619) % 4294967296)) (b := c (k)) rfl rfl (by decide) (Nat.mod_lt _ (by decide)) (Nat.lt_of_lt_of_le (hc (k)) (by decide))) ?_
    refine Wl.pure (PR.assI rfl) ?_
    refine Wl.nil ?_
    refine bn ?_
    refine tn ?_
    refine Wc.region rfl ?_
    refine Wl.pure (PR.add (a := ((k : Nat) : Int)) (b := 1) rfl rfl (by simp only [fitI]; omega)) ?_
    refine Wl.pure (PR.moveI rfl) ?_
    refine Wl.nil ?_
    refine tn ?_
    exact ⟨k + 1, (.cons rfl (.cons rfl (.cons rfl (.cons rfl (.nil _))))), ⟨st, (by first | omega | (dsimp only; omega))⟩, (by first | omega | (dsimp only; omega))⟩
  · refine Wc.exit ?_
    refine tx ?_
    refine tx ?_
    refine bh ?_
    refine tn ?_
    refine Wc.seq ?_
    refine Wc.region rfl ?_
    refine Wl.pure (PR.moveI rfl) ?_
    refine Wl.pure (PR.assI rfl) ?_
    refine Wl.nil ?_
    refine tn ?_
    refine Wc.ret ?_
    refine postL.tmp rfl rfl ?_
    refine RetV.of ?_ st.below
    obtain rfl : k = 64 := by omega
    rfl

set_option maxHeartbeats 400000 in
set_option maxRecDepth 4000 in
theorem c_spec_l07Mark {b : Nat} {o : Nat} {p : Int} {c : Nat → Nat} {seed : Nat} {w : World} (hR : RdA w b o (layV p c)) (hp : -128 ≤ p ∧ p ≤ 127) (hc : ∀ k, c k < 256) (hs : seed < 4294967296) :
    CE Try.prog 46 [.pointer (some ⟨b, o, none⟩), .int .u32 (((seed : Nat) : Int))] w (RetV w (.int .u32 (((markK seed p c 64 : Nat) : Int)))) := by
  refine CE.enter 30 [(0, .pointer (some ⟨b, o, none⟩)), (1, .int .u32 (((seed : Nat) : Int)))] en_46 Try.func46 rfl rfl (Nat.le_of_ble_eq_true rfl) rfl ?_
  have st := St.start w
  refine Wc.seq ?_
  refine Wc.region rfl ?_
  refine Wl.pure (PR.assI rfl) ?_
  refine Wl.nil ?_
  refine tn ?_
  refine Wc.seq ?_
  refine Wc.region rfl ?_
  refine Wl.pure (PR.moveI rfl) ?_
  refine Wl.pure (PR.mulU (a := seed) (b := 16777619) rfl rfl (by decide)) ?_
  refine Wl.pure (PR.moveP rfl) ?_
  refine Wl.pure (PR.nil_ rfl) ?_
  refine Wl.pure (PR.fieldAddr tF_29_0 rfl) ?_
  refine Wl.loadC tA_22 rfl ((hR.st st).at_ (j := 0) (rfl) rfl) ?_
  refine Wl.pure (PR.convN (n := p) (B := 4294967296) tI_26 rfl (by decide) Try.underlying22) ?_
  refine Wl.pure (PR.xor (a := ((seed * 16777619) % 4294967296)) (b := (p % 4294967296).toNat) rfl rfl (by decide) (Nat.mod_lt _ (by decide)) (toNat_mod_lt (by decide))) ?_
  refine Wl.pure (PR.assI rfl) ?_
  refine Wl.nil ?_
  refine tn ?_
  refine Wc.seq ?_
  refine Wc.seq ?_
  refine Wc.region rfl ?_
  refine Wl.pure (PR.assI rfl) ?_
  refine Wl.nil ?_
  refine tn ?_
  refine Wc.block ?_
  refine Wc.loopF (γ := Nat) (fun g => [(0, .pointer (some ⟨b, o, none⟩)), (4, .int .u32 (0)), (5, .int .u32 (((markK seed p c g : Nat) : Int))), (6, .int .i64 (((g : Nat) : Int)))]) (fun g w_ => St [] w w_ [] ∧ (g ≤ 64)) (fun g => 64 - g) ?_ ?_
  · exact ⟨0, (.cons rfl (.cons rfl (.cons rfl (.cons rfl (.nil _))))), st, (by first | omega | (dsimp only; omega))⟩
  clear st
  rintro k w1 ⟨st, hk⟩
  try dsimp only at st hk ⊢
  refine Wc.seq ?_
  refine Wc.seq ?_
  refine Wc.region rfl ?_
  refine Wl.pure (PR.moveI rfl) ?_
  refine Wl.pure (PR.lss (a := ((k : Nat) : Int)) (b := 64) rfl rfl) ?_
  refine Wl.nil ?_
  refine tn ?_
  refine Wc.condD (p := ((k : Nat) : Int) < 64) rfl (fun h2 => ?_) (fun h2 => ?_)
  · refine Wc.skip ?_
    refine tn ?_
    refine Wc.seq ?_
    refine Wc.block ?_
    refine Wc.region rfl ?_
    refine Wl.pure (PR.moveI rfl) ?_
    refine Wl.pure (PR.mulU (a := markK seed p c k) (b := 16777619) rfl rfl (by decide)) ?_
    refine Wl.pure (PR.moveP rfl) ?_
    refine Wl.pure (PR.moveI rfl) ?_
    refine Wl.pure (PR.nil_ rfl) ?_
    refine Wl.pure (PR.fieldAddr tF_29_1 rfl) ?_
    refine Wl.pure (PR.idxAddrA1 (i := k) tE_23 rfl rfl (by omega)) ?_
    refine Wl.loadC tA_5 rfl ((hR.st st).at_ (layV_get_c (by omega)) (Nat.add_assoc _ _ _).symm) ?_
    refine Wl.pure (PR.conv (n := ((c (k) : Nat) : Int)) tI_26 rfl (fitN (hc (k)) rfl) Try.underlying5) ?_
    refine Wl.pure (PR.xor (a := (((markK seed p c k) * 16777619) % 4294967296)) (b := c (k)) rfl rfl (by decide) (Nat.mod_lt _ (by decide)) (Nat.lt_of_lt_of_le (hc (k)) (by decide))) ?_
    refine Wl.pure (PR.assI rfl) ?_
    refine Wl.nil ?_
    refine bn ?_
    refine tn ?_
    refine Wc.region rfl ?_
    refine Wl.pure (PR.moveI rfl) ?_
    refine Wl.pure (PR.add (a := ((k : Nat) : Int)) (b := 1) rfl rfl (by simp only [fitI]; omega)) ?_
    refine Wl.pure (PR.assI rfl) ?_
    refine Wl.nil ?_
    refine tn ?_
    exact ⟨k + 1, (.cons rfl (.cons rfl (.cons rfl (.cons rfl (.nil _))))), ⟨st, (by first | omega | (dsimp only; omega))⟩, (by first | omega | (dsimp only; omega))⟩
  · refine Wc.exit ?_
    refine tx ?_
    refine tx ?_
    refine bh ?_
    refine tn ?_
    refine Wc.seq ?_
    refine Wc.region rfl ?_
    refine Wl.pure (PR.moveI rfl) ?_
    refine Wl.pure (PR.assI rfl) ?_
    refine Wl.nil ?_
    refine tn ?_
    refine Wc.ret ?_
    refine postL.tmp rfl rfl ?_
    refine RetV.of ?_ st.below
    obtain rfl : k = 64 := by omega
    rfl

set_option maxHeartbeats 400000 in
set_option maxRecDepth 4000 in
theorem c_impl_MarksOf_t {A : Option Addr} {n : Nat} {cp : Nat} {p : Nat → Int} {c : Nat → Nat → Nat} {seed : Nat} {w : World} (hR : RdS w A n (layS n p c)) (hp : ∀ i, i < n → -128 ≤ p i ∧ p i ≤ 127) (hc : ∀ i k, c i k < 256) (hn : n ≤ 1048576) (hs : seed < 4294967296) (hcode : mksC n p c = 0) :
    CE Try.prog 15 [.slice (A) (n) (cp), .int .u32 (((seed : Nat) : Int))] w (RetXG w [] 26 1 (n) (arrU .u32 n (fun j => markK seed (p j) (c j) 64)) (fun b_ c_ => .tuple #[.slice (some ⟨b_, 0, none⟩) (n) (c_), .int .i64 (0)]) []) := by
  refine CE.enter 38 [(0, .slice (A) (n) (cp)), (1, .int .u32 (((seed : Nat) : Int)))] en_15 Try.func15 rfl rfl (Nat.le_of_ble_eq_true rfl) rfl ?_
  have st := St.start w
  refine Wc.seq ?_
  refine Wc.region rfl ?_
  refine Wl.pure (PR.assL rfl) ?_
  refine Wl.pure (PR.assI rfl) ?_
  refine Wl.nil ?_
  refine tn ?_
  refine Wc.seq ?_
  refine Wc.seq ?_
  refine Wc.region rfl ?_
  refine Wl.pure (PR.moveL rfl) ?_
  refine Wl.callV (c_impl_areLayers (A := A) (n := n) (cp := cp) (p := p) (c := c) (hR.st st) hp hc (by first | assumption | omega)) rfl ?_
  intro w1 hbel
  replace st := st.call hbel
  clear hbel
  refine Wl.pure (PR.not_ rfl) ?_
  refine Wl.pure (PR.build (ps := [(0, .bool (!(layAll n p c))), (1, .int .i64 (1))]) (cs := [.bool (!(layAll n p c)), .int .i64 (1)]) tB_95 rfl rfl) ?_
  refine Wl.pure (PR.moveL rfl) ?_
  refine Wl.pure (PR.lenL tS_37 rfl) ?_
  refine Wl.pure (PR.gtr (a := ((n : Nat) : Int)) (b := 8) rfl rfl) ?_
  refine Wl.pure (PR.build (ps := [(0, .bool (decide (8 < ((n : Nat) : Int)))), (1, .int .i64 (2))]) (cs := [.bool (decide (8 < ((n : Nat) : Int))), .int .i64 (2)]) tB_95 rfl rfl) ?_
  refine Wl.buildSlice (ps := [(0, .agg ([.bool (!(layAll n p c)), .int .i64 (1)]).toArray), (1, .agg ([.bool (decide (8 < ((n : Nat) : Int))), .int .i64 (2)]).toArray)]) (cs := [.bool (!(layAll n p c)), .int .i64 (1), .bool (decide (8 < ((n : Nat) : Int))), .int .i64 (2)]) st tS_127 tZ_95 rfl rfl rfl ?_
  clear st
  intro b18 w2 st
  refine Wl.callV (c_impl_firstOf (bk := b18) (o := 0) (n := 2) (cp := 2) (c := (fun i => [(!(layAll n p c)), (decide (8 < ((n : Nat) : Int)))].getD i false)) (e := (fun i => [1, 2].getD i 0)) (st.rdA (i := 0) (n := 4) rfl rfl) (by first | assumption | omega)) rfl ?_
  intro w3 hbel
  replace st := st.call hbel
  clear hbel
  refine Wl.pure (PR.assI rfl) ?_
  refine Wl.nil ?_
  refine tn ?_
  refine Wc.seq ?_
  have hq9 := first_mks (n := n) (p := p) (c := c)
  refine Wc.region rfl ?_
  refine Wl.pure (PR.moveI rfl) ?_
  refine Wl.pure (PR.neq (a := firstZ 2 (fun i => [(!(layAll n p c)), (decide (8 < ((n : Nat) : Int)))].getD i false) (fun i => [1, 2].getD i 0)) (b := 0) rfl rfl) ?_
  refine Wl.nil ?_
  refine tn ?_
  refine Wc.condN (p := firstZ 2 (fun i => [(!(layAll n p c)), (decide (8 < ((n : Nat) : Int)))].getD i false) (fun i => [1, 2].getD i 0) = 0) rfl (fun h4 => ?_) (fun h4 => ?_)
  · refine Wc.seq ?_
    exfalso
    omega
  · refine Wc.skip ?_
    refine tn ?_
    refine Wc.seq ?_
    refine Wc.region rfl ?_
    refine Wl.buildSlice (ps := []) (cs := arrU .u32 0 (fun _ => 0) ++ []) st tS_34 tZ_26 rfl rfl rfl ?_
    clear st
    intro b23 w5 st
    refine Wl.pure (PR.assL rfl) ?_
    refine Wl.nil ?_
    refine tn ?_
    refine Wc.seq ?_
    refine Wc.seq ?_
    refine Wc.region rfl ?_
    refine Wl.pure (PR.moveL rfl) ?_
    refine Wl.pure (PR.lenL tS_37 rfl) ?_
    refine Wl.pure (PR.moveI rfl) ?_
    refine Wl.nil ?_
    refine tn ?_
    refine Wc.block ?_
    refine Wc.loopF (γ := Nat × (Nat → Nat) × Nat × Nat × List Value) (fun g => [(1, .int .u32 (((seed : Nat) : Int))), (4, .slice (none) (0) (0)), (5, .int .i64 (0)), (7, .slice (some ⟨g.2.2.1, 0, none⟩) (g.1) (g.2.2.2.1)), (24, .slice (A) (n) (cp)), (25, .int .i64 (((n : Nat) : Int))), (26, .int .i64 (((g.1 : Nat) : Int)))]) (fun g w_ => St [] w w_ [(g.2.2.1, arrU .u32 g.1 g.2.1 ++ g.2.2.2.2, 26), (b18, [.bool (!(layAll n p c)), .int .i64 (1), .bool (decide (8 < ((n : Nat) : Int))), .int .i64 (2)], 95)] ∧ (g.1 ≤ n) ∧ (∀ j, j < g.1 → g.2.1 j = (fun j => markK seed (p j) (c j) 64) j) ∧ (g.1 ≤ g.2.2.2.1) ∧ (g.2.2.2.2.length = (g.2.2.2.1 - g.1) * 1)) (fun g => n - g.1) ?_ ?_
    · exact ⟨(0, (fun _ => 0), b23, 0, []), (.cons rfl (.cons rfl (.cons rfl (.cons rfl (.cons rfl (.cons rfl (.cons rfl (.nil _)))))))), st, (by first | omega | (dsimp only; omega)), (fun j hj => by omega), (Nat.le_refl _), rfl⟩
    clear st
    rintro ⟨k, u, b_o, c_o, sp_o⟩ w6 ⟨st, hk, hu, hc_o, hs_o⟩
    try dsimp only at st hk hu hc_o hs_o ⊢
    refine Wc.seq ?_
    refine Wc.region rfl ?_
    refine Wl.pure (PR.lss (a := ((k : Nat) : Int)) (b := ((n : Nat) : Int)) rfl rfl) ?_
    refine Wl.nil ?_
    refine tn ?_
    refine Wc.seq ?_
    refine Wc.condD (p := ((k : Nat) : Int) < ((n : Nat) : Int)) rfl (fun h7 => ?_) (fun h7 => ?_)
    · refine Wc.skip ?_
      refine tn ?_
      refine Wc.seq ?_
      refine Wc.block ?_
      refine Wc.seq ?_
      refine Wc.region rfl ?_
      obtain ⟨bs8, os9, rfl, hs10⟩ := hR (by omega)
      have := hp (k) (by omega)
      refine Wl.pure (PR.idxAddrS (i := k) tS_37 rfl rfl (by omega)) ?_
      refine Wl.loadAC (vs := layV (p k) ((c k))) tA_29 rfl layV_len ((hs10.st st).sub (recV_sub (n := n) (i := k) (layS_row _ _) (by omega)) rfl) ?_
      refine Wl.alloc st tZ_29 rfl ?_
      clear st
      intro b9 w11 st
      refine Wl.storeA (i := 0) (cs' := layV (p k) ((c k))) st tA_29 rfl rfl layV_len layV_one rfl (le_of_len layV_len (by omega)) (all_put layV_len) ?_
      clear st
      intro w12 st
      replace st : St [] w w12 [(b9, layV (p k) ((c k)), 29), (b_o, arrU .u32 k u ++ sp_o, 26), (b18, [.bool (!(layAll n p c)), .int .i64 (1), .bool (decide (8 < ((n : Nat) : Int))), .int .i64 (2)], 95)] := st
      refine Wl.nil ?_
      refine tn ?_
      refine Wc.region rfl ?_
      refine Wl.pure (PR.moveL rfl) ?_
      refine Wl.loadA (i := 0) st tA_29 rfl rfl (all_sub layV_len) layV_len ?_
      refine Wl.pure (PR.moveI rfl) ?_
      refine Wl.callV (c_impl_mark (p := p k) (c := (c k)) (seed := seed) (by first | assumption | omega) (hc k) hs) rfl ?_
      intro w13 hbel
      replace st := st.call hbel
      clear hbel
      refine Wl.buildSlice (ps := [(0, .int .u32 (((markK seed (p k) (c k) 64 : Nat) : Int)))]) (cs := [.int .u32 (((markK seed (p k) (c k) 64 : Nat) : Int))]) st tS_34 tZ_26 rfl rfl rfl ?_
      clear st
      intro b34 w14 st
      refine Wl.append (n := k) (c := c_o) (m := 1) (cs := arrU .u32 k u) (sp := sp_o) (vs := [.int .u32 (((markK seed (p k) (c k) 64 : Nat) : Int))]) (i := 2) st tS_34 tZ_26 rfl rfl rfl (by rw [(arrU_len _), Nat.mul_one]) hs_o hc_o rfl (Src.ofRdA (tyS_und tS_34) (st.rdA (i := 0) (n := 1) rfl rfl) rfl (by simp [Value.oneCell'])) (by omega) (by omega) ?_
      clear st
      intro b35 c35 sp35 w15 hc35 hs35 st
      rw [arrU_snoc] at st
      replace st : St [] w w15 [(b35, arrU .u32 (k + 1) (upd u k (markK seed (p k) (c k) 64)) ++ sp35, 26), (b34, [.int .u32 (((markK seed (p k) (c k) 64 : Nat) : Int))], 26), (b9, layV (p k) ((c k)), 29), (b18, [.bool (!(layAll n p c)), .int .i64 (1), .bool (decide (8 < ((n : Nat) : Int))), .int .i64 (2)], 95)] := st
      refine Wl.pure (PR.assL rfl) ?_
      refine Wl.nil ?_
      refine bn ?_
      refine tn ?_
      refine Wc.region rfl ?_
      refine Wl.pure (PR.add (a := ((k : Nat) : Int)) (b := 1) rfl rfl (by simp only [fitI]; omega)) ?_
      refine Wl.pure (PR.moveI rfl) ?_
      refine Wl.nil ?_
      refine tn ?_
      replace st : St [] w w15 [(b35, arrU .u32 (k + 1) (upd u k (markK seed (p k) (c k) 64)) ++ sp35, 26), (b18, [.bool (!(layAll n p c)), .int .i64 (1), .bool (decide (8 < ((n : Nat) : Int))), .int .i64 (2)], 95)] := st.pick [0, 3] (by decide) rfl
      exact ⟨(k + 1, (upd u k (markK seed (p k) (c k) 64)), b35, c35, sp35), (.cons rfl (.cons rfl (.cons rfl (.cons rfl (.cons rfl (.cons rfl (.cons rfl (.nil _)))))))), ⟨st, (by first | omega | (dsimp only; omega)), (upd_snoc hu rfl), hc35, hs35⟩, (by first | omega | (dsimp only; omega))⟩
    · refine Wc.exit ?_
      refine tx ?_
      refine tx ?_
      refine bh ?_
      refine tn ?_
      refine Wc.seq ?_
      refine Wc.region rfl ?_
      refine Wl.pure (PR.moveL rfl) ?_
      refine Wl.pure (PR.assL rfl) ?_
      refine Wl.pure (PR.assI rfl) ?_
      refine Wl.nil ?_
      refine tn ?_
      refine Wc.ret ?_
      refine postL.tmp2 rfl rfl rfl ?_
      obtain rfl : n = k := by omega
      rw [arrU_congr (fun j hj => hu j hj)] at st
      replace st : St [] w w6 [(b_o, arrU .u32 n (fun j => markK seed (p j) (c j) 64) ++ sp_o, 26)] := st.pick [0] (by decide) rfl
      exact ⟨b_o, c_o, sp_o, hc_o, hs_o, rfl, st⟩

set_option maxHeartbeats 400000 in
set_option maxRecDepth 4000 in
theorem c_impl_MarksOf_f {A : Option Addr} {n : Nat} {cp : Nat} {p : Nat → Int} {c : Nat → Nat → Nat} {seed : Nat} {w : World} (hR : RdS w A n (layS n p c)) (hp : ∀ i, i < n → -128 ≤ p i ∧ p i ≤ 127) (hc : ∀ i k, c i k < 256) (hn : n ≤ 1048576) (hs : seed < 4294967296) (hcode : ¬ mksC n p c = 0) :
    CE Try.prog 15 [.slice (A) (n) (cp), .int .u32 (((seed : Nat) : Int))] w (RetV w (.tuple #[.slice (none) (0) (0), .int .i64 (((mksC n p c : Nat) : Int))])) := by
  refine CE.enter 38 [(0, .slice (A) (n) (cp)), (1, .int .u32 (((seed : Nat) : Int)))] en_15 Try.func15 rfl rfl (Nat.le_of_ble_eq_true rfl) rfl ?_
  have st := St.start w
  refine Wc.seq ?_
  refine Wc.region rfl ?_
  refine Wl.pure (PR.assL rfl) ?_
  refine Wl.pure (PR.assI rfl) ?_
  refine Wl.nil ?_
  refine tn ?_
  refine Wc.seq ?_
  refine Wc.seq ?_
  refine Wc.region rfl ?_
  refine Wl.pure (PR.moveL rfl) ?_
  refine Wl.callV (c_impl_areLayers (A := A) (n := n) (cp := cp) (p := p) (c := c) (hR.st st) hp hc (by first | assumption | omega)) rfl ?_
  intro w1 hbel
  replace st := st.call hbel
  clear hbel
  refine Wl.pure (PR.not_ rfl) ?_
  refine Wl.pure (PR.build (ps := [(0, .bool (!(layAll n p c))), (1, .int .i64 (1))]) (cs := [.bool (!(layAll n p c)), .int .i64 (1)]) tB_95 rfl rfl) ?_
  refine Wl.pure (PR.moveL rfl) ?_
  refine Wl.pure (PR.lenL tS_37 rfl) ?_
  refine Wl.pure (PR.gtr (a := ((n : Nat) : Int)) (b := 8) rfl rfl) ?_
  refine Wl.pure (PR.build (ps := [(0, .bool (decide (8 < ((n : Nat) : Int)))), (1, .int .i64 (2))]) (cs := [.bool (decide (8 < ((n : Nat) : Int))), .int .i64 (2)]) tB_95 rfl rfl) ?_
  refine Wl.buildSlice (ps := [(0, .agg ([.bool (!(layAll n p c)), .int .i64 (1)]).toArray), (1, .agg ([.bool (decide (8 < ((n : Nat) : Int))), .int .i64 (2)]).toArray)]) (cs := [.bool (!(layAll n p c)), .int .i64 (1), .bool (decide (8 < ((n : Nat) : Int))), .int .i64 (2)]) st tS_127 tZ_95 rfl rfl rfl ?_
  clear st
  intro b18 w2 st
  refine Wl.callV (c_impl_firstOf (bk := b18) (o := 0) (n := 2) (cp := 2) (c := (fun i => [(!(layAll n p c)), (decide (8 < ((n : Nat) : Int)))].getD i false)) (e := (fun i => [1, 2].getD i 0)) (st.rdA (i := 0) (n := 4) rfl rfl) (by first | assumption | omega)) rfl ?_
  intro w3 hbel
  replace st := st.call hbel
  clear hbel
  refine Wl.pure (PR.assI rfl) ?_
  refine Wl.nil ?_
  refine tn ?_
  refine Wc.seq ?_
  have hq9 := first_mks (n := n) (p := p) (c := c)
  refine Wc.region rfl ?_
  refine Wl.pure (PR.moveI rfl) ?_
  refine Wl.pure (PR.neq (a := firstZ 2 (fun i => [(!(layAll n p c)), (decide (8 < ((n : Nat) : Int)))].getD i false) (fun i => [1, 2].getD i 0)) (b := 0) rfl rfl) ?_
  refine Wl.nil ?_
  refine tn ?_
  refine Wc.condN (p := firstZ 2 (fun i => [(!(layAll n p c)), (decide (8 < ((n : Nat) : Int)))].getD i false) (fun i => [1, 2].getD i 0) = 0) rfl (fun h4 => ?_) (fun h4 => ?_)
  · refine Wc.seq ?_
    refine Wc.region rfl ?_
    refine Wl.pure (PR.moveI rfl) ?_
    refine Wl.pure (PR.assL rfl) ?_
    refine Wl.pure (PR.assI rfl) ?_
    refine Wl.nil ?_
    refine tn ?_
    refine Wc.ret ?_
    refine tr ?_
    refine postL.tmp2 rfl rfl rfl ?_
    refine RetV.of ?_ st.below
    exact tup_2 rfl (congrArg (Value.int .i64) hq9)
  · refine Wc.skip ?_
    refine tn ?_
    refine Wc.seq ?_
    exfalso
    omega

set_option maxHeartbeats 400000 in
set_option maxRecDepth 4000 in
theorem c_spec_MarksOf_t {A : Option Addr} {n : Nat} {cp : Nat} {p : Nat → Int} {c : Nat → Nat → Nat} {seed : Nat} {w : World} (hR : RdS w A n (layS n p c)) (hp : ∀ i, i < n → -128 ≤ p i ∧ p i ≤ 127) (hc : ∀ i k, c i k < 256) (hn : n ≤ 1048576) (hs : seed < 4294967296) (hcode : mksC n p c = 0) :
    CE Try.prog 13 [.slice (A) (n) (cp), .int .u32 (((seed : Nat) : Int))] w (RetXG w [] 26 1 (n) (arrU .u32 n (fun j => markK seed (p j) (c j) 64)) (fun b_ c_ => .tuple #[.slice (some ⟨b_, 0, none⟩) (n) (c_), .int .i64 (0)]) []) := by
  refine CE.enter 32 [(0, .slice (A) (n) (cp)), (1, .int .u32 (((seed : Nat) : Int)))] en_13 Try.func13 rfl rfl (Nat.le_of_ble_eq_true rfl) rfl ?_
  have st := St.start w
  refine Wc.seq ?_
  refine Wc.region rfl ?_
  refine Wl.pure (PR.assL rfl) ?_
  refine Wl.pure (PR.assI rfl) ?_
  refine Wl.nil ?_
  refine tn ?_
  refine Wc.seq ?_
  refine Wc.seq ?_
  refine Wc.region rfl ?_
  refine Wl.pure (PR.moveL rfl) ?_
  refine Wl.callV (c_spec_l01All (A := A) (n := n) (cp := cp) (p := p) (c := c) (hR.st st) hp hc (by first | assumption | omega)) rfl ?_
  intro w1 hbel
  replace st := st.call hbel
  clear hbel
  refine Wl.pure (PR.not_ rfl) ?_
  refine Wl.nil ?_
  refine tn ?_
  refine Wc.condNB (b := layAll n p c) rfl (fun h2 => ?_) (fun h2 => ?_)
  · refine Wc.seq ?_
    exfalso
    exact absurd hcode (by rw [mksC_1 (by assumption)]; decide)
  · refine Wc.skip ?_
    refine tn ?_
    refine Wc.seq ?_
    refine Wc.seq ?_
    refine Wc.region rfl ?_
    refine Wl.pure (PR.moveL rfl) ?_
    refine Wl.pure (PR.lenL tS_37 rfl) ?_
    refine Wl.pure (PR.gtr (a := ((n : Nat) : Int)) (b := 8) rfl rfl) ?_
    refine Wl.nil ?_
    refine tn ?_
    refine Wc.condD (p := 8 < ((n : Nat) : Int)) rfl (fun h3 => ?_) (fun h3 => ?_)
    · refine Wc.seq ?_
      exfalso
      exact absurd hcode (mksC_2 (by omega))
    · refine Wc.skip ?_
      refine tn ?_
      refine Wc.seq ?_
      refine Wc.region rfl ?_
      refine Wl.buildSlice (ps := []) (cs := arrU .u32 0 (fun _ => 0) ++ []) st tS_34 tZ_26 rfl rfl rfl ?_
      clear st
      intro b16 w4 st
      refine Wl.pure (PR.assL rfl) ?_
      refine Wl.nil ?_
      refine tn ?_
      refine Wc.seq ?_
      refine Wc.seq ?_
      refine Wc.region rfl ?_
      refine Wl.pure (PR.assI rfl) ?_
      refine Wl.nil ?_
      refine tn ?_
      refine Wc.block ?_
      refine Wc.loopF (γ := Nat × (Nat → Nat) × Nat × Nat × List Value) (fun g => [(0, .slice (A) (n) (cp)), (1, .int .u32 (((seed : Nat) : Int))), (4, .slice (none) (0) (0)), (5, .int .i64 (0)), (6, .slice (some ⟨g.2.2.1, 0, none⟩) (g.1) (g.2.2.2.1)), (7, .int .i64 (((g.1 : Nat) : Int)))]) (fun g w_ => St [] w w_ [(g.2.2.1, arrU .u32 g.1 g.2.1 ++ g.2.2.2.2, 26)] ∧ (g.1 ≤ n) ∧ (∀ j, j < g.1 → g.2.1 j = (fun j => markK seed (p j) (c j) 64) j) ∧ (g.1 ≤ g.2.2.2.1) ∧ (g.2.2.2.2.length = (g.2.2.2.1 - g.1) * 1)) (fun g => n - g.1) ?_ ?_
      · exact ⟨(0, (fun _ => 0), b16, 0, []), (.cons rfl (.cons rfl (.cons rfl (.cons rfl (.cons rfl (.cons rfl (.nil _))))))), st, (by first | omega | (dsimp only; omega)), (fun j hj => by omega), (Nat.le_refl _), rfl⟩
      clear st
      rintro ⟨k, u, b_o, c_o, sp_o⟩ w5 ⟨st, hk, hu, hc_o, hs_o⟩
      try dsimp only at st hk hu hc_o hs_o ⊢
      refine Wc.seq ?_
      refine Wc.seq ?_
      refine Wc.region rfl ?_
      refine Wl.pure (PR.moveI rfl) ?_
      refine Wl.pure (PR.moveL rfl) ?_
      refine Wl.pure (PR.lenL tS_37 rfl) ?_
      refine Wl.pure (PR.lss (a := ((k : Nat) : Int)) (b := ((n : Nat) : Int)) rfl rfl) ?_
      refine Wl.nil ?_
      refine tn ?_
      refine Wc.condD (p := ((k : Nat) : Int) < ((n : Nat) : Int)) rfl (fun h6 => ?_) (fun h6 => ?_)
      · refine Wc.skip ?_
        refine tn ?_
        refine Wc.seq ?_
        refine Wc.block ?_
        refine Wc.region rfl ?_
        refine Wl.pure (PR.moveL rfl) ?_
        refine Wl.pure (PR.moveL rfl) ?_
        refine Wl.pure (PR.moveI rfl) ?_
        obtain ⟨bs7, os8, rfl, hs9⟩ := hR (by omega)
        have := hp (k) (by omega)
        refine Wl.pure (PR.idxAddrS (i := k) tS_37 rfl rfl (by omega)) ?_
        refine Wl.pure (PR.moveI rfl) ?_
        refine Wl.callV (c_spec_l07Mark (b := bs7) (o := os8 + k * 65) (p := p k) (c := (c k)) (seed := seed) ((hs9.st st).row (recV_sub (layS_row _ _) (by omega))) (by first | assumption | omega) (hc k) hs) rfl ?_
        intro w10 hbel
        replace st := st.call hbel
        clear hbel
        refine Wl.buildSlice (ps := [(0, .int .u32 (((markK seed (p k) (c k) 64 : Nat) : Int)))]) (cs := [.int .u32 (((markK seed (p k) (c k) 64 : Nat) : Int))]) st tS_34 tZ_26 rfl rfl rfl ?_
        clear st
        intro b29 w11 st
        refine Wl.append (n := k) (c := c_o) (m := 1) (cs := arrU .u32 k u) (sp := sp_o) (vs := [.int .u32 (((markK seed (p k) (c k) 64 : Nat) : Int))]) (i := 1) st tS_34 tZ_26 rfl rfl rfl (by rw [(arrU_len _), Nat.mul_one]) hs_o hc_o rfl (Src.ofRdA (tyS_und tS_34) (st.rdA (i := 0) (n := 1) rfl rfl) rfl (by simp [Value.oneCell'])) (by omega) (by omega) ?_
        clear st
        intro b30 c30 sp30 w12 hc30 hs30 st
        rw [arrU_snoc] at st
        replace st : St [] w w12 [(b30, arrU .u32 (k + 1) (upd u k (markK seed (p k) (c k) 64)) ++ sp30, 26), (b29, [.int .u32 (((markK seed (p k) (c k) 64 : Nat) : Int))], 26)] := st
        refine Wl.pure (PR.assL rfl) ?_
        refine Wl.nil ?_
        refine bn ?_
        refine tn ?_
        refine Wc.region rfl ?_
        refine Wl.pure (PR.moveI rfl) ?_
        refine Wl.pure (PR.add (a := ((k : Nat) : Int)) (b := 1) rfl rfl (by simp only [fitI]; omega)) ?_
        refine Wl.pure (PR.assI rfl) ?_
        refine Wl.nil ?_
        refine tn ?_
        replace st : St [] w w12 [(b30, arrU .u32 (k + 1) (upd u k (markK seed (p k) (c k) 64)) ++ sp30, 26)] := st.pick [0] (by decide) rfl
        exact ⟨(k + 1, (upd u k (markK seed (p k) (c k) 64)), b30, c30, sp30), (.cons rfl (.cons rfl (.cons rfl (.cons rfl (.cons rfl (.cons rfl (.nil _))))))), ⟨st, (by first | omega | (dsimp only; omega)), (upd_snoc hu rfl), hc30, hs30⟩, (by first | omega | (dsimp only; omega))⟩
      · refine Wc.exit ?_
        refine tx ?_
        refine tx ?_
        refine bh ?_
        refine tn ?_
        refine Wc.seq ?_
        refine Wc.region rfl ?_
        refine Wl.pure (PR.moveL rfl) ?_
        refine Wl.pure (PR.assL rfl) ?_
        refine Wl.pure (PR.assI rfl) ?_
        refine Wl.nil ?_
        refine tn ?_
        refine Wc.ret ?_
        refine postL.tmp2 rfl rfl rfl ?_
        obtain rfl : n = k := by omega
        rw [arrU_congr (fun j hj => hu j hj)] at st
        exact ⟨b_o, c_o, sp_o, hc_o, hs_o, rfl, st⟩

set_option maxHeartbeats 400000 in
set_option maxRecDepth 4000 in
theorem c_spec_MarksOf_f {A : Option Addr} {n : Nat} {cp : Nat} {p : Nat → Int} {c : Nat → Nat → Nat} {seed : Nat} {w : World} (hR : RdS w A n (layS n p c)) (hp : ∀ i, i < n → -128 ≤ p i ∧ p i ≤ 127) (hc : ∀ i k, c i k < 256) (hn : n ≤ 1048576) (hs : seed < 4294967296) (hcode : ¬ mksC n p c = 0) :
    CE Try.prog 13 [.slice (A) (n) (cp), .int .u32 (((seed : Nat) : Int))] w (RetXG w [] 26 1 (0) (arrU .u32 0 (fun _ => 0)) (fun b_ c_ => .tuple #[.slice (some ⟨b_, 0, none⟩) (0) (c_), .int .i64 (((mksC n p c : Nat) : Int))]) []) := by
  refine CE.enter 32 [(0, .slice (A) (n) (cp)), (1, .int .u32 (((seed : Nat) : Int)))] en_13 Try.func13 rfl rfl (Nat.le_of_ble_eq_true rfl) rfl ?_
  have st := St.start w
  refine Wc.seq ?_
  refine Wc.region rfl ?_
  refine Wl.pure (PR.assL rfl) ?_
  refine Wl.pure (PR.assI rfl) ?_
  refine Wl.nil ?_
  refine tn ?_
  refine Wc.seq ?_
  refine Wc.seq ?_
  refine Wc.region rfl ?_
  refine Wl.pure (PR.moveL rfl) ?_
  refine Wl.callV (c_spec_l01All (A := A) (n := n) (cp := cp) (p := p) (c := c) (hR.st st) hp hc (by first | assumption | omega)) rfl ?_
  intro w1 hbel
  replace st := st.call hbel
  clear hbel
  refine Wl.pure (PR.not_ rfl) ?_
  refine Wl.nil ?_
  refine tn ?_
  refine Wc.condNB (b := layAll n p c) rfl (fun h2 => ?_) (fun h2 => ?_)
  · refine Wc.seq ?_
    refine Wc.region rfl ?_
    refine Wl.buildSlice (ps := []) (cs := arrU .u32 0 (fun _ => 0) ++ []) st tS_34 tZ_26 rfl rfl rfl ?_
    clear st
    intro b11 w3 st
    refine Wl.pure (PR.assL rfl) ?_
    refine Wl.pure (PR.assI rfl) ?_
    refine Wl.nil ?_
    refine tn ?_
    refine Wc.ret ?_
    refine tr ?_
    refine postL.tmp2 rfl rfl rfl ?_
    exact ⟨b11, 0, ([]), (Nat.le_refl _), rfl, (by first | rw [mksC_1 (by assumption)]; rfl | rw [mksC_2e (by assumption) (by omega)]; rfl), st⟩
  · refine Wc.skip ?_
    refine tn ?_
    refine Wc.seq ?_
    refine Wc.seq ?_
    refine Wc.region rfl ?_
    refine Wl.pure (PR.moveL rfl) ?_
    refine Wl.pure (PR.lenL tS_37 rfl) ?_
    refine Wl.pure (PR.gtr (a := ((n : Nat) : Int)) (b := 8) rfl rfl) ?_
    refine Wl.nil ?_
    refine tn ?_
    refine Wc.condD (p := 8 < ((n : Nat) : Int)) rfl (fun h4 => ?_) (fun h4 => ?_)
    · refine Wc.seq ?_
      refine Wc.region rfl ?_
      refine Wl.buildSlice (ps := []) (cs := arrU .u32 0 (fun _ => 0) ++ []) st tS_34 tZ_26 rfl rfl rfl ?_
      clear st
      intro b15 w5 st
      refine Wl.pure (PR.assL rfl) ?_
      refine Wl.pure (PR.assI rfl) ?_
      refine Wl.nil ?_
      refine tn ?_
      refine Wc.ret ?_
      refine tr ?_
      refine postL.tmp2 rfl rfl rfl ?_
      exact ⟨b15, 0, ([]), (Nat.le_refl _), rfl, (by first | rw [mksC_1 (by assumption)]; rfl | rw [mksC_2e (by assumption) (by omega)]; rfl), st⟩
    · refine Wc.skip ?_
      refine tn ?_
      refine Wc.seq ?_
      exfalso
      exact hcode (mksC_0 (by assumption) (by omega))

set_option maxHeartbeats 400000 in
set_option maxRecDepth 4000 in
theorem c_laws_FnExactMarksOf {A : Option Addr} {n : Nat} {cp : Nat} {p : Nat → Int} {c : Nat → Nat → Nat} {seed : Nat} {w : World} (hR : RdS w A n (layS n p c)) (hp : ∀ i, i < n → -128 ≤ p i ∧ p i ≤ 127) (hc : ∀ i k, c i k < 256) (hn : n ≤ 9223372036854775807) (hs : seed < 4294967296) :
    CE Try.prog 4 [.slice (A) (n) (cp), .int .u32 (((seed : Nat) : Int))] w (RetV w (.bool true)) := by
  refine CE.enter 101 [(0, .slice (A) (n) (cp)), (1, .int .u32 (((seed : Nat) : Int)))] en_4 Try.func4 rfl rfl (Nat.le_of_ble_eq_true rfl) rfl ?_
  have st := St.start w
  refine Wc.seq ?_
  refine Wc.region rfl ?_
  refine Wl.pure (PR.assB rfl) ?_
  refine Wl.nil ?_
  refine tn ?_
  refine Wc.seq ?_
  refine Wc.region rfl ?_
  refine Wl.pure (PR.assI rfl) ?_
  refine Wl.nil ?_
  refine tn ?_
  refine Wc.seq ?_
  refine Wc.region rfl ?_
  refine Wl.pure (PR.moveL rfl) ?_
  refine Wl.pure (PR.moveI rfl) ?_
  refine Wl.callV (c_laws_szLayerS (A := A) (n := n) (cp := cp) (p := p) (c := c) (z := 1048576) (by first | assumption | omega) (by first | assumption | omega)) rfl ?_
  intro w1 hbel
  replace st := st.call hbel
  clear hbel
  refine Wl.pure (PR.assI rfl) ?_
  refine Wl.nil ?_
  refine tn ?_
  refine Wc.seq ?_
  refine Wc.seq ?_
  refine Wc.region rfl ?_
  refine Wl.pure (PR.moveI rfl) ?_
  refine Wl.pure (PR.lss (a := (szL n 1048576)) (b := 0) rfl rfl) ?_
  refine Wl.nil ?_
  refine tn ?_
  refine Wc.condD (p := (szL n 1048576) < 0) rfl (fun h2 => ?_) (fun h2 => ?_)
  · refine Wc.seq ?_
    refine Wc.region rfl ?_
    refine Wl.pure (PR.assB rfl) ?_
    refine Wl.nil ?_
    refine tn ?_
    refine Wc.ret ?_
    refine tr ?_
    refine postL.tmp rfl rfl ?_
    exact RetV.of rfl st.below
  · refine Wc.skip ?_
    refine tn ?_
    refine Wc.seq ?_
    by_cases hcode : mksC n p c = 0
    · obtain ⟨hn1, hz1⟩ := szL_ok (n := n) (z := 1048576) (by omega)
      have hn8 := (mksC_spec hcode).2
      refine Wc.region rfl ?_
      refine Wl.pure (PR.moveL rfl) ?_
      refine Wl.callS st (c_laws_toLayerS (A := A) (n := n) (cp := cp) (p := p) (c := c) (hR.st st) hc (by first | assumption | omega)) rfl ?_
      clear st
      intro b23 w3 st
      refine Wl.pure (PR.moveI rfl) ?_
      refine Wl.callXG [] st (c_spec_MarksOf_t (A := some ⟨b23, 0, none⟩) (n := n) (cp := n) (p := p) (c := c) (seed := seed) ((st.rdA (i := 0) (n := (n * 65)) rfl (all_sub (recV_len (s := 65) (layS_row _ _) _))).sl) hp hc (by first | assumption | omega) hs (by first | assumption | omega)) rfl rfl ?_
      clear st
      intro b25 c25 sp25 w4 hc25 hs25 st
      replace st : St [] w w4 [(b25, arrU .u32 n (fun j => markK seed (p j) (c j) 64) ++ sp25, 26), (b23, layS n p c, 29)] := st
      refine Wl.pure (PR.moveV (.tuple #[.slice (some ⟨b25, 0, none⟩) (n) (c25), .int .i64 (0)]) rfl) ?_
      refine Wl.pure (PR.extr (i := 0) (vs := [.slice (some ⟨b25, 0, none⟩) (n) (c25), .int .i64 (0)]) rfl rfl) ?_
      refine Wl.pure (PR.extr (i := 1) (vs := [.slice (some ⟨b25, 0, none⟩) (n) (c25), .int .i64 (0)]) rfl rfl) ?_
      refine Wl.pure (PR.assL rfl) ?_
      refine Wl.pure (PR.assI rfl) ?_
      refine Wl.nil ?_
      refine tn ?_
      refine Wc.seq ?_
      refine Wc.region rfl ?_
      refine Wl.pure (PR.moveL rfl) ?_
      refine Wl.callS st (c_laws_toLayerS (A := A) (n := n) (cp := cp) (p := p) (c := c) (hR.st st) hc (by first | assumption | omega)) rfl ?_
      clear st
      intro b29 w5 st
      refine Wl.pure (PR.assL rfl) ?_
      refine Wl.nil ?_
      refine tn ?_
      refine Wc.seq ?_
      refine Wc.region rfl ?_
      refine Wl.pure (PR.moveL rfl) ?_
      refine Wl.pure (PR.moveI rfl) ?_
      refine Wl.callXG [] st (c_impl_MarksOf_t (A := some ⟨b29, 0, none⟩) (n := n) (cp := n) (p := p) (c := c) (seed := seed) ((st.rdA (i := 0) (n := (n * 65)) rfl (all_sub (recV_len (s := 65) (layS_row _ _) _))).sl) hp hc (by first | assumption | omega) hs (by first | assumption | omega)) rfl rfl ?_
      clear st
      intro b33 c33 sp33 w6 hc33 hs33 st
      replace st : St [] w w6 [(b33, arrU .u32 n (fun j => markK seed (p j) (c j) 64) ++ sp33, 26), (b29, layS n p c, 29), (b25, arrU .u32 n (fun j => markK seed (p j) (c j) 64) ++ sp25, 26), (b23, layS n p c, 29)] := st
      refine Wl.pure (PR.moveV (.tuple #[.slice (some ⟨b33, 0, none⟩) (n) (c33), .int .i64 (0)]) rfl) ?_
      refine Wl.pure (PR.extr (i := 0) (vs := [.slice (some ⟨b33, 0, none⟩) (n) (c33), .int .i64 (0)]) rfl rfl) ?_
      refine Wl.pure (PR.extr (i := 1) (vs := [.slice (some ⟨b33, 0, none⟩) (n) (c33), .int .i64 (0)]) rfl rfl) ?_
      refine Wl.pure (PR.assL rfl) ?_
      refine Wl.pure (PR.assI rfl) ?_
      refine Wl.nil ?_
      refine tn ?_
      refine Wc.seq ?_
      refine Wc.seq ?_
      refine Wc.region rfl ?_
      refine Wl.pure (PR.moveL rfl) ?_
      refine Wl.pure (PR.moveL rfl) ?_
      refine Wl.callV (c_laws_eqUint32S (A := some ⟨b33, 0, none⟩) (n := n) (cp := c33) (c := (fun j => markK seed (p j) (c j) 64)) (B := some ⟨b25, 0, none⟩) (cq := c25) ((st.rdA (i := 0) (n := n) rfl (app_all (arrU_len _))).sl) ((st.rdA (i := 2) (n := n) rfl (app_all (arrU_len _))).sl) (by first | assumption | omega)) rfl ?_
      intro w7 hbel
      replace st := st.call hbel
      clear hbel
      refine Wl.pure (PR.not_ rfl) ?_
      refine Wl.pure (PR.moveB rfl) ?_
      refine Wl.on rfl rfl ?_
      refine Wl.pure (PR.moveI rfl) ?_
      refine Wl.on rfl rfl ?_
      refine Wl.pure (PR.moveI rfl) ?_
      refine Wl.on rfl rfl ?_
      refine Wl.pure (PR.neqS (a := 0) rfl rfl) ?_
      refine Wl.pure (PR.pickFB rfl rfl) ?_
      refine Wl.nil ?_
      refine tn ?_
      refine Wc.condF rfl ?_
      refine Wc.skip ?_
      refine tn ?_
      refine Wc.seq ?_
      refine Wc.seq ?_
      refine Wc.region rfl ?_
      refine Wl.pure (PR.moveL rfl) ?_
      refine Wl.pure (PR.moveL rfl) ?_
      refine Wl.callS st (c_laws_toLayerS (A := A) (n := n) (cp := cp) (p := p) (c := c) (hR.st st) hc (by first | assumption | omega)) rfl ?_
      clear st
      intro b47 w8 st
      refine Wl.callV (c_laws_eqLayerS (A := some ⟨b29, 0, none⟩) (n := n) (cp := n) (p := p) (c := c) (B := some ⟨b47, 0, none⟩) (cq := n) ((st.rdA (i := 2) (n := (n * 65)) rfl (all_sub (recV_len (s := 65) (layS_row _ _) _))).sl) ((st.rdA (i := 0) (n := (n * 65)) rfl (all_sub (recV_len (s := 65) (layS_row _ _) _))).sl) (by first | assumption | omega)) rfl ?_
      intro w9 hbel
      replace st := st.call hbel
      clear hbel
      refine Wl.pure (PR.not_ rfl) ?_
      refine Wl.nil ?_
      refine tn ?_
      refine Wc.condF rfl ?_
      refine Wc.skip ?_
      refine tn ?_
      refine Wc.seq ?_
      refine Wc.region rfl ?_
      refine Wl.pure (PR.assI rfl) ?_
      refine Wl.nil ?_
      refine tn ?_
      refine Wc.seq ?_
      refine Wc.region rfl ?_
      refine Wl.pure (PR.moveL rfl) ?_
      refine Wl.pure (PR.moveI rfl) ?_
      replace st : St [] w w9 [(b47, layS n p c, 29), (b33, arrU .u32 n (fun j => markK seed (p j) (c j) 64) ++ sp33, 26), (b29, layS n p c ++ [], 29), (b25, arrU .u32 n (fun j => markK seed (p j) (c j) 64) ++ sp25, 26), (b23, layS n p c, 29)] := st.nilat (i := 2) rfl
      refine Wl.callXE [2] st (c_laws_markLayerS (ba := b29) (n := n) (cp := n) (p := p) (c := c) (sp := []) (z := 1) (by first | assumption | omega) (by first | assumption | omega) (st.lend (L' := [(b29, layS n p c ++ [], 29)]) [2] (by decide) rfl)) rfl rfl ?_
      clear st
      rintro ⟨p__11, c__12⟩ _ w10 st
      try dsimp only at st 
      replace st : St [] w w10 [(b29, layS n p__11 c__12 ++ [], 29), (b47, layS n p c, 29), (b33, arrU .u32 n (fun j => markK seed (p j) (c j) 64) ++ sp33, 26), (b25, arrU .u32 n (fun j => markK seed (p j) (c j) 64) ++ sp25, 26), (b23, layS n p c, 29)] := st
      refine Wl.pure (PR.assI rfl) ?_
      refine Wl.nil ?_
      refine tn ?_
      refine Wc.seq ?_
      refine Wc.seq ?_
      refine Wc.region rfl ?_
      refine Wl.pure (PR.moveI rfl) ?_
      refine Wl.pure (PR.lss (a := (((1 + 65 * n) : Nat) : Int)) (b := 0) rfl rfl) ?_
      refine Wl.pure (PR.moveB rfl) ?_
      refine Wl.splitF (q := (((1 + 65 * n) : Nat) : Int) < 0) rfl rfl (fun h13 => ?_) (fun h13 => ?_)
      · refine Wl.pure (PR.moveL rfl) ?_
        refine Wl.on rfl rfl ?_
        refine Wl.pure (PR.moveL rfl) ?_
        refine Wl.on rfl rfl ?_
        refine Wl.callV (c_laws_eqUint32S (A := some ⟨b33, 0, none⟩) (n := n) (cp := c33) (c := (fun j => markK seed (p j) (c j) 64)) (B := some ⟨b25, 0, none⟩) (cq := c25) ((st.rdA (i := 2) (n := n) rfl (app_all (arrU_len _))).sl) ((st.rdA (i := 3) (n := n) rfl (app_all (arrU_len _))).sl) (by first | assumption | omega)) rfl ?_
        intro w14 hbel
        replace st := st.call hbel
        clear hbel
        refine Wl.on rfl rfl ?_
        refine Wl.pure (PR.not_ rfl) ?_
        refine Wl.pure (PR.pickFB rfl rfl) ?_
        refine Wl.pure (PR.moveB rfl) ?_
        refine Wl.on rfl rfl ?_
        refine Wl.pure (PR.moveI rfl) ?_
        refine Wl.on rfl rfl ?_
        refine Wl.pure (PR.moveI rfl) ?_
        refine Wl.on rfl rfl ?_
        refine Wl.pure (PR.neqS (a := 0) rfl rfl) ?_
        refine Wl.pure (PR.pickFB rfl rfl) ?_
        refine Wl.nil ?_
        refine tn ?_
        refine Wc.condF rfl ?_
        refine Wc.skip ?_
        refine tn ?_
        refine Wc.seq ?_
        refine Wc.region rfl ?_
        refine Wl.pure (PR.assI rfl) ?_
        refine Wl.nil ?_
        refine tn ?_
        refine Wc.seq ?_
        refine Wc.region rfl ?_
        refine Wl.pure (PR.moveL rfl) ?_
        refine Wl.pure (PR.moveI rfl) ?_
        refine Wl.callX [2] st (c_markUint32S (ba := b33) (n := n) (cp := c33) (c := (fun j => markK seed (p j) (c j) 64)) (sp := sp33) (z := 1) (by first | assumption | omega) (st.lend (L' := [(b33, arrU .u32 n (fun j => markK seed (p j) (c j) 64) ++ sp33, 26)]) [2] (by decide) rfl)) rfl rfl ?_
        clear st
        intro w15 st
        replace st : St [] w w15 [(b33, arrU .u32 n (fun j => 1 + j) ++ sp33, 26), (b29, layS n p__11 c__12 ++ [], 29), (b47, layS n p c, 29), (b25, arrU .u32 n (fun j => markK seed (p j) (c j) 64) ++ sp25, 26), (b23, layS n p c, 29)] := st
        refine Wl.pure (PR.assI rfl) ?_
        refine Wl.nil ?_
        refine tn ?_
        refine Wc.seq ?_
        refine Wc.region rfl ?_
        refine Wl.pure (PR.assI rfl) ?_
        refine Wl.nil ?_
        refine tn ?_
        refine Wc.seq ?_
        refine Wc.region rfl ?_
        refine Wl.pure (PR.moveL rfl) ?_
        refine Wl.pure (PR.moveI rfl) ?_
        refine Wl.callV (c_laws_heldUint32S (A := some ⟨b33, 0, none⟩) (n := n) (cp := c33) (c := (fun j => 1 + j)) (z := 1) ((st.rdA (i := 0) (n := n) rfl (app_all (arrU_len _))).sl) (by first | assumption | omega) (fun u hu => by first | rfl | omega)) rfl ?_
        intro w16 hbel
        replace st := st.call hbel
        clear hbel
        refine Wl.pure (PR.assI rfl) ?_
        refine Wl.nil ?_
        refine tn ?_
        refine Wc.seq ?_
        refine Wc.seq ?_
        refine Wc.region rfl ?_
        refine Wl.pure (PR.moveI rfl) ?_
        refine Wl.pure (PR.lss (a := (((1 + n) : Nat) : Int)) (b := 0) rfl rfl) ?_
        refine Wl.nil ?_
        refine tn ?_
        refine Wc.condD (p := (((1 + n) : Nat) : Int) < 0) rfl (fun h17 => ?_) (fun h17 => ?_)
        · refine Wc.seq ?_
          refine Wc.region rfl ?_
          refine Wl.pure (PR.assB rfl) ?_
          refine Wl.nil ?_
          refine tn ?_
          refine Wc.ret ?_
          refine tr ?_
          refine postL.tmp rfl rfl ?_
          refine RetV.of ?_ st.below
          refine congrArg Value.bool ?_
          first | rfl | (exfalso; omega) | (simp only [*, decide_true, decide_false, Bool.not_true, Bool.not_false]; done) | (simp; omega) | (rw [Bool.eq_iff_iff]; simp; omega) | simp_all
        · refine Wc.skip ?_
          refine tn ?_
          refine Wc.seq ?_
          refine Wc.seq ?_
          refine Wc.region rfl ?_
          refine Wl.pure (PR.moveI rfl) ?_
          refine Wl.pure (PR.moveI rfl) ?_
          refine Wl.pure (PR.neqS (a := (((1 + n) : Nat) : Int)) rfl rfl) ?_
          refine Wl.nil ?_
          refine tn ?_
          refine Wc.condF rfl ?_
          refine Wc.skip ?_
          refine tn ?_
          refine Wc.seq ?_
          refine Wc.region rfl ?_
          refine Wl.pure (PR.moveL rfl) ?_
          refine Wl.callS st (c_laws_toLayerS (A := A) (n := n) (cp := cp) (p := p) (c := c) (hR.st st) hc (by first | assumption | omega)) rfl ?_
          clear st
          intro b79 w18 st
          refine Wl.pure (PR.moveI rfl) ?_
          refine Wl.callXG [] st (c_impl_MarksOf_t (A := some ⟨b79, 0, none⟩) (n := n) (cp := n) (p := p) (c := c) (seed := seed) ((st.rdA (i := 0) (n := (n * 65)) rfl (all_sub (recV_len (s := 65) (layS_row _ _) _))).sl) hp hc (by first | assumption | omega) hs (by first | assumption | omega)) rfl rfl ?_
          clear st
          intro b81 c81 sp81 w19 hc81 hs81 st
          replace st : St [] w w19 [(b81, arrU .u32 n (fun j => markK seed (p j) (c j) 64) ++ sp81, 26), (b79, layS n p c, 29), (b33, arrU .u32 n (fun j => 1 + j) ++ sp33, 26), (b29, layS n p__11 c__12 ++ [], 29), (b47, layS n p c, 29), (b25, arrU .u32 n (fun j => markK seed (p j) (c j) 64) ++ sp25, 26), (b23, layS n p c, 29)] := st
          refine Wl.pure (PR.moveV (.tuple #[.slice (some ⟨b81, 0, none⟩) (n) (c81), .int .i64 (0)]) rfl) ?_
          refine Wl.pure (PR.extr (i := 0) (vs := [.slice (some ⟨b81, 0, none⟩) (n) (c81), .int .i64 (0)]) rfl rfl) ?_
          refine Wl.pure (PR.extr (i := 1) (vs := [.slice (some ⟨b81, 0, none⟩) (n) (c81), .int .i64 (0)]) rfl rfl) ?_
          refine Wl.pure (PR.assL rfl) ?_
          refine Wl.pure (PR.assI rfl) ?_
          refine Wl.nil ?_
          refine tn ?_
          refine Wc.seq ?_
          refine Wc.seq ?_
          refine Wc.region rfl ?_
          refine Wl.pure (PR.moveL rfl) ?_
          refine Wl.pure (PR.moveL rfl) ?_
          refine Wl.callV (c_laws_eqUint32S (A := some ⟨b81, 0, none⟩) (n := n) (cp := c81) (c := (fun j => markK seed (p j) (c j) 64)) (B := some ⟨b25, 0, none⟩) (cq := c25) ((st.rdA (i := 0) (n := n) rfl (app_all (arrU_len _))).sl) ((st.rdA (i := 5) (n := n) rfl (app_all (arrU_len _))).sl) (by first | assumption | omega)) rfl ?_
          intro w20 hbel
          replace st := st.call hbel
          clear hbel
          refine Wl.pure (PR.not_ rfl) ?_
          refine Wl.pure (PR.moveB rfl) ?_
          refine Wl.on rfl rfl ?_
          refine Wl.pure (PR.moveI rfl) ?_
          refine Wl.on rfl rfl ?_
          refine Wl.pure (PR.moveI rfl) ?_
          refine Wl.on rfl rfl ?_
          refine Wl.pure (PR.neqS (a := 0) rfl rfl) ?_
          refine Wl.pure (PR.pickFB rfl rfl) ?_
          refine Wl.nil ?_
          refine tn ?_
          refine Wc.condF rfl ?_
          refine Wc.skip ?_
          refine tn ?_
          refine Wc.seq ?_
          refine Wc.region rfl ?_
          refine Wl.pure (PR.assI rfl) ?_
          refine Wl.nil ?_
          refine tn ?_
          refine Wc.seq ?_
          refine Wc.region rfl ?_
          refine Wl.pure (PR.moveL rfl) ?_
          refine Wl.pure (PR.moveI rfl) ?_
          refine Wl.callV (c_laws_heldUint32S (A := some ⟨b33, 0, none⟩) (n := n) (cp := c33) (c := (fun j => 1 + j)) (z := 1) ((st.rdA (i := 2) (n := n) rfl (app_all (arrU_len _))).sl) (by first | assumption | omega) (fun u hu => by first | rfl | omega)) rfl ?_
          intro w21 hbel
          replace st := st.call hbel
          clear hbel
          refine Wl.pure (PR.assI rfl) ?_
          refine Wl.nil ?_
          refine tn ?_
          refine Wc.seq ?_
          refine Wc.seq ?_
          refine Wc.region rfl ?_
          refine Wl.pure (PR.moveI rfl) ?_
          refine Wl.pure (PR.lss (a := (((1 + n) : Nat) : Int)) (b := 0) rfl rfl) ?_
          refine Wl.nil ?_
          refine tn ?_
          refine Wc.condD (p := (((1 + n) : Nat) : Int) < 0) rfl (fun h22 => ?_) (fun h22 => ?_)
          · refine Wc.seq ?_
            refine Wc.region rfl ?_
            refine Wl.pure (PR.assB rfl) ?_
            refine Wl.nil ?_
            refine tn ?_
            refine Wc.ret ?_
            refine tr ?_
            refine postL.tmp rfl rfl ?_
            refine RetV.of ?_ st.below
            refine congrArg Value.bool ?_
            first | rfl | (exfalso; omega) | (simp only [*, decide_true, decide_false, Bool.not_true, Bool.not_false]; done) | (simp; omega) | (rw [Bool.eq_iff_iff]; simp; omega) | simp_all
          · refine Wc.skip ?_
            refine tn ?_
            refine Wc.seq ?_
            refine Wc.seq ?_
            refine Wc.region rfl ?_
            refine Wl.pure (PR.moveI rfl) ?_
            refine Wl.pure (PR.moveI rfl) ?_
            refine Wl.pure (PR.neqS (a := (((1 + n) : Nat) : Int)) rfl rfl) ?_
            refine Wl.nil ?_
            refine tn ?_
            refine Wc.condF rfl ?_
            refine Wc.skip ?_
            refine tn ?_
            refine Wc.seq ?_
            refine Wc.region rfl ?_
            refine Wl.pure (PR.assB rfl) ?_
            refine Wl.nil ?_
            refine tn ?_
            refine Wc.ret ?_
            refine postL.tmp rfl rfl ?_
            exact RetV.of rfl st.below
      · refine Wl.off rfl rfl rfl ?_
        refine Wl.off rfl rfl rfl ?_
        refine Wl.off rfl rfl rfl ?_
        refine Wl.pure (PR.pickTB rfl rfl) ?_
        refine Wl.pure (PR.moveB rfl) ?_
        refine Wl.off rfl rfl rfl ?_
        refine Wl.off rfl rfl rfl ?_
        refine Wl.off rfl rfl rfl ?_
        refine Wl.pure (PR.pickTB rfl rfl) ?_
        refine Wl.nil ?_
        refine tn ?_
        refine Wc.condT rfl ?_
        refine Wc.seq ?_
        refine Wc.region rfl ?_
        refine Wl.pure (PR.assB rfl) ?_
        refine Wl.nil ?_
        refine tn ?_
        refine Wc.ret ?_
        refine tr ?_
        refine postL.tmp rfl rfl ?_
        refine RetV.of ?_ st.below
        refine congrArg Value.bool ?_
        first | rfl | (exfalso; omega) | (simp only [*, decide_true, decide_false, Bool.not_true, Bool.not_false]; done) | (simp; omega) | (rw [Bool.eq_iff_iff]; simp; omega) | simp_all
    · obtain ⟨hn1, hz1⟩ := szL_ok (n := n) (z := 1048576) (by omega)
      refine Wc.region rfl ?_
      refine Wl.pure (PR.moveL rfl) ?_
      refine Wl.callS st (c_laws_toLayerS (A := A) (n := n) (cp := cp) (p := p) (c := c) (hR.st st) hc (by first | assumption | omega)) rfl ?_
      clear st
      intro b23 w23 st
      refine Wl.pure (PR.moveI rfl) ?_
      refine Wl.callXG [] st (c_spec_MarksOf_f (A := some ⟨b23, 0, none⟩) (n := n) (cp := n) (p := p) (c := c) (seed := seed) ((st.rdA (i := 0) (n := (n * 65)) rfl (all_sub (recV_len (s := 65) (layS_row _ _) _))).sl) hp hc (by first | assumption | omega) hs (by first | assumption | omega)) rfl rfl ?_
      clear st
      intro b25_25 c25_25 sp25_25 w24 hc25_25 hs25_25 st
      replace st : St [] w w24 [(b25_25, arrU .u32 0 (fun _ => 0) ++ sp25_25, 26), (b23, layS n p c, 29)] := st
      refine Wl.pure (PR.moveV (.tuple #[.slice (some ⟨b25_25, 0, none⟩) (0) (c25_25), .int .i64 (((mksC n p c : Nat) : Int))]) rfl) ?_
      refine Wl.pure (PR.extr (i := 0) (vs := [.slice (some ⟨b25_25, 0, none⟩) (0) (c25_25), .int .i64 (((mksC n p c : Nat) : Int))]) rfl rfl) ?_
      refine Wl.pure (PR.extr (i := 1) (vs := [.slice (some ⟨b25_25, 0, none⟩) (0) (c25_25), .int .i64 (((mksC n p c : Nat) : Int))]) rfl rfl) ?_
      refine Wl.pure (PR.assL rfl) ?_
      refine Wl.pure (PR.assI rfl) ?_
      refine Wl.nil ?_
      refine tn ?_
      refine Wc.seq ?_
      refine Wc.region rfl ?_
      refine Wl.pure (PR.moveL rfl) ?_
      refine Wl.callS st (c_laws_toLayerS (A := A) (n := n) (cp := cp) (p := p) (c := c) (hR.st st) hc (by first | assumption | omega)) rfl ?_
      clear st
      intro b29 w26 st
      refine Wl.pure (PR.assL rfl) ?_
      refine Wl.nil ?_
      refine tn ?_
      refine Wc.seq ?_
      refine Wc.region rfl ?_
      refine Wl.pure (PR.moveL rfl) ?_
      refine Wl.pure (PR.moveI rfl) ?_
      refine Wl.callV (c_impl_MarksOf_f (A := some ⟨b29, 0, none⟩) (n := n) (cp := n) (p := p) (c := c) (seed := seed) ((st.rdA (i := 0) (n := (n * 65)) rfl (all_sub (recV_len (s := 65) (layS_row _ _) _))).sl) hp hc (by first | assumption | omega) hs (by first | assumption | omega)) rfl ?_
      intro w27 hbel
      replace st := st.call hbel
      clear hbel
      refine Wl.pure (PR.moveV (.tuple #[.slice (none) (0) (0), .int .i64 (((mksC n p c : Nat) : Int))]) rfl) ?_
      refine Wl.pure (PR.extr (i := 0) (vs := [.slice (none) (0) (0), .int .i64 (((mksC n p c : Nat) : Int))]) rfl rfl) ?_
      refine Wl.pure (PR.extr (i := 1) (vs := [.slice (none) (0) (0), .int .i64 (((mksC n p c : Nat) : Int))]) rfl rfl) ?_
      refine Wl.pure (PR.assL rfl) ?_
      refine Wl.pure (PR.assI rfl) ?_
      refine Wl.nil ?_
      refine tn ?_
      refine Wc.seq ?_
      refine Wc.seq ?_
      refine Wc.region rfl ?_
      refine Wl.pure (PR.moveL rfl) ?_
      refine Wl.pure (PR.moveL rfl) ?_
      refine Wl.callV (c_laws_eqUint32S (A := none) (n := 0) (cp := 0) (c := (fun _ => 0)) (B := some ⟨b25_25, 0, none⟩) (cq := c25_25) (fun h => absurd h (by decide)) ((st.rdA (i := 1) (n := 0) rfl (app_all (arrU_len _))).sl) (by first | assumption | omega)) rfl ?_
      intro w28 hbel
      replace st := st.call hbel
      clear hbel
      refine Wl.pure (PR.not_ rfl) ?_
      refine Wl.pure (PR.moveB rfl) ?_
      refine Wl.on rfl rfl ?_
      refine Wl.pure (PR.moveI rfl) ?_
      refine Wl.on rfl rfl ?_
      refine Wl.pure (PR.moveI rfl) ?_
      refine Wl.on rfl rfl ?_
      refine Wl.pure (PR.neqS (a := ((mksC n p c : Nat) : Int)) rfl rfl) ?_
      refine Wl.pure (PR.pickFB rfl rfl) ?_
      refine Wl.nil ?_
      refine tn ?_
      refine Wc.condF rfl ?_
      refine Wc.skip ?_
      refine tn ?_
      refine Wc.seq ?_
      refine Wc.seq ?_
      refine Wc.region rfl ?_
      refine Wl.pure (PR.moveL rfl) ?_
      refine Wl.pure (PR.moveL rfl) ?_
      refine Wl.callS st (c_laws_toLayerS (A := A) (n := n) (cp := cp) (p := p) (c := c) (hR.st st) hc (by first | assumption | omega)) rfl ?_
      clear st
      intro b47 w29 st
      refine Wl.callV (c_laws_eqLayerS (A := some ⟨b29, 0, none⟩) (n := n) (cp := n) (p := p) (c := c) (B := some ⟨b47, 0, none⟩) (cq := n) ((st.rdA (i := 1) (n := (n * 65)) rfl (all_sub (recV_len (s := 65) (layS_row _ _) _))).sl) ((st.rdA (i := 0) (n := (n * 65)) rfl (all_sub (recV_len (s := 65) (layS_row _ _) _))).sl) (by first | assumption | omega)) rfl ?_
      intro w30 hbel
      replace st := st.call hbel
      clear hbel
      refine Wl.pure (PR.not_ rfl) ?_
      refine Wl.nil ?_
      refine tn ?_
      refine Wc.condF rfl ?_
      refine Wc.skip ?_
      refine tn ?_
      refine Wc.seq ?_
      refine Wc.region rfl ?_
      refine Wl.pure (PR.assI rfl) ?_
      refine Wl.nil ?_
      refine tn ?_
      refine Wc.seq ?_
      refine Wc.region rfl ?_
      refine Wl.pure (PR.moveL rfl) ?_
      refine Wl.pure (PR.moveI rfl) ?_
      replace st : St [] w w30 [(b47, layS n p c, 29), (b29, layS n p c ++ [], 29), (b25_25, arrU .u32 0 (fun _ => 0) ++ sp25_25, 26), (b23, layS n p c, 29)] := st.nilat (i := 1) rfl
      refine Wl.callXE [1] st (c_laws_markLayerS (ba := b29) (n := n) (cp := n) (p := p) (c := c) (sp := []) (z := 1) (by first | assumption | omega) (by first | assumption | omega) (st.lend (L' := [(b29, layS n p c ++ [], 29)]) [1] (by decide) rfl)) rfl rfl ?_
      clear st
      rintro ⟨p__32, c__33⟩ _ w31 st
      try dsimp only at st 
      replace st : St [] w w31 [(b29, layS n p__32 c__33 ++ [], 29), (b47, layS n p c, 29), (b25_25, arrU .u32 0 (fun _ => 0) ++ sp25_25, 26), (b23, layS n p c, 29)] := st
      refine Wl.pure (PR.assI rfl) ?_
      refine Wl.nil ?_
      refine tn ?_
      refine Wc.seq ?_
      refine Wc.seq ?_
      refine Wc.region rfl ?_
      refine Wl.pure (PR.moveI rfl) ?_
      refine Wl.pure (PR.lss (a := (((1 + 65 * n) : Nat) : Int)) (b := 0) rfl rfl) ?_
      refine Wl.pure (PR.moveB rfl) ?_
      refine Wl.splitF (q := (((1 + 65 * n) : Nat) : Int) < 0) rfl rfl (fun h34 => ?_) (fun h34 => ?_)
      · refine Wl.pure (PR.moveL rfl) ?_
        refine Wl.on rfl rfl ?_
        refine Wl.pure (PR.moveL rfl) ?_
        refine Wl.on rfl rfl ?_
        refine Wl.callV (c_laws_eqUint32S (A := none) (n := 0) (cp := 0) (c := (fun _ => 0)) (B := some ⟨b25_25, 0, none⟩) (cq := c25_25) (fun h => absurd h (by decide)) ((st.rdA (i := 2) (n := 0) rfl (app_all (arrU_len _))).sl) (by first | assumption | omega)) rfl ?_
        intro w35 hbel
        replace st := st.call hbel
        clear hbel
        refine Wl.on rfl rfl ?_
        refine Wl.pure (PR.not_ rfl) ?_
        refine Wl.pure (PR.pickFB rfl rfl) ?_
        refine Wl.pure (PR.moveB rfl) ?_
        refine Wl.on rfl rfl ?_
        refine Wl.pure (PR.moveI rfl) ?_
        refine Wl.on rfl rfl ?_
        refine Wl.pure (PR.moveI rfl) ?_
        refine Wl.on rfl rfl ?_
        refine Wl.pure (PR.neqS (a := ((mksC n p c : Nat) : Int)) rfl rfl) ?_
        refine Wl.pure (PR.pickFB rfl rfl) ?_
        refine Wl.nil ?_
        refine tn ?_
        refine Wc.condF rfl ?_
        refine Wc.skip ?_
        refine tn ?_
        refine Wc.seq ?_
        refine Wc.region rfl ?_
        refine Wl.pure (PR.assI rfl) ?_
        refine Wl.nil ?_
        refine tn ?_
        refine Wc.seq ?_
        refine Wc.region rfl ?_
        refine Wl.pure (PR.moveL rfl) ?_
        refine Wl.pure (PR.moveI rfl) ?_
        refine Wl.callV (c_markUint32S0 (A := none) (cp := 0) (z := 1)) rfl ?_
        intro w36 hbel
        replace st := st.call hbel
        clear hbel
        refine Wl.pure (PR.assI rfl) ?_
        refine Wl.nil ?_
        refine tn ?_
        refine Wc.seq ?_
        refine Wc.region rfl ?_
        refine Wl.pure (PR.assI rfl) ?_
        refine Wl.nil ?_
        refine tn ?_
        refine Wc.seq ?_
        refine Wc.region rfl ?_
        refine Wl.pure (PR.moveL rfl) ?_
        refine Wl.pure (PR.moveI rfl) ?_
        refine Wl.callV (c_laws_heldUint32S (A := none) (n := 0) (cp := 0) (c := (fun _ => 0)) (z := 1) (fun h => absurd h (by decide)) (by first | assumption | omega) (fun u hu => by first | rfl | omega)) rfl ?_
        intro w37 hbel
        replace st := st.call hbel
        clear hbel
        refine Wl.pure (PR.assI rfl) ?_
        refine Wl.nil ?_
        refine tn ?_
        refine Wc.seq ?_
        refine Wc.seq ?_
        refine Wc.region rfl ?_
        refine Wl.pure (PR.moveI rfl) ?_
        refine Wl.pure (PR.lss (a := (((1 + 0) : Nat) : Int)) (b := 0) rfl rfl) ?_
        refine Wl.nil ?_
        refine tn ?_
        refine Wc.condD (p := (((1 + 0) : Nat) : Int) < 0) rfl (fun h38 => ?_) (fun h38 => ?_)
        · refine Wc.seq ?_
          refine Wc.region rfl ?_
          refine Wl.pure (PR.assB rfl) ?_
          refine Wl.nil ?_
          refine tn ?_
          refine Wc.ret ?_
          refine tr ?_
          refine postL.tmp rfl rfl ?_
          refine RetV.of ?_ st.below
          refine congrArg Value.bool ?_
          first | rfl | (exfalso; omega) | (simp only [*, decide_true, decide_false, Bool.not_true, Bool.not_false]; done) | (simp; omega) | (rw [Bool.eq_iff_iff]; simp; omega) | simp_all
        · refine Wc.skip ?_
          refine tn ?_
          refine Wc.seq ?_
          refine Wc.seq ?_
          refine Wc.region rfl ?_
          refine Wl.pure (PR.moveI rfl) ?_
          refine Wl.pure (PR.moveI rfl) ?_
          refine Wl.pure (PR.neq (a := (((1 + 0) : Nat) : Int)) (b := 1) rfl rfl) ?_
          refine Wl.nil ?_
          refine tn ?_
          refine Wc.condN (p := (((1 + 0) : Nat) : Int) = 1) rfl (fun h39 => ?_) (fun h39 => ?_)
          · refine Wc.seq ?_
            refine Wc.region rfl ?_
            refine Wl.pure (PR.assB rfl) ?_
            refine Wl.nil ?_
            refine tn ?_
            refine Wc.ret ?_
            refine tr ?_
            refine postL.tmp rfl rfl ?_
            refine RetV.of ?_ st.below
            refine congrArg Value.bool ?_
            first | rfl | (exfalso; omega) | (simp only [*, decide_true, decide_false, Bool.not_true, Bool.not_false]; done) | (simp; omega) | (rw [Bool.eq_iff_iff]; simp; omega) | simp_all
          · refine Wc.skip ?_
            refine tn ?_
            refine Wc.seq ?_
            refine Wc.region rfl ?_
            refine Wl.pure (PR.moveL rfl) ?_
            refine Wl.callS st (c_laws_toLayerS (A := A) (n := n) (cp := cp) (p := p) (c := c) (hR.st st) hc (by first | assumption | omega)) rfl ?_
            clear st
            intro b79 w40 st
            refine Wl.pure (PR.moveI rfl) ?_
            refine Wl.callV (c_impl_MarksOf_f (A := some ⟨b79, 0, none⟩) (n := n) (cp := n) (p := p) (c := c) (seed := seed) ((st.rdA (i := 0) (n := (n * 65)) rfl (all_sub (recV_len (s := 65) (layS_row _ _) _))).sl) hp hc (by first | assumption | omega) hs (by first | assumption | omega)) rfl ?_
            intro w41 hbel
            replace st := st.call hbel
            clear hbel
            refine Wl.pure (PR.moveV (.tuple #[.slice (none) (0) (0), .int .i64 (((mksC n p c : Nat) : Int))]) rfl) ?_
            refine Wl.pure (PR.extr (i := 0) (vs := [.slice (none) (0) (0), .int .i64 (((mksC n p c : Nat) : Int))]) rfl rfl) ?_
            refine Wl.pure (PR.extr (i := 1) (vs := [.slice (none) (0) (0), .int .i64 (((mksC n p c : Nat) : Int))]) rfl rfl) ?_
            refine Wl.pure (PR.assL rfl) ?_
            refine Wl.pure (PR.assI rfl) ?_
            refine Wl.nil ?_
            refine tn ?_
            refine Wc.seq ?_
            refine Wc.seq ?_
            refine Wc.region rfl ?_
            refine Wl.pure (PR.moveL rfl) ?_
            refine Wl.pure (PR.moveL rfl) ?_
            refine Wl.callV (c_laws_eqUint32S (A := none) (n := 0) (cp := 0) (c := (fun _ => 0)) (B := some ⟨b25_25, 0, none⟩) (cq := c25_25) (fun h => absurd h (by decide)) ((st.rdA (i := 3) (n := 0) rfl (app_all (arrU_len _))).sl) (by first | assumption | omega)) rfl ?_
            intro w42 hbel
            replace st := st.call hbel
            clear hbel
            refine Wl.pure (PR.not_ rfl) ?_
            refine Wl.pure (PR.moveB rfl) ?_
            refine Wl.on rfl rfl ?_
            refine Wl.pure (PR.moveI rfl) ?_
            refine Wl.on rfl rfl ?_
            refine Wl.pure (PR.moveI rfl) ?_
            refine Wl.on rfl rfl ?_
            refine Wl.pure (PR.neqS (a := ((mksC n p c : Nat) : Int)) rfl rfl) ?_
            refine Wl.pure (PR.pickFB rfl rfl) ?_
            refine Wl.nil ?_
            refine tn ?_
            refine Wc.condF rfl ?_
            refine Wc.skip ?_
            refine tn ?_
            refine Wc.seq ?_
            refine Wc.region rfl ?_
            refine Wl.pure (PR.assI rfl) ?_
            refine Wl.nil ?_
            refine tn ?_
            refine Wc.seq ?_
            refine Wc.region rfl ?_
            refine Wl.pure (PR.moveL rfl) ?_
            refine Wl.pure (PR.moveI rfl) ?_
            refine Wl.callV (c_laws_heldUint32S (A := none) (n := 0) (cp := 0) (c := (fun _ => 0)) (z := 1) (fun h => absurd h (by decide)) (by first | assumption | omega) (fun u hu => by first | rfl | omega)) rfl ?_
            intro w43 hbel
            replace st := st.call hbel
            clear hbel
            refine Wl.pure (PR.assI rfl) ?_
            refine Wl.nil ?_
            refine tn ?_
            refine Wc.seq ?_
            refine Wc.seq ?_
            refine Wc.region rfl ?_
            refine Wl.pure (PR.moveI rfl) ?_
            refine Wl.pure (PR.lss (a := (((1 + 0) : Nat) : Int)) (b := 0) rfl rfl) ?_
            refine Wl.nil ?_
            refine tn ?_
            refine Wc.condD (p := (((1 + 0) : Nat) : Int) < 0) rfl (fun h44 => ?_) (fun h44 => ?_)
            · refine Wc.seq ?_
              refine Wc.region rfl ?_
              refine Wl.pure (PR.assB rfl) ?_
              refine Wl.nil ?_
              refine tn ?_
              refine Wc.ret ?_
              refine tr ?_
              refine postL.tmp rfl rfl ?_
              refine RetV.of ?_ st.below
              refine congrArg Value.bool ?_
              first | rfl | (exfalso; omega) | (simp only [*, decide_true, decide_false, Bool.not_true, Bool.not_false]; done) | (simp; omega) | (rw [Bool.eq_iff_iff]; simp; omega) | simp_all
            · refine Wc.skip ?_
              refine tn ?_
              refine Wc.seq ?_
              refine Wc.seq ?_
              refine Wc.region rfl ?_
              refine Wl.pure (PR.moveI rfl) ?_
              refine Wl.pure (PR.moveI rfl) ?_
              refine Wl.pure (PR.neq (a := (((1 + 0) : Nat) : Int)) (b := 1) rfl rfl) ?_
              refine Wl.nil ?_
              refine tn ?_
              refine Wc.condN (p := (((1 + 0) : Nat) : Int) = 1) rfl (fun h45 => ?_) (fun h45 => ?_)
              · refine Wc.seq ?_
                refine Wc.region rfl ?_
                refine Wl.pure (PR.assB rfl) ?_
                refine Wl.nil ?_
                refine tn ?_
                refine Wc.ret ?_
                refine tr ?_
                refine postL.tmp rfl rfl ?_
                refine RetV.of ?_ st.below
                refine congrArg Value.bool ?_
                first | rfl | (exfalso; omega) | (simp only [*, decide_true, decide_false, Bool.not_true, Bool.not_false]; done) | (simp; omega) | (rw [Bool.eq_iff_iff]; simp; omega) | simp_all
              · refine Wc.skip ?_
                refine tn ?_
                refine Wc.seq ?_
                refine Wc.region rfl ?_
                refine Wl.pure (PR.assB rfl) ?_
                refine Wl.nil ?_
                refine tn ?_
                refine Wc.ret ?_
                refine postL.tmp rfl rfl ?_
                exact RetV.of rfl st.below
      · refine Wl.off rfl rfl rfl ?_
        refine Wl.off rfl rfl rfl ?_
        refine Wl.off rfl rfl rfl ?_
        refine Wl.pure (PR.pickTB rfl rfl) ?_
        refine Wl.pure (PR.moveB rfl) ?_
        refine Wl.off rfl rfl rfl ?_
        refine Wl.off rfl rfl rfl ?_
        refine Wl.off rfl rfl rfl ?_
        refine Wl.pure (PR.pickTB rfl rfl) ?_
        refine Wl.nil ?_
        refine tn ?_
        refine Wc.condT rfl ?_
        refine Wc.seq ?_
        refine Wc.region rfl ?_
        refine Wl.pure (PR.assB rfl) ?_
        refine Wl.nil ?_
        refine tn ?_
        refine Wc.ret ?_
        refine tr ?_
        refine postL.tmp rfl rfl ?_
        refine RetV.of ?_ st.below
        refine congrArg Value.bool ?_
        first | rfl | (exfalso; omega) | (simp only [*, decide_true, decide_false, Bool.not_true, Bool.not_false]; done) | (simp; omega) | (rw [Bool.eq_iff_iff]; simp; omega) | simp_all

end Go.Proofs.Ytagghfllgafmgaa
