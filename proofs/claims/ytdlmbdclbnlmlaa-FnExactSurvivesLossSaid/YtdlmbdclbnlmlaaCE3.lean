/-
  Contracts of functions, printed by a program of ours.
-/
import Derived.Test.YtdlmbdclbnlmlaaCE2
import Derived.Test.YtdlmbdclbnlmlaaApp
namespace Go.Proofs.Ytdlmbdclbnlmlaa
open Go.RowKit
set_option linter.unusedVariables false
set_option linter.unusedSimpArgs false

set_option maxHeartbeats 400000 in
set_option maxRecDepth 4000 in
theorem c_slices_Min_int64_int64 {A : Option Addr} {n : Nat} {cp : Nat} {c : Nat → Int} {w : World} (hR : RdS w A n (arrZ .i64 n c)) (hn : 0 < n ∧ n ≤ 1000) :
    CE Try.prog 50 [.slice (A) (n) (cp)] w (RetV w (.int .i64 (mnZ c (n - 1)))) := by
  refine CE.enter 25 [(0, .slice (A) (n) (cp))] en_50 Try.func50 rfl rfl (Nat.le_of_ble_eq_true rfl) rfl ?_
  have st := St.start w
  refine Wc.seq ?_
  refine Wc.region rfl ?_
  refine Wl.pure (PR.assI rfl) ?_
  refine Wl.nil ?_
  refine tn ?_
  refine Wc.seq ?_
  refine Wc.seq ?_
  refine Wc.region rfl ?_
  refine Wl.pure (PR.moveL rfl) ?_
  refine Wl.pure (PR.lenL tS_57 rfl) ?_
  refine Wl.pure (PR.lss (a := ((n : Nat) : Int)) (b := 1) rfl rfl) ?_
  refine Wl.nil ?_
  refine tn ?_
  refine Wc.condD (p := ((n : Nat) : Int) < 1) rfl (fun h1 => ?_) (fun h1 => ?_)
  · exfalso
    omega
  · refine Wc.skip ?_
    refine tn ?_
    refine Wc.seq ?_
    refine Wc.region rfl ?_
    refine Wl.pure (PR.moveL rfl) ?_
    obtain ⟨bs2, os3, rfl, hs4⟩ := hR (by omega)
    refine Wl.pure (PR.idxAddrS1 (i := 0) tS_57 rfl rfl (by omega)) ?_
    refine Wl.loadC tA_2 rfl ((hs4.st st).at_ (arrZ_get0 (by omega)) (Nat.add_assoc _ _ _).symm) ?_
    refine Wl.pure (PR.assI rfl) ?_
    refine Wl.nil ?_
    refine tn ?_
    refine Wc.seq ?_
    refine Wc.seq ?_
    refine Wc.region rfl ?_
    refine Wl.pure (PR.assI rfl) ?_
    refine Wl.nil ?_
    refine tn ?_
    refine Wc.block ?_
    refine Wc.loopF (γ := Nat × Int) (fun g => [(0, .slice (some ⟨bs2, os3, none⟩) (n) (cp)), (2, .int .i64 (0)), (3, .int .i64 (g.2)), (4, .int .i64 ((((g.1 + 1) : Nat) : Int)))]) (fun g w_ => St [] w w_ [] ∧ (g.1 + 1 ≤ n) ∧ (g.2 = mnZ c g.1)) (fun g => n - g.1) ?_ ?_
    · exact ⟨(0, c 0), (.cons rfl (.cons rfl (.cons rfl (.cons rfl (.nil _))))), st, (by first | omega | (dsimp only; omega)), rfl⟩
    clear st
    rintro ⟨k, v⟩ w5 ⟨st, hk, hv⟩
    try dsimp only at st hk hv ⊢
    refine Wc.seq ?_
    refine Wc.seq ?_
    refine Wc.region rfl ?_
    refine Wl.pure (PR.moveI rfl) ?_
    refine Wl.pure (PR.moveL rfl) ?_
    refine Wl.pure (PR.lenL tS_57 rfl) ?_
    refine Wl.pure (PR.lss (a := (((k + 1) : Nat) : Int)) (b := ((n : Nat) : Int)) rfl rfl) ?_
    refine Wl.nil ?_
    refine tn ?_
    refine Wc.condD (p := (((k + 1) : Nat) : Int) < ((n : Nat) : Int)) rfl (fun h6 => ?_) (fun h6 => ?_)
    · refine Wc.skip ?_
      refine tn ?_
      refine Wc.seq ?_
      refine Wc.block ?_
      refine Wc.region rfl ?_
      refine Wl.pure (PR.moveI rfl) ?_
      refine Wl.pure (PR.moveL rfl) ?_
      refine Wl.pure (PR.moveI rfl) ?_
      refine Wl.pure (PR.idxAddrS1 (i := (k + 1)) tS_57 rfl rfl (by omega)) ?_
      refine Wl.loadC tA_2 rfl ((hs4.st st).at_ (arrZ_get0 (by omega)) (Nat.add_assoc _ _ _).symm) ?_
      refine Wl.pure (PR.min2 (a := v) (b := c ((k + 1))) rfl rfl) ?_
      refine Wl.pure (PR.assI rfl) ?_
      refine Wl.nil ?_
      refine bn ?_
      refine tn ?_
      refine Wc.region rfl ?_
      refine Wl.pure (PR.moveI rfl) ?_
      refine Wl.pure (PR.add (a := (((k + 1) : Nat) : Int)) (b := 1) rfl rfl (by simp only [fitI]; omega)) ?_
      refine Wl.pure (PR.assI rfl) ?_
      refine Wl.nil ?_
      refine tn ?_
      exact ⟨(k + 1, (min v (c ((k + 1))))), (.cons rfl (.cons rfl (.cons rfl (.cons rfl (.nil _))))), ⟨st, (by first | omega | (dsimp only; omega)), (by rw [hv]; rfl)⟩, (by first | omega | (dsimp only; omega))⟩
    · refine Wc.exit ?_
      refine tx ?_
      refine tx ?_
      refine bh ?_
      refine tn ?_
      refine Wc.seq ?_
      refine Wc.region rfl ?_
      refine Wl.pure (PR.moveI rfl) ?_
      refine Wl.pure (PR.assI rfl) ?_
      refine Wl.nil ?_
      refine tn ?_
      refine Wc.ret ?_
      refine postL.tmp rfl rfl ?_
      refine RetV.of ?_ st.below
      refine congrArg (Value.int .i64) ?_
      obtain rfl : n = k + 1 := by omega
      exact hv

set_option maxHeartbeats 400000 in
set_option maxRecDepth 4000 in
theorem c_impl_gaps {s : Nat} {p : Nat} {a : Nat → Nat} {b : Nat → Nat} {m : Int} {f : Nat} {w : World} (hp8 : 1 ≤ p ∧ p ≤ 8) (ha : ∀ k, a k < 256) (hb : ∀ k, b k < 256) (hm : -128 ≤ m ∧ m ≤ 127) (hf : f < 18446744073709551616) (hm6 : 1 ≤ m ∧ m ≤ 6) :
    CE Try.prog 33 [.agg (schV ((s : Nat) : Int) ((p : Nat) : Int) (a) (b)).toArray, .agg ([.int .i8 (m), .int .u64 (((f : Nat) : Int))]).toArray] w (RetXG w [] 2 1 ((flN (bitB f) (1 <<< (m).toNat))) (arrZ .i64 (flN (bitB f) (1 <<< (m).toNat)) (fun j => gapZ a b (flA (bitB f) (1 <<< (m).toNat) j))) (fun b_ c_ => .slice (some ⟨b_, 0, none⟩) ((flN (bitB f) (1 <<< (m).toNat))) (c_)) []) := by
  refine CE.enter 25 [(0, .agg (schV ((s : Nat) : Int) ((p : Nat) : Int) (a) (b)).toArray), (1, .agg ([.int .i8 (m), .int .u64 (((f : Nat) : Int))]).toArray)] en_33 Try.func33 rfl rfl (Nat.le_of_ble_eq_true rfl) rfl ?_
  have st := St.start w
  refine Wc.seq ?_
  refine Wc.region rfl ?_
  refine Wl.boxA st rfl ?_
  clear st
  intro b2 w1 st
  refine Wl.boxA st rfl ?_
  clear st
  intro b3 w2 st
  refine Wl.pure (PR.assL rfl) ?_
  refine Wl.nil ?_
  refine tn ?_
  refine Wc.seq ?_
  refine Wc.region rfl ?_
  refine Wl.buildSlice (ps := []) (cs := arrZ .i64 0 (fun _ => 0) ++ []) st tS_57 tZ_2 rfl rfl rfl ?_
  clear st
  intro b7 w3 st
  refine Wl.pure (PR.assL rfl) ?_
  refine Wl.nil ?_
  refine tn ?_
  refine Wc.seq ?_
  refine Wc.seq ?_
  have hsz := shl_bd (m := m.toNat) (by omega)
  refine Wc.region rfl ?_
  refine Wl.loadA (i := 1) st tA_33 rfl rfl rfl rfl ?_
  refine Wl.callV (c_impl_Family_size (m := m) (f := f) (by first | assumption | omega) hf (by first | assumption | omega)) rfl ?_
  intro w4 hbel
  replace st := st.call hbel
  clear hbel
  refine Wl.pure (PR.moveI rfl) ?_
  refine Wl.nil ?_
  refine tn ?_
  refine Wc.block ?_
  refine Wc.loopF (γ := Nat × Nat × (Nat → Int) × Nat × Nat × List Value) (fun g => [(2, .pointer (some ⟨b2, 0, none⟩)), (3, .pointer (some ⟨b3, 0, none⟩)), (4, .slice (none) (0) (0)), (5, .slice (some ⟨g.2.2.2.1, 0, none⟩) (g.2.1) (g.2.2.2.2.1)), (9, .int .i64 ((((1 <<< (m).toNat) : Nat) : Int))), (10, .int .i64 (((g.1 : Nat) : Int)))]) (fun g w_ => St [] w w_ [(g.2.2.2.1, arrZ .i64 g.2.1 g.2.2.1 ++ g.2.2.2.2.2, 2), (b3, [.int .i8 (m), .int .u64 (((f : Nat) : Int))], 33), (b2, schV ((s : Nat) : Int) ((p : Nat) : Int) (a) (b), 31)] ∧ (g.1 ≤ 1 <<< m.toNat) ∧ (g.2.1 = flN (bitB f) g.1) ∧ (∀ j, j < g.2.1 → g.2.2.1 j = gapZ a b (flA (bitB f) g.1 j)) ∧ (g.2.1 ≤ g.2.2.2.2.1) ∧ (g.2.2.2.2.2.length = (g.2.2.2.2.1 - g.2.1) * 1)) (fun g => 1 <<< m.toNat - g.1) ?_ ?_
  · exact ⟨(0, 0, (fun _ => 0), b7, 0, []), (.cons rfl (.cons rfl (.cons rfl (.cons rfl (.cons rfl (.cons rfl (.nil _))))))), st, (by first | omega | (dsimp only; omega)), rfl, (fun j hj => absurd hj (Nat.not_lt_zero _)), (Nat.le_refl _), rfl⟩
  clear st
  rintro ⟨k, mm, u, b_o, c_o, sp_o⟩ w5 ⟨st, hk, hm_, hu, hc_o, hs_o⟩
  try dsimp only at st hk hm_ hu hc_o hs_o ⊢
  have hfl8 := flN_le (bitB f) k
  refine Wc.seq ?_
  refine Wc.region rfl ?_
  refine Wl.pure (PR.lss (a := ((k : Nat) : Int)) (b := (((1 <<< (m).toNat) : Nat) : Int)) rfl rfl) ?_
  refine Wl.nil ?_
  refine tn ?_
  refine Wc.seq ?_
  refine Wc.condD (p := ((k : Nat) : Int) < (((1 <<< (m).toNat) : Nat) : Int)) rfl (fun h6 => ?_) (fun h6 => ?_)
  · refine Wc.skip ?_
    refine tn ?_
    refine Wc.seq ?_
    refine Wc.block ?_
    refine Wc.seq ?_
    refine Wc.region rfl ?_
    refine Wl.pure (PR.moveI rfl) ?_
    refine Wl.pure (PR.assI rfl) ?_
    refine Wl.nil ?_
    refine tn ?_
    refine Wc.seq ?_
    refine Wc.region rfl ?_
    refine Wl.loadA (i := 1) st tA_33 rfl rfl rfl rfl ?_
    refine Wl.pure (PR.moveI rfl) ?_
    refine Wl.callV (c_impl_Family_has (m := m) (f := f) (x := k) (by first | assumption | omega) hf (by first | assumption | omega)) rfl ?_
    intro w7 hbel
    replace st := st.call hbel
    clear hbel
    refine Wl.nil ?_
    refine tn ?_
    refine Wc.condB (b := bitB f k) rfl (fun h8 => ?_) (fun h8 => ?_)
    · refine Wc.region rfl ?_
      refine Wl.pure (PR.moveL rfl) ?_
      refine Wl.loadA (i := 2) st tA_31 rfl rfl (all_sub schV_len) schV_len ?_
      refine Wl.pure (PR.moveI rfl) ?_
      refine Wl.pure (PR.conv (n := ((k : Nat) : Int)) tI_5 rfl (by simp only [fitI]; omega) Try.underlying3) ?_
      refine Wl.callV (c_impl_Scheme_gap (s := ((s : Nat) : Int)) (p := ((p : Nat) : Int)) (a := a) (b := b) (x := k) ha hb (by first | assumption | omega)) rfl ?_
      intro w9 hbel
      replace st := st.call hbel
      clear hbel
      refine Wl.buildSlice (ps := [(0, .int .i64 (gapZ a b k))]) (cs := [.int .i64 (gapZ a b k)]) st tS_57 tZ_2 rfl rfl rfl ?_
      clear st
      intro b21 w10 st
      refine Wl.append (n := mm) (c := c_o) (m := 1) (cs := arrZ .i64 mm u) (sp := sp_o) (vs := [.int .i64 (gapZ a b k)]) (i := 1) st tS_57 tZ_2 rfl rfl rfl (by rw [(arrZ_len _), Nat.mul_one]) hs_o hc_o rfl (Src.ofRdA (tyS_und tS_57) (st.rdA (i := 0) (n := 1) rfl rfl) rfl (by simp [Value.oneCell'])) (by omega) (by omega) ?_
      clear st
      intro b22 c22 sp22 w11 hc22 hs22 st
      rw [arrZ_snoc] at st
      replace st : St [] w w11 [(b22, arrZ .i64 (mm + 1) (upd u mm (gapZ a b k)) ++ sp22, 2), (b21, [.int .i64 (gapZ a b k)], 2), (b3, [.int .i8 (m), .int .u64 (((f : Nat) : Int))], 33), (b2, schV ((s : Nat) : Int) ((p : Nat) : Int) (a) (b), 31)] := st
      refine Wl.pure (PR.assL rfl) ?_
      refine Wl.nil ?_
      refine bn ?_
      refine tn ?_
      refine Wc.region rfl ?_
      refine Wl.pure (PR.add (a := ((k : Nat) : Int)) (b := 1) rfl rfl (by simp only [fitI]; omega)) ?_
      refine Wl.pure (PR.moveI rfl) ?_
      refine Wl.nil ?_
      refine tn ?_
      replace st : St [] w w11 [(b22, arrZ .i64 (mm + 1) (upd u mm (gapZ a b k)) ++ sp22, 2), (b3, [.int .i8 (m), .int .u64 (((f : Nat) : Int))], 33), (b2, schV ((s : Nat) : Int) ((p : Nat) : Int) (a) (b), 31)] := st.pick [0, 2, 3] (by decide) rfl
      have hfl9 := flN_le (bitB f) k
      exact ⟨(k + 1, mm + 1, (upd u mm (gapZ a b k)), b22, c22, sp22), (.cons rfl (.cons rfl (.cons rfl (.cons rfl (.cons rfl (.cons rfl (.nil _))))))), ⟨st, (by first | omega | (dsimp only; omega)), (by first | exact flN_t hm_ (by assumption) | exact flN_f hm_ (by assumption)), (by first | exact flA_t (g := gapZ a b) hm_ hu (by assumption) | exact flA_f (g := gapZ a b) hu (by assumption)), hc22, hs22⟩, (by first | omega | (dsimp only; omega))⟩
    · refine Wc.skip ?_
      refine bn ?_
      refine tn ?_
      refine Wc.region rfl ?_
      refine Wl.pure (PR.add (a := ((k : Nat) : Int)) (b := 1) rfl rfl (by simp only [fitI]; omega)) ?_
      refine Wl.pure (PR.moveI rfl) ?_
      refine Wl.nil ?_
      refine tn ?_
      have hfl9 := flN_le (bitB f) k
      exact ⟨(k + 1, mm, u, b_o, c_o, sp_o), (.cons rfl (.cons rfl (.cons rfl (.cons rfl (.cons rfl (.cons rfl (.nil _))))))), ⟨st, (by first | omega | (dsimp only; omega)), (by first | exact flN_t hm_ (by assumption) | exact flN_f hm_ (by assumption)), (by first | exact flA_t (g := gapZ a b) hm_ hu (by assumption) | exact flA_f (g := gapZ a b) hu (by assumption)), hc_o, hs_o⟩, (by first | omega | (dsimp only; omega))⟩
  · refine Wc.exit ?_
    refine tx ?_
    refine tx ?_
    refine bh ?_
    refine tn ?_
    refine Wc.seq ?_
    refine Wc.region rfl ?_
    refine Wl.pure (PR.moveL rfl) ?_
    refine Wl.pure (PR.assL rfl) ?_
    refine Wl.nil ?_
    refine tn ?_
    refine Wc.ret ?_
    refine postL.tmp rfl rfl ?_
    obtain rfl : k = 1 <<< m.toNat := by omega
    subst hm_
    rw [arrZ_congr (fun j hj => hu j hj)] at st
    replace st : St [] w w5 [(b_o, arrZ .i64 (flN (bitB f) (1 <<< (m).toNat)) (fun j => gapZ a b (flA (bitB f) (1 <<< (m).toNat) j)) ++ sp_o, 2)] := st.pick [0] (by decide) rfl
    exact ⟨b_o, c_o, sp_o, hc_o, hs_o, rfl, st⟩

set_option maxHeartbeats 400000 in
set_option maxRecDepth 4000 in
theorem c_impl_leastGap {s : Nat} {p : Nat} {a : Nat → Nat} {b : Nat → Nat} {m : Int} {f : Nat} {w : World} (hp8 : 1 ≤ p ∧ p ≤ 8) (ha : ∀ k, a k < 256) (hb : ∀ k, b k < 256) (hm : -128 ≤ m ∧ m ≤ 127) (hf : f < 18446744073709551616) (hm6 : 1 ≤ m ∧ m ≤ 6) (hpos : 0 < flN (bitB f) (1 <<< m.toNat)) :
    CE Try.prog 28 [.agg (schV ((s : Nat) : Int) ((p : Nat) : Int) (a) (b)).toArray, .agg ([.int .i8 (m), .int .u64 (((f : Nat) : Int))]).toArray] w (RetV w (.int .i64 (lgF a b f (1 <<< (m).toNat)))) := by
  refine CE.enter 9 [(0, .agg (schV ((s : Nat) : Int) ((p : Nat) : Int) (a) (b)).toArray), (1, .agg ([.int .i8 (m), .int .u64 (((f : Nat) : Int))]).toArray)] en_28 Try.func28 rfl rfl (Nat.le_of_ble_eq_true rfl) rfl ?_
  have st := St.start w
  refine Wc.seq ?_
  refine Wc.region rfl ?_
  refine Wl.boxA st rfl ?_
  clear st
  intro b2 w1 st
  refine Wl.boxA st rfl ?_
  clear st
  intro b3 w2 st
  refine Wl.pure (PR.assI rfl) ?_
  refine Wl.nil ?_
  refine tn ?_
  refine Wc.seq ?_
  have hsz := shl_bd (m := m.toNat) (by omega)
  have hfl := flN_le (bitB f) (1 <<< m.toNat)
  refine Wc.region rfl ?_
  refine Wl.loadA (i := 1) st tA_31 rfl rfl (all_sub schV_len) schV_len ?_
  refine Wl.loadA (i := 0) st tA_33 rfl rfl rfl rfl ?_
  refine Wl.callXG [] st (c_impl_gaps (s := s) (p := p) (a := a) (b := b) (m := m) (f := f) (by first | assumption | omega) ha hb (by first | assumption | omega) hf (by first | assumption | omega)) rfl rfl ?_
  clear st
  intro b7 c7 sp7 w3 hc7 hs7 st
  replace st : St [] w w3 [(b7, arrZ .i64 (flN (bitB f) (1 <<< (m).toNat)) (fun j => gapZ a b (flA (bitB f) (1 <<< (m).toNat) j)) ++ sp7, 2), (b3, [.int .i8 (m), .int .u64 (((f : Nat) : Int))], 33), (b2, schV ((s : Nat) : Int) ((p : Nat) : Int) (a) (b), 31)] := st
  refine Wl.callV (c_slices_Min_int64_int64 (A := some ⟨b7, 0, none⟩) (n := (flN (bitB f) (1 <<< (m).toNat))) (cp := c7) (c := (fun j => gapZ a b (flA (bitB f) (1 <<< (m).toNat) j))) ((st.rdA (i := 0) (n := (flN (bitB f) (1 <<< (m).toNat))) rfl (app_all (arrZ_len _))).sl) ⟨hpos, by omega⟩) rfl ?_
  intro w4 hbel
  replace st := st.call hbel
  clear hbel
  refine Wl.pure (PR.assI rfl) ?_
  refine Wl.nil ?_
  refine tn ?_
  refine Wc.ret ?_
  refine postL.tmp rfl rfl ?_
  refine RetV.of ?_ st.below
  exact congrArg (Value.int .i64) ((lg_eq ha hb _).2 hpos)

set_option maxHeartbeats 400000 in
set_option maxRecDepth 4000 in
theorem c_spec_l00Min {n : Int} {m : Int} {w : World} :
    CE Try.prog 49 [.int .i64 (n), .int .i64 (m)] w (RetV w (.int .i64 ((min n m)))) := by
  refine CE.enter 10 [(0, .int .i64 (n)), (1, .int .i64 (m))] en_49 Try.func49 rfl rfl (Nat.le_of_ble_eq_true rfl) rfl ?_
  have st := St.start w
  refine Wc.seq ?_
  refine Wc.region rfl ?_
  refine Wl.pure (PR.assI rfl) ?_
  refine Wl.nil ?_
  refine tn ?_
  refine Wc.seq ?_
  refine Wc.seq ?_
  refine Wc.region rfl ?_
  refine Wl.pure (PR.moveI rfl) ?_
  refine Wl.pure (PR.moveI rfl) ?_
  refine Wl.pure (PR.lss (a := n) (b := m) rfl rfl) ?_
  refine Wl.nil ?_
  refine tn ?_
  refine Wc.condD (p := n < m) rfl (fun h1 => ?_) (fun h1 => ?_)
  · refine Wc.seq ?_
    refine Wc.region rfl ?_
    refine Wl.pure (PR.moveI rfl) ?_
    refine Wl.pure (PR.assI rfl) ?_
    refine Wl.nil ?_
    refine tn ?_
    refine Wc.ret ?_
    refine tr ?_
    refine postL.tmp rfl rfl ?_
    refine RetV.of ?_ st.below
    refine congrArg (Value.int .i64) ?_
    omega
  · refine Wc.skip ?_
    refine tn ?_
    refine Wc.seq ?_
    refine Wc.region rfl ?_
    refine Wl.pure (PR.moveI rfl) ?_
    refine Wl.pure (PR.assI rfl) ?_
    refine Wl.nil ?_
    refine tn ?_
    refine Wc.ret ?_
    refine postL.tmp rfl rfl ?_
    refine RetV.of ?_ st.below
    refine congrArg (Value.int .i64) ?_
    omega

set_option maxHeartbeats 400000 in
set_option maxRecDepth 4000 in
theorem c_spec_l06Least {bk : Nat} {o : Nat} {s : Nat} {p : Nat} {a : Nat → Nat} {b : Nat → Nat} {bf : Nat} {of : Nat} {m : Int} {f : Nat} {w : World} (hR : RdA w bk o (schV ((s : Nat) : Int) ((p : Nat) : Int) a b)) (hp8 : 1 ≤ p ∧ p ≤ 8) (ha : ∀ k, a k < 256) (hb : ∀ k, b k < 256) (hF : RdA w bf of [.int .i8 m, .int .u64 ((f : Nat) : Int)]) (hm : -128 ≤ m ∧ m ≤ 127) (hf : f < 18446744073709551616) (hm6 : 1 ≤ m ∧ m ≤ 6) :
    CE Try.prog 25 [.pointer (some ⟨bk, o, none⟩), .pointer (some ⟨bf, of, none⟩)] w (RetV w (.int .i64 (lgF a b f (1 <<< (m).toNat)))) := by
  refine CE.enter 27 [(0, .pointer (some ⟨bk, o, none⟩)), (1, .pointer (some ⟨bf, of, none⟩))] en_25 Try.func25 rfl rfl (Nat.le_of_ble_eq_true rfl) rfl ?_
  have st := St.start w
  refine Wc.seq ?_
  refine Wc.region rfl ?_
  refine Wl.pure (PR.assI rfl) ?_
  refine Wl.nil ?_
  refine tn ?_
  refine Wc.seq ?_
  obtain ⟨e, rfl⟩ : ∃ e : Nat, m = ((e : Nat) : Int) := ⟨m.toNat, by omega⟩
  have hsz := shl_bd (m := e) (by omega)
  refine Wc.region rfl ?_
  refine Wl.pure (PR.assI rfl) ?_
  refine Wl.nil ?_
  refine tn ?_
  refine Wc.seq ?_
  refine Wc.seq ?_
  refine Wc.region rfl ?_
  refine Wl.pure (PR.assI rfl) ?_
  refine Wl.nil ?_
  refine tn ?_
  refine Wc.block ?_
  refine Wc.loopF (γ := Nat × Int) (fun g => [(0, .pointer (some ⟨bk, o, none⟩)), (1, .pointer (some ⟨bf, of, none⟩)), (4, .int .i64 (0)), (5, .int .i64 (g.2)), (6, .int .i64 (((g.1 : Nat) : Int)))]) (fun g w_ => St [] w w_ [] ∧ (g.1 ≤ 1 <<< e) ∧ (g.2 = lgF a b f g.1)) (fun g => 1 <<< e - g.1) ?_ ?_
  · exact ⟨(0, 8), (.cons rfl (.cons rfl (.cons rfl (.cons rfl (.cons rfl (.nil _)))))), st, (by first | omega | (dsimp only; omega)), rfl⟩
  clear st
  rintro ⟨x, v⟩ w1 ⟨st, hx, hv⟩
  try dsimp only at st hx hv ⊢
  refine Wc.seq ?_
  refine Wc.seq ?_
  refine Wc.region rfl ?_
  refine Wl.pure (PR.moveI rfl) ?_
  refine Wl.pure (PR.moveP rfl) ?_
  refine Wl.pure (PR.nil_ rfl) ?_
  refine Wl.pure (PR.fieldAddr tF_33_0 rfl) ?_
  refine Wl.loadC tA_22 rfl ((hF.st st).at_ (j := 0) (rfl) rfl) ?_
  refine Wl.pure (PR.conv (n := ((e : Nat) : Int)) tI_52 rfl (by simp only [fitI]; omega) Try.underlying22) ?_
  refine Wl.pure (PR.shlI (a := 1) (n := e) rfl rfl (by omega) (sh62 (by omega))) ?_
  refine Wl.pure (PR.lss (a := ((x : Nat) : Int)) (b := (((1 <<< e) : Nat) : Int)) rfl rfl) ?_
  refine Wl.nil ?_
  refine tn ?_
  refine Wc.condD (p := ((x : Nat) : Int) < (((1 <<< e) : Nat) : Int)) rfl (fun h2 => ?_) (fun h2 => ?_)
  · refine Wc.skip ?_
    refine tn ?_
    refine Wc.seq ?_
    refine Wc.block ?_
    refine Wc.seq ?_
    refine Wc.region rfl ?_
    refine Wl.pure (PR.moveP rfl) ?_
    refine Wl.pure (PR.moveI rfl) ?_
    refine Wl.callV (c_spec_l04Has (bf := bf) (of := of) (m := ((e : Nat) : Int)) (f := f) (x := x) (hF.st st) (by first | assumption | omega) hf (by first | assumption | omega)) rfl ?_
    intro w3 hbel
    replace st := st.call hbel
    clear hbel
    refine Wl.nil ?_
    refine tn ?_
    refine Wc.condB (b := bitB f x) rfl (fun h4 => ?_) (fun h4 => ?_)
    · refine Wc.region rfl ?_
      refine Wl.pure (PR.moveI rfl) ?_
      refine Wl.pure (PR.moveP rfl) ?_
      refine Wl.pure (PR.moveI rfl) ?_
      refine Wl.pure (PR.conv (n := ((x : Nat) : Int)) tI_5 rfl (by simp only [fitI]; omega) Try.underlying3) ?_
      refine Wl.callV (c_spec_l02Gap (bk := bk) (o := o) (s := ((s : Nat) : Int)) (p := ((p : Nat) : Int)) (a := a) (b := b) (x := x) (hR.st st) ha hb (by first | assumption | omega)) rfl ?_
      intro w5 hbel
      replace st := st.call hbel
      clear hbel
      refine Wl.callV (c_spec_l00Min (n := v) (m := gapZ a b x)) rfl ?_
      intro w6 hbel
      replace st := st.call hbel
      clear hbel
      refine Wl.pure (PR.assI rfl) ?_
      refine Wl.nil ?_
      refine bn ?_
      refine tn ?_
      refine Wc.region rfl ?_
      refine Wl.pure (PR.moveI rfl) ?_
      refine Wl.pure (PR.add (a := ((x : Nat) : Int)) (b := 1) rfl rfl (by simp only [fitI]; omega)) ?_
      refine Wl.pure (PR.assI rfl) ?_
      refine Wl.nil ?_
      refine tn ?_
      exact ⟨(x + 1, (min v (gapZ a b x))), (.cons rfl (.cons rfl (.cons rfl (.cons rfl (.cons rfl (.nil _)))))), ⟨st, (by first | omega | (dsimp only; omega)), (by first | exact lg_t hv (by assumption) | exact lg_f hv (by assumption))⟩, (by first | omega | (dsimp only; omega))⟩
    · refine Wc.skip ?_
      refine bn ?_
      refine tn ?_
      refine Wc.region rfl ?_
      refine Wl.pure (PR.moveI rfl) ?_
      refine Wl.pure (PR.add (a := ((x : Nat) : Int)) (b := 1) rfl rfl (by simp only [fitI]; omega)) ?_
      refine Wl.pure (PR.assI rfl) ?_
      refine Wl.nil ?_
      refine tn ?_
      exact ⟨(x + 1, v), (.cons rfl (.cons rfl (.cons rfl (.cons rfl (.cons rfl (.nil _)))))), ⟨st, (by first | omega | (dsimp only; omega)), (by first | exact lg_t hv (by assumption) | exact lg_f hv (by assumption))⟩, (by first | omega | (dsimp only; omega))⟩
  · refine Wc.exit ?_
    refine tx ?_
    refine tx ?_
    refine bh ?_
    refine tn ?_
    refine Wc.seq ?_
    refine Wc.region rfl ?_
    refine Wl.pure (PR.moveI rfl) ?_
    refine Wl.pure (PR.assI rfl) ?_
    refine Wl.nil ?_
    refine tn ?_
    refine Wc.ret ?_
    refine postL.tmp rfl rfl ?_
    refine RetV.of ?_ st.below
    refine congrArg (Value.int .i64) ?_
    obtain rfl : x = 1 <<< e := by omega
    exact hv

end Go.Proofs.Ytdlmbdclbnlmlaa
