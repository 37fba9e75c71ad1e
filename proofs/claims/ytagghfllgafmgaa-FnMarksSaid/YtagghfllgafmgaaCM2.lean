/-
  Contracts of functions, printed by a program of ours.
-/
import Derived.Test.YtagghfllgafmgaaCM1
import Derived.Test.YtagghfllgafmgaaCL3
import Derived.Test.YtagghfllgafmgaaMarks2
namespace Go.Proofs.Ytagghfllgafmgaa
open Go.RowKit
set_option linter.unusedVariables false
set_option linter.unusedSimpArgs false

set_option maxHeartbeats 400000 in
set_option maxRecDepth 4000 in
theorem c_impl_MarkOf {p : Int} {c : Nat → Nat} {seed : Nat} {w : World} (hp : -128 ≤ p ∧ p ≤ 127) (hc : ∀ k, c k < 256) (hs : seed < 4294967296) :
    CE Try.prog 11 [.agg (layV (p) (c)).toArray, .int .u32 (((seed : Nat) : Int))] w (RetV w (.tuple #[.int .u32 (((markF seed p c : Nat) : Int)), .int .i64 (((codeIf (layOk p c) 1 : Nat) : Int))])) := by
  refine CE.enter 12 [(0, .agg (layV (p) (c)).toArray), (1, .int .u32 (((seed : Nat) : Int)))] en_11 Try.func11 rfl rfl (Nat.le_of_ble_eq_true rfl) rfl ?_
  have st := St.start w
  refine Wc.seq ?_
  refine Wc.region rfl ?_
  refine Wl.boxA st rfl ?_
  clear st
  intro b2 w1 st
  refine Wl.pure (PR.assI rfl) ?_
  refine Wl.pure (PR.assI rfl) ?_
  refine Wl.nil ?_
  refine tn ?_
  refine Wc.seq ?_
  refine Wc.seq ?_
  refine Wc.region rfl ?_
  refine Wl.loadA (i := 0) st tA_29 rfl rfl (all_sub layV_len) layV_len ?_
  refine Wl.callV (c_impl_ValidLayer (p := p) (c := c) (by first | assumption | omega) hc) rfl ?_
  intro w2 hbel
  replace st := st.call hbel
  clear hbel
  refine Wl.pure (PR.not_ rfl) ?_
  refine Wl.nil ?_
  refine tn ?_
  refine Wc.condNB (b := layOk p c) rfl (fun h3 => ?_) (fun h3 => ?_)
  · refine Wc.seq ?_
    refine Wc.region rfl ?_
    refine Wl.pure (PR.assI rfl) ?_
    refine Wl.pure (PR.assI rfl) ?_
    refine Wl.nil ?_
    refine tn ?_
    refine Wc.ret ?_
    refine tr ?_
    refine postL.tmp2 rfl rfl rfl ?_
    refine RetV.of ?_ st.below
    first | exact tup2 (mark_t (by assumption)) (code_t 1 (by assumption)) | exact tup2 (a := 0) (b := 1) (mark_f (by assumption)) (code_f 1 (by assumption))
  · refine Wc.skip ?_
    refine tn ?_
    refine Wc.seq ?_
    refine Wc.region rfl ?_
    refine Wl.loadA (i := 0) st tA_29 rfl rfl (all_sub layV_len) layV_len ?_
    refine Wl.pure (PR.moveI rfl) ?_
    refine Wl.callV (c_impl_mark (p := p) (c := c) (seed := seed) (by first | assumption | omega) hc hs) rfl ?_
    intro w4 hbel
    replace st := st.call hbel
    clear hbel
    refine Wl.pure (PR.assI rfl) ?_
    refine Wl.pure (PR.assI rfl) ?_
    refine Wl.nil ?_
    refine tn ?_
    refine Wc.ret ?_
    refine postL.tmp2 rfl rfl rfl ?_
    refine RetV.of ?_ st.below
    first | exact tup2 (mark_t (by assumption)) (code_t 1 (by assumption)) | exact tup2 (a := 0) (b := 1) (mark_f (by assumption)) (code_f 1 (by assumption))

set_option maxHeartbeats 400000 in
set_option maxRecDepth 4000 in
theorem c_spec_SameMarks {A : Option Addr} {n : Nat} {cp : Nat} {c : Nat → Nat} {B : Option Addr} {cq : Nat} {w : World} (hR : RdS w A n (arrU .u32 n c)) (hQ : RdS w B n (arrU .u32 n c)) (hn : n ≤ 1000000) :
    CE Try.prog 40 [.slice (A) (n) (cp), .slice (B) (n) (cq)] w (RetV w (.bool true)) := by
  refine CE.enter 26 [(0, .slice (A) (n) (cp)), (1, .slice (B) (n) (cq))] en_40 Try.func40 rfl rfl (Nat.le_of_ble_eq_true rfl) rfl ?_
  have st := St.start w
  refine Wc.seq ?_
  refine Wc.region rfl ?_
  refine Wl.pure (PR.assB rfl) ?_
  refine Wl.nil ?_
  refine tn ?_
  refine Wc.seq ?_
  refine Wc.seq ?_
  refine Wc.region rfl ?_
  refine Wl.pure (PR.moveL rfl) ?_
  refine Wl.pure (PR.lenL tS_34 rfl) ?_
  refine Wl.pure (PR.moveL rfl) ?_
  refine Wl.pure (PR.lenL tS_34 rfl) ?_
  refine Wl.pure (PR.neqS (a := ((n : Nat) : Int)) rfl rfl) ?_
  refine Wl.nil ?_
  refine tn ?_
  refine Wc.condF rfl ?_
  refine Wc.skip ?_
  refine tn ?_
  refine Wc.seq ?_
  refine Wc.seq ?_
  refine Wc.region rfl ?_
  refine Wl.pure (PR.assI rfl) ?_
  refine Wl.nil ?_
  refine tn ?_
  refine Wc.block ?_
  refine Wc.loopF (γ := Nat) (fun g => [(0, .slice (A) (n) (cp)), (1, .slice (B) (n) (cq)), (5, .int .i64 (((g : Nat) : Int)))]) (fun g w_ => St [] w w_ [] ∧ (g ≤ n)) (fun g => n - g) ?_ ?_
  · exact ⟨0, (.cons rfl (.cons rfl (.cons rfl (.nil _)))), st, (by first | omega | (dsimp only; omega))⟩
  clear st
  rintro k w1 ⟨st, hk⟩
  try dsimp only at st hk ⊢
  refine Wc.seq ?_
  refine Wc.seq ?_
  refine Wc.region rfl ?_
  refine Wl.pure (PR.moveI rfl) ?_
  refine Wl.pure (PR.moveL rfl) ?_
  refine Wl.pure (PR.lenL tS_34 rfl) ?_
  refine Wl.pure (PR.lss (a := ((k : Nat) : Int)) (b := ((n : Nat) : Int)) rfl rfl) ?_
  refine Wl.nil ?_
  refine tn ?_
  refine Wc.condD (p := ((k : Nat) : Int) < ((n : Nat) : Int)) rfl (fun h2 => ?_) (fun h2 => ?_)
  · refine Wc.skip ?_
    refine tn ?_
    refine Wc.seq ?_
    refine Wc.block ?_
    refine Wc.seq ?_
    refine Wc.quiet hmix (by kernel_rfl) rfl ?_
    refine Wq.pure (PR.moveL rfl) ?_
    refine Wq.pure (PR.moveI rfl) ?_
    obtain ⟨bs3, os4, rfl, hs5⟩ := hR (by omega)
    refine Wq.pure (PR.idxAddrS1 (i := k) tS_34 rfl rfl (by omega)) ?_
    refine Wq.loadC tA_26 rfl ((hs5.st st).at_ (arrU_get0 (by omega)) (Nat.add_assoc _ _ _).symm) ?_
    refine Wq.pure (PR.moveL rfl) ?_
    refine Wq.pure (PR.moveI rfl) ?_
    obtain ⟨bs6, os7, rfl, hs8⟩ := hQ (by omega)
    refine Wq.pure (PR.idxAddrS1 (i := k) tS_34 rfl rfl (by omega)) ?_
    refine Wq.loadC tA_26 rfl ((hs8.st st).at_ (arrU_get0 (by omega)) (Nat.add_assoc _ _ _).symm) ?_
    refine Wq.pure (PR.neqS (a := ((c (k) : Nat) : Int)) rfl rfl) ?_
    refine Wq.nil (fun w9 hbel => ?_)
    replace st := st.call hbel
    clear hbel
    refine tn ?_
    refine Wc.condF rfl ?_
    refine Wc.skip ?_
    refine bn ?_
    refine tn ?_
    refine Wc.region rfl ?_
    refine Wl.pure (PR.moveI rfl) ?_
    refine Wl.pure (PR.add (a := ((k : Nat) : Int)) (b := 1) rfl rfl (by simp only [fitI]; omega)) ?_
    refine Wl.pure (PR.assI rfl) ?_
    refine Wl.nil ?_
    refine tn ?_
    exact ⟨k + 1, (.cons rfl (.cons rfl (.cons rfl (.nil _)))), ⟨st, (by first | omega | (dsimp only; omega))⟩, (by first | omega | (dsimp only; omega))⟩
  · refine Wc.exit ?_
    refine tx ?_
    refine tx ?_
    refine bh ?_
    refine tn ?_
    refine Wc.seq ?_
    refine Wc.region rfl ?_
    refine Wl.pure (PR.assB rfl) ?_
    refine Wl.nil ?_
    refine tn ?_
    refine Wc.ret ?_
    refine postL.tmp rfl rfl ?_
    exact RetV.of rfl st.below

set_option maxHeartbeats 400000 in
set_option maxRecDepth 4000 in
theorem c_spec_SeesWith {s : Int} {p : Int} {a : Nat → Nat} {b : Nat → Nat} {x : Nat} {w : World} (hs : -128 ≤ s ∧ s ≤ 127) (hp : -128 ≤ p ∧ p ≤ 127) (ha : ∀ k, a k < 256) (hb : ∀ k, b k < 256) (hx : x < 256) (hok : schOk s p a b = true) :
    CE Try.prog 41 [.agg (schV (s) (p) (a) (b)).toArray, .int .u8 (((x : Nat) : Int))] w (RetV w (.tuple #[.bool (decide (rsC s a b x = 0)), .int .i64 (((selN (rsC s a b x) (wt b x) : Nat) : Int)), .int .i64 (((swC s x : Nat) : Int))])) := by
  refine CE.enter 24 [(0, .agg (schV (s) (p) (a) (b)).toArray), (1, .int .u8 (((x : Nat) : Int)))] en_41 Try.func41 rfl rfl (Nat.le_of_ble_eq_true rfl) rfl ?_
  have st := St.start w
  refine Wc.seq ?_
  refine Wc.region rfl ?_
  refine Wl.boxA st rfl ?_
  clear st
  intro b2 w1 st
  refine Wl.pure (PR.assB rfl) ?_
  refine Wl.pure (PR.assI rfl) ?_
  refine Wl.pure (PR.assI rfl) ?_
  refine Wl.nil ?_
  refine tn ?_
  refine Wc.seq ?_
  refine Wc.seq ?_
  refine Wc.region rfl ?_
  refine Wl.loadA (i := 0) st tA_62 rfl rfl (all_sub schV_len) schV_len ?_
  refine Wl.callV (c_spec_ValidScheme (s := s) (p := p) (a := a) (b := b) (by first | assumption | omega) (by first | assumption | omega) ha hb) rfl ?_
  intro w2 hbel
  replace st := st.call hbel
  clear hbel
  refine Wl.pure (PR.not_ rfl) ?_
  refine Wl.nil ?_
  refine tn ?_
  refine Wc.condNB (b := schOk s p a b) rfl (fun h3 => ?_) (fun h3 => ?_)
  · refine Wc.seq ?_
    exfalso
    rw [hok] at *; contradiction
  · refine Wc.skip ?_
    refine tn ?_
    refine Wc.seq ?_
    refine Wc.seq ?_
    refine Wc.region rfl ?_
    refine Wl.pure (PR.moveI rfl) ?_
    refine Wl.callV (c_spec_l03Set (bk := b2) (o := 0) (s := s) (p := p) (a := a) (b := b) (x := x) (st.rdA (i := 0) rfl (all_sub schV_len)) (by first | assumption | omega) (by first | assumption | omega) ha hb hx (by first | assumption | omega)) rfl ?_
    intro w4 hbel
    replace st := st.call hbel
    clear hbel
    refine Wl.pure (PR.not_ rfl) ?_
    refine Wl.nil ?_
    refine tn ?_
    refine Wc.condN (p := setOk s x) rfl (fun h5 => ?_) (fun h5 => ?_)
    · refine Wc.seq ?_
      refine Wc.region rfl ?_
      refine Wl.pure (PR.assB rfl) ?_
      refine Wl.pure (PR.assI rfl) ?_
      refine Wl.pure (PR.assI rfl) ?_
      refine Wl.nil ?_
      refine tn ?_
      refine Wc.ret ?_
      refine tr ?_
      refine postL.many (rvs := [.tmp 4, .tmp 5, .tmp 6]) rfl (.tmp (v := .bool false) rfl (.tmp (v := .int .i64 (0)) rfl (.tmp (v := .int .i64 (2)) rfl .nil))) ?_
      refine RetV.of ?_ st.below
      exact sw_1 (by rw [swC_2 (by assumption)]; decide) (by rw [swC_2 (by assumption)]; rfl)
    · refine Wc.skip ?_
      refine tn ?_
      refine Wc.seq ?_
      refine Wc.region rfl ?_
      refine Wl.pure (PR.moveI rfl) ?_
      refine Wl.callV (c_spec_l03Sees (bk := b2) (o := 0) (s := s) (p := p) (a := a) (b := b) (x := x) (st.rdA (i := 0) rfl (all_sub schV_len)) (by first | assumption | omega) (by first | assumption | omega) ha hb hx (by first | assumption | omega)) rfl ?_
      intro w6 hbel
      replace st := st.call hbel
      clear hbel
      refine Wl.pure (PR.moveV (.tuple #[.int .i64 (((wt a x : Nat) : Int)), .int .i64 (((wt b x : Nat) : Int))]) rfl) ?_
      refine Wl.pure (PR.extr (i := 0) (vs := [.int .i64 (((wt a x : Nat) : Int)), .int .i64 (((wt b x : Nat) : Int))]) rfl rfl) ?_
      refine Wl.pure (PR.extr (i := 1) (vs := [.int .i64 (((wt a x : Nat) : Int)), .int .i64 (((wt b x : Nat) : Int))]) rfl rfl) ?_
      refine Wl.pure (PR.assI rfl) ?_
      refine Wl.pure (PR.assI rfl) ?_
      refine Wl.nil ?_
      refine tn ?_
      refine Wc.seq ?_
      refine Wc.seq ?_
      refine Wc.region rfl ?_
      refine Wl.pure (PR.moveI rfl) ?_
      refine Wl.pure (PR.moveI rfl) ?_
      refine Wl.pure (PR.leq (a := ((wt b x : Nat) : Int)) (b := ((wt a x : Nat) : Int)) rfl rfl) ?_
      refine Wl.nil ?_
      refine tn ?_
      refine Wc.condD (p := ((wt b x : Nat) : Int) ≤ ((wt a x : Nat) : Int)) rfl (fun h7 => ?_) (fun h7 => ?_)
      · refine Wc.seq ?_
        refine Wc.region rfl ?_
        refine Wl.pure (PR.assB rfl) ?_
        refine Wl.pure (PR.assI rfl) ?_
        refine Wl.pure (PR.assI rfl) ?_
        refine Wl.nil ?_
        refine tn ?_
        refine Wc.ret ?_
        refine tr ?_
        refine postL.many (rvs := [.tmp 4, .tmp 5, .tmp 6]) rfl (.tmp (v := .bool false) rfl (.tmp (v := .int .i64 (0)) rfl (.tmp (v := .int .i64 (0)) rfl .nil))) ?_
        refine RetV.of ?_ st.below
        exact sw_2 (swC_0 (by assumption)) (by unfold gapZ; omega)
      · refine Wc.skip ?_
        refine tn ?_
        refine Wc.seq ?_
        refine Wc.region rfl ?_
        refine Wl.pure (PR.moveI rfl) ?_
        refine Wl.pure (PR.assB rfl) ?_
        refine Wl.pure (PR.assI rfl) ?_
        refine Wl.pure (PR.assI rfl) ?_
        refine Wl.nil ?_
        refine tn ?_
        refine Wc.ret ?_
        refine postL.many (rvs := [.tmp 4, .tmp 5, .tmp 6]) rfl (.tmp (v := .bool true) rfl (.tmp (v := .int .i64 (((wt b x : Nat) : Int))) rfl (.tmp (v := .int .i64 (0)) rfl .nil))) ?_
        refine RetV.of ?_ st.below
        exact sw_3 (swC_0 (by assumption)) (by unfold gapZ; omega)

set_option maxHeartbeats 400000 in
set_option maxRecDepth 4000 in
theorem c_impl_layersCode {A : Option Addr} {n : Nat} {cp : Nat} {p : Nat → Int} {c : Nat → Nat → Nat} {w : World} (hR : RdS w A n (layS n p c)) (hp : ∀ i, i < n → -128 ≤ p i ∧ p i ≤ 127) (hc : ∀ i k, c i k < 256) (hn : n ≤ 1048576) (hn8 : 1 ≤ n ∧ n ≤ 8) (hla : layAll n p c = true) (hap : allP n p (p 0) = true) :
    CE Try.prog 76 [.slice (A) (n) (cp)] w (RetV w (.int .i64 (0))) := by
  refine CE.enter 27 [(0, .slice (A) (n) (cp))] en_76 Try.func76 rfl rfl (Nat.le_of_ble_eq_true rfl) rfl ?_
  have st := St.start w
  refine Wc.seq ?_
  refine Wc.region rfl ?_
  refine Wl.pure (PR.assI rfl) ?_
  refine Wl.nil ?_
  refine tn ?_
  refine Wc.seq ?_
  refine Wc.region rfl ?_
  refine Wl.pure (PR.moveL rfl) ?_
  refine Wl.callV (c_impl_areLayers (A := A) (n := n) (cp := cp) (p := p) (c := c) (hR.st st) hp hc (by first | assumption | omega)) rfl ?_
  intro w1 hbel
  replace st := st.call hbel
  clear hbel
  refine Wl.pure (PR.not_ rfl) ?_
  refine Wl.pure (PR.build (ps := [(0, .bool (!(layAll n p c))), (1, .int .i64 (1))]) (cs := [.bool (!(layAll n p c)), .int .i64 (1)]) tB_95 rfl rfl) ?_
  refine Wl.pure (PR.moveL rfl) ?_
  refine Wl.pure (PR.lenL tS_37 rfl) ?_
  refine Wl.callV (c_impl_within (n := ((n : Nat) : Int)) (lo := 1) (hi := 8)) rfl ?_
  intro w2 hbel
  replace st := st.call hbel
  clear hbel
  refine Wl.pure (PR.not_ rfl) ?_
  refine Wl.pure (PR.build (ps := [(0, .bool (!decide (1 ≤ ((n : Nat) : Int) ∧ ((n : Nat) : Int) ≤ 8))), (1, .int .i64 (2))]) (cs := [.bool (!decide (1 ≤ ((n : Nat) : Int) ∧ ((n : Nat) : Int) ≤ 8)), .int .i64 (2)]) tB_95 rfl rfl) ?_
  refine Wl.pure (PR.moveL rfl) ?_
  refine Wl.pure (PR.lenL tS_37 rfl) ?_
  refine Wl.pure (PR.gtr (a := ((n : Nat) : Int)) (b := 0) rfl rfl) ?_
  refine Wl.pure (PR.moveB rfl) ?_
  refine Wl.splitT (q := 0 < ((n : Nat) : Int)) rfl rfl (fun h3 => ?_) (fun h3 => ?_)
  · refine Wl.pure (PR.moveL rfl) ?_
    refine Wl.on rfl rfl ?_
    refine Wl.pure (PR.moveL rfl) ?_
    refine Wl.on rfl rfl ?_
    obtain ⟨bs4, os5, rfl, hs6⟩ := hR (by omega)
    have := hp (0) (by omega)
    refine Wl.pure (PR.idxAddrS (i := 0) tS_37 rfl rfl (by omega)) ?_
    refine Wl.on rfl rfl ?_
    refine Wl.pure (PR.fieldAddr tF_29_0 rfl) ?_
    refine Wl.on rfl rfl ?_
    refine Wl.loadC tA_22 rfl ((hs6.st st).at_ (recV_get (n := n) (i := 0) (layS_row _ _) (by omega) (rfl)) (Nat.add_assoc _ _ _).symm) ?_
    refine Wl.on rfl rfl ?_
    refine Wl.callV (c_impl_haveParts (A := some ⟨bs4, os5, none⟩) (n := n) (cp := cp) (p := p) (c := c) (q := p 0) ((hs6.st st).sl) hp hc (by first | assumption | omega)) rfl ?_
    intro w7 hbel
    replace st := st.call hbel
    clear hbel
    refine Wl.on rfl rfl ?_
    refine Wl.pure (PR.not_ rfl) ?_
    refine Wl.pure (PR.pickTB rfl rfl) ?_
    refine Wl.pure (PR.build (ps := [(0, .bool (!(allP n p (p 0)))), (1, .int .i64 (4))]) (cs := [.bool (!(allP n p (p 0))), .int .i64 (4)]) tB_95 rfl rfl) ?_
    refine Wl.buildSlice (ps := [(0, .agg ([.bool (!(layAll n p c)), .int .i64 (1)]).toArray), (1, .agg ([.bool (!decide (1 ≤ ((n : Nat) : Int) ∧ ((n : Nat) : Int) ≤ 8)), .int .i64 (2)]).toArray), (2, .agg ([.bool (!(allP n p (p 0))), .int .i64 (4)]).toArray)]) (cs := [.bool (!(layAll n p c)), .int .i64 (1), .bool (!decide (1 ≤ ((n : Nat) : Int) ∧ ((n : Nat) : Int) ≤ 8)), .int .i64 (2), .bool (!(allP n p (p 0))), .int .i64 (4)]) st tS_127 tZ_95 rfl rfl rfl ?_
    clear st
    intro b25 w8 st
    refine Wl.callV (c_impl_firstOf (bk := b25) (o := 0) (n := 3) (cp := 3) (c := (fun i => [(!(layAll n p c)), (!decide (1 ≤ ((n : Nat) : Int) ∧ ((n : Nat) : Int) ≤ 8)), (!(allP n p (p 0)))].getD i false)) (e := (fun i => [1, 2, 4].getD i 0)) (st.rdA (i := 0) (n := 6) rfl rfl) (by first | assumption | omega)) rfl ?_
    intro w9 hbel
    replace st := st.call hbel
    clear hbel
    refine Wl.pure (PR.assI rfl) ?_
    refine Wl.nil ?_
    refine tn ?_
    refine Wc.ret ?_
    refine postL.tmp rfl rfl ?_
    refine RetV.of ?_ st.below
    exact congrArg (Value.int .i64) (lc_0 (by simp [hla]) (by simp; omega) (by first | simp [hap] | rfl))
  · refine Wl.off rfl rfl rfl ?_
    refine Wl.off rfl rfl rfl ?_
    refine Wl.off rfl rfl rfl ?_
    refine Wl.off rfl rfl rfl ?_
    refine Wl.off rfl rfl rfl ?_
    refine Wl.off rfl rfl rfl ?_
    refine Wl.pure (PR.pickFB rfl rfl) ?_
    refine Wl.pure (PR.build (ps := [(0, .bool false), (1, .int .i64 (4))]) (cs := [.bool false, .int .i64 (4)]) tB_95 rfl rfl) ?_
    refine Wl.buildSlice (ps := [(0, .agg ([.bool (!(layAll n p c)), .int .i64 (1)]).toArray), (1, .agg ([.bool (!decide (1 ≤ ((n : Nat) : Int) ∧ ((n : Nat) : Int) ≤ 8)), .int .i64 (2)]).toArray), (2, .agg ([.bool false, .int .i64 (4)]).toArray)]) (cs := [.bool (!(layAll n p c)), .int .i64 (1), .bool (!decide (1 ≤ ((n : Nat) : Int) ∧ ((n : Nat) : Int) ≤ 8)), .int .i64 (2), .bool false, .int .i64 (4)]) st tS_127 tZ_95 rfl rfl rfl ?_
    clear st
    intro b25 w10 st
    refine Wl.callV (c_impl_firstOf (bk := b25) (o := 0) (n := 3) (cp := 3) (c := (fun i => [(!(layAll n p c)), (!decide (1 ≤ ((n : Nat) : Int) ∧ ((n : Nat) : Int) ≤ 8)), false].getD i false)) (e := (fun i => [1, 2, 4].getD i 0)) (st.rdA (i := 0) (n := 6) rfl rfl) (by first | assumption | omega)) rfl ?_
    intro w11 hbel
    replace st := st.call hbel
    clear hbel
    refine Wl.pure (PR.assI rfl) ?_
    refine Wl.nil ?_
    refine tn ?_
    refine Wc.ret ?_
    refine postL.tmp rfl rfl ?_
    refine RetV.of ?_ st.below
    exact congrArg (Value.int .i64) (lc_0 (by simp [hla]) (by simp; omega) (by first | simp [hap] | rfl))

set_option maxHeartbeats 400000 in
set_option maxRecDepth 4000 in
theorem c_impl_StackLayers {A : Option Addr} {n : Nat} {cp : Nat} {p : Nat → Int} {c : Nat → Nat → Nat} {w : World} (hR : RdS w A n (layS n p c)) (hp : ∀ i, i < n → -128 ≤ p i ∧ p i ≤ 127) (hc : ∀ i k, c i k < 256) (hn : n ≤ 1048576) (hn8 : 1 ≤ n ∧ n ≤ 8) (hla : layAll n p c = true) (hap : allP n p (p 0) = true) :
    CE Try.prog 43 [.slice (A) (n) (cp)] w (RetV w (.tuple #[.agg (layV (p 0) ((orC c n))).toArray, .int .i64 (0)])) := by
  refine CE.enter 13 [(0, .slice (A) (n) (cp))] en_43 Try.func43 rfl rfl (Nat.le_of_ble_eq_true rfl) rfl ?_
  have st := St.start w
  refine Wc.seq ?_
  refine Wc.region rfl ?_
  refine Wl.alloc st tZ_29 rfl ?_
  clear st
  intro b2 w1 st
  refine Wl.pure (PR.assI rfl) ?_
  refine Wl.nil ?_
  refine tn ?_
  refine Wc.seq ?_
  refine Wc.seq ?_
  refine Wc.region rfl ?_
  refine Wl.pure (PR.moveL rfl) ?_
  refine Wl.callV (c_impl_layersCode (A := A) (n := n) (cp := cp) (p := p) (c := c) (hR.st st) hp hc (by first | assumption | omega) (by first | assumption | omega) (by first | assumption | omega) (by first | assumption | omega)) rfl ?_
  intro w2 hbel
  replace st := st.call hbel
  clear hbel
  refine Wl.pure (PR.assI rfl) ?_
  refine Wl.nil ?_
  refine tn ?_
  refine Wc.seq ?_
  refine Wc.region rfl ?_
  refine Wl.pure (PR.moveI rfl) ?_
  refine Wl.pure (PR.neqS (a := 0) rfl rfl) ?_
  refine Wl.nil ?_
  refine tn ?_
  refine Wc.condF rfl ?_
  refine Wc.skip ?_
  refine tn ?_
  refine Wc.seq ?_
  refine Wc.region rfl ?_
  refine Wl.pure (PR.moveL rfl) ?_
  refine Wl.callV (c_impl_stack (A := A) (n := n) (cp := cp) (p := p) (c := c) (hR.st st) hp hc (by first | assumption | omega) (by first | assumption | omega)) rfl ?_
  intro w3 hbel
  replace st := st.call hbel
  clear hbel
  refine Wl.storeA (i := 0) (cs' := layV (p 0) ((orC c n))) st tA_29 rfl rfl layV_len layV_one rfl (le_of_len layV_len (by omega)) (all_put layV_len) ?_
  clear st
  intro w4 st
  replace st : St [] w w4 [(b2, layV (p 0) ((orC c n)), 29)] := st
  refine Wl.pure (PR.assI rfl) ?_
  refine Wl.nil ?_
  refine tn ?_
  refine Wc.ret ?_
  refine postL.many (rvs := [.cell 2 29, .tmp 3]) rfl (.cell (us := layV (p 0) ((orC c n))) tA_29 rfl layV_len (st.rdA (i := 0) (n := 65) rfl (all_sub layV_len)) (.tmp (v := .int .i64 (0)) rfl .nil)) ?_
  exact RetV.of rfl st.below

end Go.Proofs.Ytagghfllgafmgaa
