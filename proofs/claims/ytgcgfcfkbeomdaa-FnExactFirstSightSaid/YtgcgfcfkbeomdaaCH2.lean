/-
  Contracts of functions, printed by a program of ours.
-/
import Derived.Test.YtgcgfcfkbeomdaaCH1
namespace Go.Proofs.Ytgcgfcfkbeomdaa
open Go.RowKit
set_option linter.unusedVariables false
set_option linter.unusedSimpArgs false

set_option maxHeartbeats 400000 in
set_option maxRecDepth 4000 in
theorem c_impl_firstOf {bk : Nat} {o : Nat} {n : Nat} {cp : Nat} {c : Nat → Bool} {e : Nat → Int} {w : World} (hR : RdA w bk o (prV n c e)) (hn : n ≤ 1000) :
    CE Try.prog 53 [.slice (some ⟨bk, o, none⟩) (n) (cp)] w (RetV w (.int .i64 (firstZ n c e))) := by
  refine CE.enter 16 [(0, .slice (some ⟨bk, o, none⟩) (n) (cp))] en_53 Try.func53 rfl rfl (Nat.le_of_ble_eq_true rfl) rfl ?_
  have st := St.start w
  refine Wc.seq ?_
  refine Wc.region rfl ?_
  refine Wl.pure (PR.assI rfl) ?_
  refine Wl.nil ?_
  refine tn ?_
  refine Wc.seq ?_
  refine Wc.seq ?_
  refine Wc.region rfl ?_
  refine Wl.pure (PR.moveL rfl) ?_
  refine Wl.pure (PR.lenL tS_78 rfl) ?_
  refine Wl.pure (PR.moveI rfl) ?_
  refine Wl.nil ?_
  refine tn ?_
  refine Wc.block ?_
  refine Wc.loopF (γ := Nat) (fun g => [(5, .slice (some ⟨bk, o, none⟩) (n) (cp)), (6, .int .i64 (((n : Nat) : Int))), (7, .int .i64 (((g : Nat) : Int)))]) (fun g w_ => St [] w w_ [] ∧ (g ≤ n) ∧ (firstZ n c e = firstF c e (n - g) g)) (fun g => n - g) ?_ ?_
  · exact ⟨0, (.cons rfl (.cons rfl (.cons rfl (.nil _)))), st, (by first | omega | (dsimp only; omega)), rfl⟩
  clear st
  rintro k w1 ⟨st, hk, hf⟩
  try dsimp only at st hk hf ⊢
  refine Wc.seq ?_
  refine Wc.region rfl ?_
  refine Wl.pure (PR.lss (a := ((k : Nat) : Int)) (b := ((n : Nat) : Int)) rfl rfl) ?_
  refine Wl.nil ?_
  refine tn ?_
  refine Wc.seq ?_
  refine Wc.condD (p := ((k : Nat) : Int) < ((n : Nat) : Int)) rfl (fun h2 => ?_) (fun h2 => ?_)
  · refine Wc.skip ?_
    refine tn ?_
    refine Wc.seq ?_
    refine Wc.block ?_
    refine Wc.seq ?_
    refine Wc.region rfl ?_
    refine Wl.pure (PR.idxAddrS (i := k) tS_78 rfl rfl (by omega)) ?_
    refine Wl.loadAC (vs := [.bool (c k), .int .i64 (e k)]) tA_73 rfl rfl ((hR.st st).sub (recV_sub (n := n) (i := k) (prV_row _ _) (by omega)) rfl) ?_
    refine Wl.alloc st tZ_73 rfl ?_
    clear st
    intro b4 w3 st
    refine Wl.storeA (i := 0) (cs' := [.bool (c k), .int .i64 (e k)]) st tA_73 rfl rfl rfl (by simp [Value.oneCell']) rfl (by simp) (all_put rfl) ?_
    clear st
    intro w4 st
    replace st : St [] w w4 [(b4, [.bool (c k), .int .i64 (e k)], 73)] := st
    refine Wl.nil ?_
    refine tn ?_
    refine Wc.seq ?_
    refine Wc.region rfl ?_
    refine Wl.pure (PR.fieldAddr tF_73_0 rfl) ?_
    refine Wl.load (i := 0) st tA_4 rfl rfl (rfl) ?_
    refine Wl.nil ?_
    refine tn ?_
    refine Wc.condB (b := c k) rfl (fun h5 => ?_) (fun h5 => ?_)
    · refine Wc.seq ?_
      refine Wc.region rfl ?_
      refine Wl.pure (PR.fieldAddr tF_73_1 rfl) ?_
      refine Wl.load (i := 0) st tA_2 rfl rfl (rfl) ?_
      refine Wl.pure (PR.assI rfl) ?_
      refine Wl.nil ?_
      refine tn ?_
      refine Wc.ret ?_
      refine br ?_
      refine tr ?_
      refine tr ?_
      refine br ?_
      refine tr ?_
      refine postL.tmp rfl rfl ?_
      refine RetV.of ?_ st.below
      refine congrArg (Value.int .i64) ?_
      first | exact firstF_t (by omega) hf (by assumption) | exact firstF_e (by omega) hf
    · refine Wc.skip ?_
      refine bn ?_
      refine tn ?_
      refine Wc.region rfl ?_
      refine Wl.pure (PR.add (a := ((k : Nat) : Int)) (b := 1) rfl rfl (by simp only [fitI]; omega)) ?_
      refine Wl.pure (PR.moveI rfl) ?_
      refine Wl.nil ?_
      refine tn ?_
      replace st := st.tail
      exact ⟨k + 1, (.cons rfl (.cons rfl (.cons rfl (.nil _)))), ⟨st, (by first | omega | (dsimp only; omega)), (firstF_f (by omega) hf (by assumption))⟩, (by first | omega | (dsimp only; omega))⟩
  · refine Wc.exit ?_
    refine tx ?_
    refine tx ?_
    refine bh ?_
    refine tn ?_
    refine Wc.seq ?_
    refine Wc.region rfl ?_
    refine Wl.pure (PR.assI rfl) ?_
    refine Wl.nil ?_
    refine tn ?_
    refine Wc.ret ?_
    refine postL.tmp rfl rfl ?_
    refine RetV.of ?_ st.below
    refine congrArg (Value.int .i64) ?_
    first | exact firstF_t (by omega) hf (by assumption) | exact firstF_e (by omega) hf

set_option maxHeartbeats 400000 in
set_option maxRecDepth 4000 in
theorem c_spec_l07Given {s : Int} {p : Int} {a : Nat → Nat} {b : Nat → Nat} {A : Option Addr} {n : Nat} {cp : Nat} {x : Nat → Int} {y : Nat → Int} {t : Int} {ok : Bool} {w : World} (hs : -128 ≤ s ∧ s ≤ 127) (hp : -128 ≤ p ∧ p ≤ 127) (ha : ∀ k, a k < 256) (hb : ∀ k, b k < 256) (hR : RdS w A n (hanV n x y)) (hx : ∀ i, i < n → -128 ≤ x i ∧ x i ≤ 127) (hy : ∀ i, i < n → -128 ≤ y i ∧ y i ≤ 127) (hn : n ≤ 1048576) :
    CE Try.prog 37 [.agg (schV (s) (p) (a) (b)).toArray, .slice (A) (n) (cp), .int .i64 (t), .bool (ok)] w (RetV w (.int .i64 (((givC s p a b n x y t ok : Nat) : Int)))) := by
  refine CE.enter 22 [(0, .agg (schV (s) (p) (a) (b)).toArray), (1, .slice (A) (n) (cp)), (2, .int .i64 (t)), (3, .bool (ok))] en_37 Try.func37 rfl rfl (Nat.le_of_ble_eq_true rfl) rfl ?_
  have st := St.start w
  refine Wc.seq ?_
  refine Wc.region rfl ?_
  refine Wl.boxA st rfl ?_
  clear st
  intro b4 w1 st
  refine Wl.pure (PR.assI rfl) ?_
  refine Wl.nil ?_
  refine tn ?_
  refine Wc.seq ?_
  refine Wc.seq ?_
  refine Wc.region rfl ?_
  refine Wl.loadA (i := 0) st tA_33 rfl rfl (all_sub schV_len) schV_len ?_
  refine Wl.pure (PR.moveL rfl) ?_
  refine Wl.callV (c_spec_ValidHandings (s := s) (p := p) (a := a) (b := b) (A := A) (n := n) (cp := cp) (x := x) (y := y) (by first | assumption | omega) (by first | assumption | omega) ha hb (hR.st st) hx hy (by first | assumption | omega)) rfl ?_
  intro w2 hbel
  replace st := st.call hbel
  clear hbel
  refine Wl.pure (PR.not_ rfl) ?_
  refine Wl.nil ?_
  refine tn ?_
  refine Wc.condNB (b := hvOk s p a b n x y) rfl (fun h3 => ?_) (fun h3 => ?_)
  · refine Wc.seq ?_
    refine Wc.region rfl ?_
    refine Wl.pure (PR.assI rfl) ?_
    refine Wl.nil ?_
    refine tn ?_
    refine Wc.ret ?_
    refine tr ?_
    refine postL.tmp rfl rfl ?_
    refine RetV.of ?_ st.below
    refine congrArg (fun x : Nat => Value.int .i64 (x : Int)) ?_
    exact givC_1 (by assumption)
  · refine Wc.skip ?_
    refine tn ?_
    refine Wc.seq ?_
    refine Wc.seq ?_
    refine Wc.region rfl ?_
    refine Wl.pure (PR.moveI rfl) ?_
    refine Wl.pure (PR.moveL rfl) ?_
    refine Wl.pure (PR.lenL tS_25 rfl) ?_
    refine Wl.callV (c_spec_l00In (n := t) (lo := 0) (hi := ((n : Nat) : Int))) rfl ?_
    intro w4 hbel
    replace st := st.call hbel
    clear hbel
    refine Wl.pure (PR.not_ rfl) ?_
    refine Wl.pure (PR.moveB rfl) ?_
    refine Wl.splitB (b := (!decide (0 ≤ t ∧ t ≤ ((n : Nat) : Int)))) rfl rfl (fun h5 => ?_) (fun h5 => ?_)
    · simp only [Bool.not_eq_true', Bool.not_eq_false', Bool.not_true, Bool.not_false, decide_eq_true_eq, decide_eq_false_iff_not] at h5
      refine Wl.pure (PR.moveB rfl) ?_
      refine Wl.on rfl rfl ?_
      refine Wl.pure (PR.not_ rfl) ?_
      refine Wl.pure (PR.pickFB rfl rfl) ?_
      refine Wl.nil ?_
      refine tn ?_
      refine Wc.condNB (b := ok) rfl (fun h6 => ?_) (fun h6 => ?_)
      · refine Wc.seq ?_
        refine Wc.region rfl ?_
        refine Wl.pure (PR.assI rfl) ?_
        refine Wl.nil ?_
        refine tn ?_
        refine Wc.ret ?_
        refine tr ?_
        refine postL.tmp rfl rfl ?_
        refine RetV.of ?_ st.below
        refine congrArg (fun x : Nat => Value.int .i64 (x : Int)) ?_
        first | exact givC_2 (by assumption) (by omega) | exact givC_3 (by assumption) (by simp_all only)
      · refine Wc.skip ?_
        refine tn ?_
        refine Wc.seq ?_
        refine Wc.region rfl ?_
        refine Wl.pure (PR.assI rfl) ?_
        refine Wl.nil ?_
        refine tn ?_
        refine Wc.ret ?_
        refine postL.tmp rfl rfl ?_
        refine RetV.of ?_ st.below
        refine congrArg (fun x : Nat => Value.int .i64 (x : Int)) ?_
        exact givC_0 (by assumption) (by omega) (by simpa using (by assumption : _))
    · simp only [Bool.not_eq_true', Bool.not_eq_false', Bool.not_true, Bool.not_false, decide_eq_true_eq, decide_eq_false_iff_not] at h5
      refine Wl.off rfl rfl rfl ?_
      refine Wl.pure (PR.pickTB rfl rfl) ?_
      refine Wl.nil ?_
      refine tn ?_
      refine Wc.condT rfl ?_
      refine Wc.seq ?_
      refine Wc.region rfl ?_
      refine Wl.pure (PR.assI rfl) ?_
      refine Wl.nil ?_
      refine tn ?_
      refine Wc.ret ?_
      refine tr ?_
      refine postL.tmp rfl rfl ?_
      refine RetV.of ?_ st.below
      refine congrArg (fun x : Nat => Value.int .i64 (x : Int)) ?_
      first | exact givC_2 (by assumption) (by omega) | exact givC_3 (by assumption) (by simp_all only)

set_option maxHeartbeats 400000 in
set_option maxRecDepth 4000 in
theorem c_impl_handingsCode {s : Int} {p : Int} {a : Nat → Nat} {b : Nat → Nat} {A : Option Addr} {n : Nat} {cp : Nat} {x : Nat → Int} {y : Nat → Int} {t : Int} {ok : Bool} {w : World} (hs : -128 ≤ s ∧ s ≤ 127) (hp : -128 ≤ p ∧ p ≤ 127) (ha : ∀ k, a k < 256) (hb : ∀ k, b k < 256) (hR : RdS w A n (hanV n x y)) (hx : ∀ i, i < n → -128 ≤ x i ∧ x i ≤ 127) (hy : ∀ i, i < n → -128 ≤ y i ∧ y i ≤ 127) (hn : n ≤ 1048576) :
    CE Try.prog 39 [.agg (schV (s) (p) (a) (b)).toArray, .slice (A) (n) (cp), .int .i64 (t), .bool (ok)] w (RetV w (.int .i64 (((givC s p a b n x y t ok : Nat) : Int)))) := by
  refine CE.enter 26 [(0, .agg (schV (s) (p) (a) (b)).toArray), (1, .slice (A) (n) (cp)), (2, .int .i64 (t)), (3, .bool (ok))] en_39 Try.func39 rfl rfl (Nat.le_of_ble_eq_true rfl) rfl ?_
  have st := St.start w
  refine Wc.seq ?_
  refine Wc.region rfl ?_
  refine Wl.boxA st rfl ?_
  clear st
  intro b4 w1 st
  refine Wl.pure (PR.assI rfl) ?_
  refine Wl.nil ?_
  refine tn ?_
  refine Wc.seq ?_
  refine Wc.region rfl ?_
  refine Wl.loadA (i := 0) st tA_33 rfl rfl (all_sub schV_len) schV_len ?_
  refine Wl.pure (PR.moveL rfl) ?_
  refine Wl.callV (c_impl_ValidHandings (s := s) (p := p) (a := a) (b := b) (A := A) (n := n) (cp := cp) (x := x) (y := y) (by first | assumption | omega) (by first | assumption | omega) ha hb (hR.st st) hx hy (by first | assumption | omega)) rfl ?_
  intro w2 hbel
  replace st := st.call hbel
  clear hbel
  refine Wl.pure (PR.not_ rfl) ?_
  refine Wl.pure (PR.build (ps := [(0, .bool (!(hvOk s p a b n x y))), (1, .int .i64 (1))]) (cs := [.bool (!(hvOk s p a b n x y)), .int .i64 (1)]) tB_73 rfl rfl) ?_
  refine Wl.pure (PR.moveI rfl) ?_
  refine Wl.pure (PR.moveL rfl) ?_
  refine Wl.pure (PR.lenL tS_25 rfl) ?_
  refine Wl.callV (c_impl_within (n := t) (lo := 0) (hi := ((n : Nat) : Int))) rfl ?_
  intro w3 hbel
  replace st := st.call hbel
  clear hbel
  refine Wl.pure (PR.not_ rfl) ?_
  refine Wl.pure (PR.moveB rfl) ?_
  refine Wl.splitB (b := (!decide (0 ≤ t ∧ t ≤ ((n : Nat) : Int)))) rfl rfl (fun h4 => ?_) (fun h4 => ?_)
  · simp only [Bool.not_eq_true', Bool.not_eq_false', Bool.not_true, Bool.not_false, decide_eq_true_eq, decide_eq_false_iff_not] at h4
    refine Wl.pure (PR.moveB rfl) ?_
    refine Wl.on rfl rfl ?_
    refine Wl.pure (PR.not_ rfl) ?_
    refine Wl.pure (PR.pickFB rfl rfl) ?_
    refine Wl.pure (PR.build (ps := [(0, .bool (!(ok))), (1, .int .i64 (2))]) (cs := [.bool (!(ok)), .int .i64 (2)]) tB_73 rfl rfl) ?_
    refine Wl.buildSlice (ps := [(0, .agg ([.bool (!(hvOk s p a b n x y)), .int .i64 (1)]).toArray), (1, .agg ([.bool (!(ok)), .int .i64 (2)]).toArray)]) (cs := [.bool (!(hvOk s p a b n x y)), .int .i64 (1), .bool (!(ok)), .int .i64 (2)]) st tS_78 tZ_73 rfl rfl rfl ?_
    clear st
    intro b24 w5 st
    refine Wl.callV (c_impl_firstOf (bk := b24) (o := 0) (n := 2) (cp := 2) (c := (fun i => [(!(hvOk s p a b n x y)), (!(ok))].getD i false)) (e := (fun i => [1, 2].getD i 0)) (st.rdA (i := 0) (n := 4) rfl rfl) (by first | assumption | omega)) rfl ?_
    intro w6 hbel
    replace st := st.call hbel
    clear hbel
    refine Wl.pure (PR.assI rfl) ?_
    refine Wl.nil ?_
    refine tn ?_
    refine Wc.ret ?_
    refine postL.tmp rfl rfl ?_
    refine RetV.of ?_ st.below
    refine congrArg (Value.int .i64) ?_
    first | exact first_giv1 (by omega) | exact first_giv2 (by omega)
  · simp only [Bool.not_eq_true', Bool.not_eq_false', Bool.not_true, Bool.not_false, decide_eq_true_eq, decide_eq_false_iff_not] at h4
    refine Wl.off rfl rfl rfl ?_
    refine Wl.pure (PR.pickTB rfl rfl) ?_
    refine Wl.pure (PR.build (ps := [(0, .bool true), (1, .int .i64 (2))]) (cs := [.bool true, .int .i64 (2)]) tB_73 rfl rfl) ?_
    refine Wl.buildSlice (ps := [(0, .agg ([.bool (!(hvOk s p a b n x y)), .int .i64 (1)]).toArray), (1, .agg ([.bool true, .int .i64 (2)]).toArray)]) (cs := [.bool (!(hvOk s p a b n x y)), .int .i64 (1), .bool true, .int .i64 (2)]) st tS_78 tZ_73 rfl rfl rfl ?_
    clear st
    intro b24 w7 st
    refine Wl.callV (c_impl_firstOf (bk := b24) (o := 0) (n := 2) (cp := 2) (c := (fun i => [(!(hvOk s p a b n x y)), true].getD i false)) (e := (fun i => [1, 2].getD i 0)) (st.rdA (i := 0) (n := 4) rfl rfl) (by first | assumption | omega)) rfl ?_
    intro w8 hbel
    replace st := st.call hbel
    clear hbel
    refine Wl.pure (PR.assI rfl) ?_
    refine Wl.nil ?_
    refine tn ?_
    refine Wc.ret ?_
    refine postL.tmp rfl rfl ?_
    refine RetV.of ?_ st.below
    refine congrArg (Value.int .i64) ?_
    first | exact first_giv1 (by omega) | exact first_giv2 (by omega)

set_option maxHeartbeats 400000 in
set_option maxRecDepth 4000 in
theorem c_impl_knownTo {A : Option Addr} {n : Nat} {t : Nat} {cp : Nat} {x : Nat → Int} {y : Nat → Int} {z : Int} {w : World} (hR : RdS w A t (hanV n x y)) (hx : ∀ i, i < n → -128 ≤ x i ∧ x i ≤ 127) (hy : ∀ i, i < n → -128 ≤ y i ∧ y i ≤ 127) (hn : n ≤ 1048576) (ht : t ≤ n) (hx0 : ∀ i, i < t → 0 ≤ x i) :
    CE Try.prog 44 [.slice (A) (t) (cp), .int .i64 (z)] w (RetV w (.int .u8 (((knF x y z t : Nat) : Int)))) := by
  refine CE.enter 26 [(0, .slice (A) (t) (cp)), (1, .int .i64 (z))] en_44 Try.func44 rfl rfl (Nat.le_of_ble_eq_true rfl) rfl ?_
  have st := St.start w
  refine Wc.seq ?_
  refine Wc.region rfl ?_
  refine Wl.pure (PR.assI rfl) ?_
  refine Wl.nil ?_
  refine tn ?_
  refine Wc.seq ?_
  refine Wc.region rfl ?_
  refine Wl.pure (PR.assI rfl) ?_
  refine Wl.nil ?_
  refine tn ?_
  refine Wc.seq ?_
  refine Wc.seq ?_
  refine Wc.region rfl ?_
  refine Wl.pure (PR.moveL rfl) ?_
  refine Wl.pure (PR.lenL tS_25 rfl) ?_
  refine Wl.pure (PR.moveI rfl) ?_
  refine Wl.nil ?_
  refine tn ?_
  refine Wc.block ?_
  refine Wc.loopF (γ := Nat × Nat) (fun g => [(1, .int .i64 (z)), (4, .int .u8 (0)), (5, .int .u8 (((g.2 : Nat) : Int))), (8, .slice (A) (t) (cp)), (9, .int .i64 (((t : Nat) : Int))), (10, .int .i64 (((g.1 : Nat) : Int)))]) (fun g w_ => St [] w w_ [] ∧ (g.1 ≤ t) ∧ (g.2 = knF x y z g.1) ∧ (g.2 < 256)) (fun g => t - g.1) ?_ ?_
  · exact ⟨(0, 0), (.cons rfl (.cons rfl (.cons rfl (.cons rfl (.cons rfl (.cons rfl (.nil _))))))), st, (by first | omega | (dsimp only; omega)), rfl, (by decide)⟩
  clear st
  rintro ⟨k, v⟩ w1 ⟨st, hk, hv, hvb⟩
  try dsimp only at st hk hv hvb ⊢
  refine Wc.seq ?_
  refine Wc.region rfl ?_
  refine Wl.pure (PR.lss (a := ((k : Nat) : Int)) (b := ((t : Nat) : Int)) rfl rfl) ?_
  refine Wl.nil ?_
  refine tn ?_
  refine Wc.seq ?_
  refine Wc.condD (p := ((k : Nat) : Int) < ((t : Nat) : Int)) rfl (fun h2 => ?_) (fun h2 => ?_)
  · refine Wc.skip ?_
    refine tn ?_
    refine Wc.seq ?_
    refine Wc.block ?_
    refine Wc.seq ?_
    refine Wc.region rfl ?_
    obtain ⟨bs3, os4, rfl, hs5⟩ := hR (by omega)
    have := hx (k) (by omega)
    have := hy (k) (by omega)
    refine Wl.pure (PR.idxAddrS (i := k) tS_25 rfl rfl (by omega)) ?_
    refine Wl.loadAC (vs := [.int .i8 (x k), .int .i8 (y k)]) tA_51 rfl rfl ((hs5.st st).sub (recV_sub (n := n) (i := k) (hanV_row _ _) (by omega)) rfl) ?_
    refine Wl.alloc st tZ_51 rfl ?_
    clear st
    intro b7 w6 st
    refine Wl.storeA (i := 0) (cs' := [.int .i8 (x k), .int .i8 (y k)]) st tA_51 rfl rfl rfl (by simp [Value.oneCell']) rfl (by simp) (all_put rfl) ?_
    clear st
    intro w7 st
    replace st : St [] w w7 [(b7, [.int .i8 (x k), .int .i8 (y k)], 51)] := st
    refine Wl.nil ?_
    refine tn ?_
    refine Wc.seq ?_
    refine Wc.region rfl ?_
    refine Wl.pure (PR.fieldAddr tF_51_1 rfl) ?_
    refine Wl.load (i := 0) st tA_28 rfl rfl (rfl) ?_
    refine Wl.pure (PR.conv (n := y k) tI_2 rfl (by simp only [fitI]; omega) Try.underlying28) ?_
    refine Wl.pure (PR.moveI rfl) ?_
    refine Wl.pure (PR.eql (a := y k) (b := z) rfl rfl) ?_
    refine Wl.nil ?_
    refine tn ?_
    refine Wc.condD (p := y k = z) rfl (fun h8 => ?_) (fun h8 => ?_)
    · have hx0k := hx0 k (by omega)
      refine Wc.region rfl ?_
      refine Wl.pure (PR.moveI rfl) ?_
      refine Wl.pure (PR.fieldAddr tF_51_0 rfl) ?_
      refine Wl.load (i := 0) st tA_28 rfl rfl (rfl) ?_
      refine Wl.pure (PR.shlZ (a := 1) (z := x k) rfl rfl (by omega) (by decide)) ?_
      refine Wl.pure (PR.or (a := v) (b := ((1 <<< (x k).toNat) % 256)) rfl rfl (by decide) hvb (Nat.mod_lt _ (by decide))) ?_
      refine Wl.pure (PR.assI rfl) ?_
      refine Wl.nil ?_
      refine bn ?_
      refine tn ?_
      refine Wc.region rfl ?_
      refine Wl.pure (PR.add (a := ((k : Nat) : Int)) (b := 1) rfl rfl (by simp only [fitI]; omega)) ?_
      refine Wl.pure (PR.moveI rfl) ?_
      refine Wl.nil ?_
      refine tn ?_
      replace st := st.tail
      exact ⟨(k + 1, (v ||| ((1 <<< (x k).toNat) % 256))), (.cons rfl (.cons rfl (.cons rfl (.cons rfl (.cons rfl (.cons rfl (.nil _))))))), ⟨st, (by first | omega | (dsimp only; omega)), (by first | exact knF_t hv (by omega) | exact knF_f hv (by omega)), (by first | exact hvb | exact or_lt_u8 hvb (Nat.mod_lt _ (by decide)))⟩, (by first | omega | (dsimp only; omega))⟩
    · refine Wc.skip ?_
      refine bn ?_
      refine tn ?_
      refine Wc.region rfl ?_
      refine Wl.pure (PR.add (a := ((k : Nat) : Int)) (b := 1) rfl rfl (by simp only [fitI]; omega)) ?_
      refine Wl.pure (PR.moveI rfl) ?_
      refine Wl.nil ?_
      refine tn ?_
      replace st := st.tail
      exact ⟨(k + 1, v), (.cons rfl (.cons rfl (.cons rfl (.cons rfl (.cons rfl (.cons rfl (.nil _))))))), ⟨st, (by first | omega | (dsimp only; omega)), (by first | exact knF_t hv (by omega) | exact knF_f hv (by omega)), (by first | exact hvb | exact or_lt_u8 hvb (Nat.mod_lt _ (by decide)))⟩, (by first | omega | (dsimp only; omega))⟩
  · refine Wc.exit ?_
    refine tx ?_
    refine tx ?_
    refine bh ?_
    refine tn ?_
    refine Wc.seq ?_
    refine Wc.region rfl ?_
    refine Wl.pure (PR.moveI rfl) ?_
    refine Wl.pure (PR.assI rfl) ?_
    refine Wl.nil ?_
    refine tn ?_
    refine Wc.ret ?_
    refine postL.tmp rfl rfl ?_
    refine RetV.of ?_ st.below
    refine congrArg (fun x : Nat => Value.int .u8 (x : Int)) ?_
    obtain rfl : k = t := by omega
    exact hv

set_option maxHeartbeats 400000 in
set_option maxRecDepth 4000 in
theorem c_spec_l07Known {A : Option Addr} {n : Nat} {t : Nat} {cp : Nat} {x : Nat → Int} {y : Nat → Int} {z : Int} {w : World} (hR : RdS w A n (hanV n x y)) (hx : ∀ i, i < n → -128 ≤ x i ∧ x i ≤ 127) (hy : ∀ i, i < n → -128 ≤ y i ∧ y i ≤ 127) (hn : n ≤ 1048576) (ht : t ≤ n) (hx0 : ∀ i, i < t → 0 ≤ x i) :
    CE Try.prog 42 [.slice (A) (n) (cp), .int .i64 (((t : Nat) : Int)), .int .i64 (z)] w (RetV w (.int .u8 (((knF x y z t : Nat) : Int)))) := by
  refine CE.enter 32 [(0, .slice (A) (n) (cp)), (1, .int .i64 (((t : Nat) : Int))), (2, .int .i64 (z))] en_42 Try.func42 rfl rfl (Nat.le_of_ble_eq_true rfl) rfl ?_
  have st := St.start w
  refine Wc.seq ?_
  refine Wc.region rfl ?_
  refine Wl.pure (PR.assI rfl) ?_
  refine Wl.nil ?_
  refine tn ?_
  refine Wc.seq ?_
  refine Wc.region rfl ?_
  refine Wl.pure (PR.assI rfl) ?_
  refine Wl.nil ?_
  refine tn ?_
  refine Wc.seq ?_
  refine Wc.seq ?_
  refine Wc.region rfl ?_
  refine Wl.pure (PR.assI rfl) ?_
  refine Wl.nil ?_
  refine tn ?_
  refine Wc.block ?_
  refine Wc.loopF (γ := Nat × Nat) (fun g => [(0, .slice (A) (n) (cp)), (1, .int .i64 (((t : Nat) : Int))), (2, .int .i64 (z)), (6, .int .u8 (0)), (7, .int .u8 (((g.2 : Nat) : Int))), (8, .int .i64 (((g.1 : Nat) : Int)))]) (fun g w_ => St [] w w_ [] ∧ (g.1 ≤ t) ∧ (g.2 = knF x y z g.1) ∧ (g.2 < 256)) (fun g => t - g.1) ?_ ?_
  · exact ⟨(0, 0), (.cons rfl (.cons rfl (.cons rfl (.cons rfl (.cons rfl (.cons rfl (.nil _))))))), st, (by first | omega | (dsimp only; omega)), rfl, (by decide)⟩
  clear st
  rintro ⟨k, v⟩ w1 ⟨st, hk, hv, hvb⟩
  try dsimp only at st hk hv hvb ⊢
  refine Wc.seq ?_
  refine Wc.seq ?_
  refine Wc.region rfl ?_
  refine Wl.pure (PR.moveI rfl) ?_
  refine Wl.pure (PR.moveI rfl) ?_
  refine Wl.pure (PR.lss (a := ((k : Nat) : Int)) (b := ((t : Nat) : Int)) rfl rfl) ?_
  refine Wl.nil ?_
  refine tn ?_
  refine Wc.condD (p := ((k : Nat) : Int) < ((t : Nat) : Int)) rfl (fun h2 => ?_) (fun h2 => ?_)
  · refine Wc.skip ?_
    refine tn ?_
    refine Wc.seq ?_
    refine Wc.block ?_
    refine Wc.seq ?_
    refine Wc.region rfl ?_
    refine Wl.pure (PR.moveL rfl) ?_
    refine Wl.pure (PR.moveI rfl) ?_
    obtain ⟨bs3, os4, rfl, hs5⟩ := hR (by omega)
    have := hx (k) (by omega)
    have := hy (k) (by omega)
    refine Wl.pure (PR.idxAddrS (i := k) tS_25 rfl rfl (by omega)) ?_
    refine Wl.pure (PR.fieldAddr tF_51_1 rfl) ?_
    refine Wl.loadC tA_28 rfl ((hs5.st st).at_ (recV_get (n := n) (i := k) (hanV_row _ _) (by omega) (rfl)) (Nat.add_assoc _ _ _).symm) ?_
    refine Wl.pure (PR.conv (n := y k) tI_2 rfl (by simp only [fitI]; omega) Try.underlying28) ?_
    refine Wl.pure (PR.moveI rfl) ?_
    refine Wl.pure (PR.eql (a := y k) (b := z) rfl rfl) ?_
    refine Wl.nil ?_
    refine tn ?_
    refine Wc.condD (p := y k = z) rfl (fun h6 => ?_) (fun h6 => ?_)
    · have hx0k := hx0 k (by omega)
      refine Wc.region rfl ?_
      refine Wl.pure (PR.moveI rfl) ?_
      refine Wl.pure (PR.moveL rfl) ?_
      refine Wl.pure (PR.moveI rfl) ?_
      have := hx (k) (by omega)
      have := hy (k) (by omega)
      refine Wl.pure (PR.idxAddrS (i := k) tS_25 rfl rfl (by omega)) ?_
      refine Wl.pure (PR.fieldAddr tF_51_0 rfl) ?_
      refine Wl.loadC tA_28 rfl ((hs5.st st).at_ (recV_get (n := n) (i := k) (hanV_row _ _) (by omega) (rfl)) (Nat.add_assoc _ _ _).symm) ?_
      refine Wl.pure (PR.conv (n := x k) tI_74 rfl (by simp only [fitI]; omega) Try.underlying28) ?_
      refine Wl.pure (PR.shlZ (a := 1) (z := x k) rfl rfl (by omega) (by decide)) ?_
      refine Wl.pure (PR.or (a := v) (b := ((1 <<< (x k).toNat) % 256)) rfl rfl (by decide) hvb (Nat.mod_lt _ (by decide))) ?_
      refine Wl.pure (PR.assI rfl) ?_
      refine Wl.nil ?_
      refine bn ?_
      refine tn ?_
      refine Wc.region rfl ?_
      refine Wl.pure (PR.moveI rfl) ?_
      refine Wl.pure (PR.add (a := ((k : Nat) : Int)) (b := 1) rfl rfl (by simp only [fitI]; omega)) ?_
      refine Wl.pure (PR.assI rfl) ?_
      refine Wl.nil ?_
      refine tn ?_
      exact ⟨(k + 1, (v ||| ((1 <<< (x k).toNat) % 256))), (.cons rfl (.cons rfl (.cons rfl (.cons rfl (.cons rfl (.cons rfl (.nil _))))))), ⟨st, (by first | omega | (dsimp only; omega)), (by first | exact knF_t hv (by omega) | exact knF_f hv (by omega)), (by first | exact hvb | exact or_lt_u8 hvb (Nat.mod_lt _ (by decide)))⟩, (by first | omega | (dsimp only; omega))⟩
    · refine Wc.skip ?_
      refine bn ?_
      refine tn ?_
      refine Wc.region rfl ?_
      refine Wl.pure (PR.moveI rfl) ?_
      refine Wl.pure (PR.add (a := ((k : Nat) : Int)) (b := 1) rfl rfl (by simp only [fitI]; omega)) ?_
      refine Wl.pure (PR.assI rfl) ?_
      refine Wl.nil ?_
      refine tn ?_
      exact ⟨(k + 1, v), (.cons rfl (.cons rfl (.cons rfl (.cons rfl (.cons rfl (.cons rfl (.nil _))))))), ⟨st, (by first | omega | (dsimp only; omega)), (by first | exact knF_t hv (by omega) | exact knF_f hv (by omega)), (by first | exact hvb | exact or_lt_u8 hvb (Nat.mod_lt _ (by decide)))⟩, (by first | omega | (dsimp only; omega))⟩
  · refine Wc.exit ?_
    refine tx ?_
    refine tx ?_
    refine bh ?_
    refine tn ?_
    refine Wc.seq ?_
    refine Wc.region rfl ?_
    refine Wl.pure (PR.moveI rfl) ?_
    refine Wl.pure (PR.assI rfl) ?_
    refine Wl.nil ?_
    refine tn ?_
    refine Wc.ret ?_
    refine postL.tmp rfl rfl ?_
    refine RetV.of ?_ st.below
    refine congrArg (fun x : Nat => Value.int .u8 (x : Int)) ?_
    obtain rfl : k = t := by omega
    exact hv

end Go.Proofs.Ytgcgfcfkbeomdaa
