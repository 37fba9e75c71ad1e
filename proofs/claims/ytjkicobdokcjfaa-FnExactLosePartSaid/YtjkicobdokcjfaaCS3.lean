/-
  Contracts of functions, printed by a program of ours.
-/
import Derived.Test.YtjkicobdokcjfaaCS2
namespace Go.Proofs.Ytjkicobdokcjfaa
open Go.RowKit
set_option linter.unusedVariables false
set_option linter.unusedSimpArgs false

set_option maxHeartbeats 400000 in
set_option maxRecDepth 4000 in
theorem c_impl_Scheme_all {s : Int} {p : Int} {a : Nat → Nat} {b : Nat → Nat} {w : World} (hs0 : 0 ≤ s) (ha : ∀ k, a k < 256) (hb : ∀ k, b k < 256) :
    CE Try.prog 64 [.agg (schV (s) (p) (a) (b)).toArray] w (RetV w (.int .u8 (((((((1 <<< (s).toNat) % 256) + 255) % 256) : Nat) : Int)))) := by
  refine CE.enter 7 [(0, .agg (schV (s) (p) (a) (b)).toArray)] en_64 Try.func64 rfl rfl (Nat.le_of_ble_eq_true rfl) rfl ?_
  have st := St.start w
  refine Wc.seq ?_
  obtain ⟨n, rfl⟩ : ∃ n : Nat, s = ((n : Nat) : Int) := ⟨s.toNat, by omega⟩
  refine Wc.region rfl ?_
  refine Wl.boxA st rfl ?_
  clear st
  intro b1 w1 st
  refine Wl.pure (PR.assI rfl) ?_
  refine Wl.nil ?_
  refine tn ?_
  refine Wc.seq ?_
  refine Wc.region rfl ?_
  refine Wl.pure (PR.fieldAddr tF_34_0 rfl) ?_
  refine Wl.load (i := 0) st tA_30 rfl rfl (rfl) ?_
  refine Wl.pure (PR.shl (a := 1) (n := n) rfl rfl (by decide)) ?_
  refine Wl.pure (PR.subU (a := ((1 <<< n) % 256)) (b := 1) rfl rfl (by decide) (by decide)) ?_
  refine Wl.pure (PR.assI rfl) ?_
  refine Wl.nil ?_
  refine tn ?_
  refine Wc.ret ?_
  refine postL.tmp rfl rfl ?_
  refine RetV.of ?_ st.below
  refine congrArg (Value.int .u8) ?_
  first | rfl | omega | simp_all

set_option maxHeartbeats 400000 in
set_option maxRecDepth 4000 in
theorem c_impl_Scheme_isSet {s : Int} {p : Int} {a : Nat → Nat} {b : Nat → Nat} {x : Nat} {w : World} (ha : ∀ k, a k < 256) (hb : ∀ k, b k < 256) (hx : x < 256) :
    CE Try.prog 57 [.agg (schV (s) (p) (a) (b)).toArray, .int .u8 (((x : Nat) : Int))] w (RetV w (.bool (decide (isSetB s x)))) := by
  refine CE.enter 15 [(0, .agg (schV (s) (p) (a) (b)).toArray), (1, .int .u8 (((x : Nat) : Int)))] en_57 Try.func57 rfl rfl (Nat.le_of_ble_eq_true rfl) rfl ?_
  have st := St.start w
  refine Wc.seq ?_
  refine Wc.region rfl ?_
  refine Wl.boxA st rfl ?_
  clear st
  intro b2 w1 st
  refine Wl.pure (PR.assB rfl) ?_
  refine Wl.nil ?_
  refine tn ?_
  refine Wc.seq ?_
  refine Wc.region rfl ?_
  refine Wl.pure (PR.fieldAddr tF_34_0 rfl) ?_
  refine Wl.load (i := 0) st tA_30 rfl rfl (rfl) ?_
  refine Wl.pure (PR.geq (a := s) (b := 0) rfl rfl) ?_
  refine Wl.pure (PR.moveB rfl) ?_
  refine Wl.splitT (q := 0 ≤ s) rfl rfl (fun h2 => ?_) (fun h2 => ?_)
  · refine Wl.pure (PR.moveI rfl) ?_
    refine Wl.on rfl rfl ?_
    refine Wl.loadA (i := 0) st tA_34 rfl rfl (all_sub schV_len) schV_len ?_
    refine Wl.on rfl rfl ?_
    refine Wl.callV (c_impl_Scheme_all (s := s) (p := p) (a := a) (b := b) (by first | assumption | omega) ha hb) rfl ?_
    intro w3 hbel
    replace st := st.call hbel
    clear hbel
    refine Wl.on rfl rfl ?_
    refine Wl.pure (PR.andNot (a := x) (b := ((((1 <<< (s).toNat) % 256) + 255) % 256)) rfl rfl (by decide) hx (Nat.mod_lt _ (by decide))) ?_
    refine Wl.on rfl rfl ?_
    refine Wl.pure (PR.eql (a := (((bdiff x ((((1 <<< (s).toNat) % 256) + 255) % 256)) : Nat) : Int)) (b := 0) rfl rfl) ?_
    refine Wl.pure (PR.pickTB rfl rfl) ?_
    refine Wl.pure (PR.assB rfl) ?_
    refine Wl.nil ?_
    refine tn ?_
    refine Wc.ret ?_
    refine postL.tmp rfl rfl ?_
    refine RetV.of ?_ st.below
    refine congrArg Value.bool ?_
    first | exact (decide_eq_false (fun q => absurd q.1 (by assumption))).symm | (unfold isSetB; exact decide_eq_decide.2 (by omega))
  · refine Wl.off rfl rfl rfl ?_
    refine Wl.off rfl rfl rfl ?_
    refine Wl.off rfl rfl rfl ?_
    refine Wl.off rfl rfl rfl ?_
    refine Wl.pure (PR.pickFB rfl rfl) ?_
    refine Wl.pure (PR.assB rfl) ?_
    refine Wl.nil ?_
    refine tn ?_
    refine Wc.ret ?_
    refine postL.tmp rfl rfl ?_
    refine RetV.of ?_ st.below
    refine congrArg Value.bool ?_
    first | exact (decide_eq_false (fun q => absurd q.1 (by assumption))).symm | (unfold isSetB; exact decide_eq_decide.2 (by omega))

set_option maxHeartbeats 400000 in
set_option maxRecDepth 4000 in
theorem c_impl_setCode {s : Int} {p : Int} {a : Nat → Nat} {b : Nat → Nat} {x : Nat} {w : World} (hs : -128 ≤ s ∧ s ≤ 127) (hp : -128 ≤ p ∧ p ≤ 127) (ha : ∀ k, a k < 256) (hb : ∀ k, b k < 256) (hx : x < 256) :
    CE Try.prog 48 [.agg (schV (s) (p) (a) (b)).toArray, .int .u8 (((x : Nat) : Int))] w (RetV w (.int .i64 (((asked s p a b x : Nat) : Int)))) := by
  refine CE.enter 16 [(0, .agg (schV (s) (p) (a) (b)).toArray), (1, .int .u8 (((x : Nat) : Int)))] en_48 Try.func48 rfl rfl (Nat.le_of_ble_eq_true rfl) rfl ?_
  have st := St.start w
  refine Wc.seq ?_
  refine Wc.region rfl ?_
  refine Wl.boxA st rfl ?_
  clear st
  intro b2 w1 st
  refine Wl.pure (PR.assI rfl) ?_
  refine Wl.nil ?_
  refine tn ?_
  refine Wc.seq ?_
  refine Wc.quietTail 9 hmix (by kernel_rfl) rfl ?_
  refine Wq.loadA (i := 0) st tA_34 rfl rfl (all_sub schV_len) schV_len ?_
  refine Wq.callV (fun _ hbel => c_impl_ValidScheme (s := s) (p := p) (a := a) (b := b) (by first | assumption | omega) (by first | assumption | omega) ha hb) rfl ?_
  refine Wq.pure (PR.not_ rfl) ?_
  refine Wq.pure (PR.build (ps := [(0, .bool (!(schOk s p a b))), (1, .int .i64 (1))]) (cs := [.bool (!(schOk s p a b)), .int .i64 (1)]) tB_64 rfl rfl) ?_
  refine Wq.loadA (i := 0) st tA_34 rfl rfl (all_sub schV_len) schV_len ?_
  refine Wq.pure (PR.moveI rfl) ?_
  refine Wq.callV (fun _ hbel => c_impl_Scheme_isSet (s := s) (p := p) (a := a) (b := b) (x := x) ha hb hx) rfl ?_
  refine Wq.pure (PR.not_ rfl) ?_
  refine Wq.pure (PR.build (ps := [(0, .bool (!decide (isSetB s x))), (1, .int .i64 (2))]) (cs := [.bool (!decide (isSetB s x)), .int .i64 (2)]) tB_64 rfl rfl) ?_
  refine Wq.nil (fun w2 hbel => ?_)
  replace st := st.call hbel
  clear hbel
  refine Wl.buildSlice (ps := [(0, .agg ([.bool (!(schOk s p a b)), .int .i64 (1)]).toArray), (1, .agg ([.bool (!decide (isSetB s x)), .int .i64 (2)]).toArray)]) (cs := [.bool (!(schOk s p a b)), .int .i64 (1), .bool (!decide (isSetB s x)), .int .i64 (2)]) st tS_79 tZ_64 rfl rfl rfl ?_
  clear st
  intro b14 w3 st
  refine Wl.callV (c_impl_firstOf (bk := b14) (o := 0) (n := 2) (cp := 2) (c := (fun i => [(!(schOk s p a b)), (!decide (isSetB s x))].getD i false)) (e := (fun i => [1, 2].getD i 0)) (st.rdA (i := 0) (n := 4) rfl rfl) (by first | assumption | omega)) rfl ?_
  intro w4 hbel
  replace st := st.call hbel
  clear hbel
  refine Wl.pure (PR.assI rfl) ?_
  refine Wl.nil ?_
  refine tn ?_
  refine Wc.ret ?_
  refine postL.tmp rfl rfl ?_
  refine RetV.of ?_ st.below
  exact congrArg (Value.int .i64) (first_asked hx)

set_option maxHeartbeats 400000 in
set_option maxRecDepth 4000 in
theorem c_spec_l02Asked {bk : Nat} {o : Nat} {s : Int} {p : Int} {a : Nat → Nat} {b : Nat → Nat} {x : Nat} {w : World} (hR : RdA w bk o (schV s p a b)) (hs : -128 ≤ s ∧ s ≤ 127) (hp : -128 ≤ p ∧ p ≤ 127) (ha : ∀ k, a k < 256) (hb : ∀ k, b k < 256) (hx : x < 256) :
    CE Try.prog 47 [.pointer (some ⟨bk, o, none⟩), .int .u8 (((x : Nat) : Int))] w (RetV w (.int .i64 (((asked s p a b x : Nat) : Int)))) := by
  refine CE.enter 16 [(0, .pointer (some ⟨bk, o, none⟩)), (1, .int .u8 (((x : Nat) : Int)))] en_47 Try.func47 rfl rfl (Nat.le_of_ble_eq_true rfl) rfl ?_
  have st := St.start w
  refine Wc.seq ?_
  refine Wc.region rfl ?_
  refine Wl.pure (PR.assI rfl) ?_
  refine Wl.nil ?_
  refine tn ?_
  refine Wc.seq ?_
  refine Wc.seq ?_
  refine Wc.region rfl ?_
  refine Wl.pure (PR.moveP rfl) ?_
  refine Wl.callV (c_spec_l02Ok (bk := bk) (o := o) (s := s) (p := p) (a := a) (b := b) (hR.st st) (by first | assumption | omega) (by first | assumption | omega) ha hb) rfl ?_
  intro w1 hbel
  replace st := st.call hbel
  clear hbel
  refine Wl.pure (PR.not_ rfl) ?_
  refine Wl.nil ?_
  refine tn ?_
  refine Wc.condNB (b := schOk s p a b) rfl (fun h2 => ?_) (fun h2 => ?_)
  · refine Wc.seq ?_
    refine Wc.region rfl ?_
    refine Wl.pure (PR.assI rfl) ?_
    refine Wl.nil ?_
    refine tn ?_
    refine Wc.ret ?_
    refine tr ?_
    refine postL.tmp rfl rfl ?_
    refine RetV.of ?_ st.below
    refine congrArg (fun x : Nat => Value.int .i64 (x : Int)) ?_
    first | exact asked_1 (by assumption) | exact asked_2 (by assumption) (fun q => absurd ((shr_zero (x := x) (n := n)).2 q) (by omega)) | exact asked_0 (by assumption) ((shr_zero (x := x) (n := n)).1 (by omega))
  · refine Wc.skip ?_
    refine tn ?_
    refine Wc.seq ?_
    refine Wc.seq ?_
    obtain ⟨hs1, _⟩ := schOk_spec (by assumption)
    obtain ⟨n, rfl⟩ : ∃ n : Nat, s = ((n : Nat) : Int) := ⟨s.toNat, by omega⟩
    refine Wc.region rfl ?_
    refine Wl.pure (PR.moveI rfl) ?_
    refine Wl.pure (PR.moveP rfl) ?_
    refine Wl.pure (PR.nil_ rfl) ?_
    refine Wl.pure (PR.fieldAddr tF_34_0 rfl) ?_
    refine Wl.loadC tA_30 rfl ((hR.st st).at_ (rfl) rfl) ?_
    refine Wl.pure (PR.conv (n := ((n : Nat) : Int)) tI_68 rfl (by simp only [fitI]; omega) Try.underlying30) ?_
    refine Wl.pure (PR.shr (a := x) (n := n) rfl rfl (by decide) hx) ?_
    refine Wl.pure (PR.neq (a := (((x >>> n) : Nat) : Int)) (b := 0) rfl rfl) ?_
    refine Wl.nil ?_
    refine tn ?_
    refine Wc.condN (p := (((x >>> n) : Nat) : Int) = 0) rfl (fun h3 => ?_) (fun h3 => ?_)
    · refine Wc.seq ?_
      refine Wc.region rfl ?_
      refine Wl.pure (PR.assI rfl) ?_
      refine Wl.nil ?_
      refine tn ?_
      refine Wc.ret ?_
      refine tr ?_
      refine postL.tmp rfl rfl ?_
      refine RetV.of ?_ st.below
      refine congrArg (fun x : Nat => Value.int .i64 (x : Int)) ?_
      first | exact asked_1 (by assumption) | exact asked_2 (by assumption) (fun q => absurd ((shr_zero (x := x) (n := n)).2 q) (by omega)) | exact asked_0 (by assumption) ((shr_zero (x := x) (n := n)).1 (by omega))
    · refine Wc.skip ?_
      refine tn ?_
      refine Wc.seq ?_
      refine Wc.region rfl ?_
      refine Wl.pure (PR.assI rfl) ?_
      refine Wl.nil ?_
      refine tn ?_
      refine Wc.ret ?_
      refine postL.tmp rfl rfl ?_
      refine RetV.of ?_ st.below
      refine congrArg (fun x : Nat => Value.int .i64 (x : Int)) ?_
      first | exact asked_1 (by assumption) | exact asked_2 (by assumption) (fun q => absurd ((shr_zero (x := x) (n := n)).2 q) (by omega)) | exact asked_0 (by assumption) ((shr_zero (x := x) (n := n)).1 (by omega))

end Go.Proofs.Ytjkicobdokcjfaa
