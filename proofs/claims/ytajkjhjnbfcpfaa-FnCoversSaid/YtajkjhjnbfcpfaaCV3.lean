/-
  Contracts of functions, printed by a program of ours.
-/
import Derived.Test.YtajkjhjnbfcpfaaCV2
namespace Go.Proofs.Ytajkjhjnbfcpfaa
open Go.RowKit
set_option linter.unusedVariables false
set_option linter.unusedSimpArgs false

set_option maxHeartbeats 400000 in
set_option maxRecDepth 4000 in
theorem c_impl_CoverShown {p : Int} {c : Nat → Nat} {w : World} (hp : -128 ≤ p ∧ p ≤ 127) (hc : ∀ k, c k < 256) :
    CE Try.prog 18 [.agg (layV (p) (c)).toArray] w (RetV w (.tuple #[.int .u64 (((selN (codeP 1 (fun z_ => [p].getD z_ 0) (fun z_ => [c].getD z_ (fun _ => 0)) 4) (pic (fun r => decide (3 ≤ ((pc (c r) : Nat) : Int)))) : Nat) : Int)), .int .i64 (((codeP 1 (fun z_ => [p].getD z_ 0) (fun z_ => [c].getD z_ (fun _ => 0)) 4 : Nat) : Int))])) := by
  refine CE.enter 13 [(0, .agg (layV (p) (c)).toArray)] en_18 Try.func18 rfl rfl (Nat.le_of_ble_eq_true rfl) rfl ?_
  have st := St.start w
  refine Wc.seq ?_
  refine Wc.region rfl ?_
  refine Wl.boxA st rfl ?_
  clear st
  intro b1 w1 st
  refine Wl.pure (PR.assI rfl) ?_
  refine Wl.pure (PR.assI rfl) ?_
  refine Wl.nil ?_
  refine tn ?_
  refine Wc.seq ?_
  refine Wc.seq ?_
  refine Wc.region rfl ?_
  refine Wl.loadA (i := 0) st tA_30 rfl rfl (all_sub layV_len) layV_len ?_
  refine Wl.buildSlice (ps := [(0, .agg (layV (p) (c)).toArray)]) (cs := layS 1 (fun z_ => [(p)].getD z_ 0) (fun z_ => [c].getD z_ (fun _ => 0))) st tS_99 tZ_30 rfl rfl (lit_lays1 _ _ _) ?_
  clear st
  intro b6 w2 st
  refine Wl.callV (c_impl_partsCode (A := some ⟨b6, 0, none⟩) (n := 1) (cp := 1) (p := (fun z_ => [(p)].getD z_ 0)) (c := (fun z_ => [c].getD z_ (fun _ => 0))) (q := 4) ((st.rdA (i := 0) (n := (1 * 65)) rfl (all_sub (recV_len (s := 65) (layS_row _ _) _))).sl) (lit_p1 hp) (lit_lt1 hc) (by decide)) rfl ?_
  intro w3 hbel
  replace st := st.call hbel
  clear hbel
  refine Wl.pure (PR.assI rfl) ?_
  refine Wl.nil ?_
  refine tn ?_
  refine Wc.seq ?_
  refine Wc.region rfl ?_
  refine Wl.pure (PR.moveI rfl) ?_
  refine Wl.pure (PR.neq (a := ((codeP 1 (fun z_ => [(p)].getD z_ 0) (fun z_ => [c].getD z_ (fun _ => 0)) 4 : Nat) : Int)) (b := 0) rfl rfl) ?_
  refine Wl.nil ?_
  refine tn ?_
  refine Wc.condN (p := ((codeP 1 (fun z_ => [(p)].getD z_ 0) (fun z_ => [c].getD z_ (fun _ => 0)) 4 : Nat) : Int) = 0) rfl (fun h4 => ?_) (fun h4 => ?_)
  · refine Wc.seq ?_
    refine Wc.region rfl ?_
    refine Wl.pure (PR.moveI rfl) ?_
    refine Wl.pure (PR.assI rfl) ?_
    refine Wl.pure (PR.assI rfl) ?_
    refine Wl.nil ?_
    refine tn ?_
    refine Wc.ret ?_
    refine tr ?_
    refine postL.tmp2 rfl rfl rfl ?_
    refine RetV.of ?_ st.below
    exact sh_f (by omega)
  · refine Wc.skip ?_
    refine tn ?_
    refine Wc.seq ?_
    refine Wc.region rfl ?_
    refine Wl.loadA (i := 1) st tA_30 rfl rfl (all_sub layV_len) layV_len ?_
    refine Wl.callV (c_impl_Layer_shown (p := p) (c := c) (t := 3) hc) rfl ?_
    intro w5 hbel
    replace st := st.call hbel
    clear hbel
    refine Wl.pure (PR.assI rfl) ?_
    refine Wl.pure (PR.assI rfl) ?_
    refine Wl.nil ?_
    refine tn ?_
    refine Wc.ret ?_
    refine postL.tmp2 rfl rfl rfl ?_
    refine RetV.of ?_ st.below
    exact sh_t (by omega)

set_option maxHeartbeats 400000 in
set_option maxRecDepth 4000 in
theorem c_spec_CoverShown {p : Int} {c : Nat → Nat} {w : World} (hp : -128 ≤ p ∧ p ≤ 127) (hc : ∀ k, c k < 256) :
    CE Try.prog 16 [.agg (layV (p) (c)).toArray] w (RetV w (.tuple #[.int .u64 (((selN (codeP 1 (fun z_ => [p].getD z_ 0) (fun z_ => [c].getD z_ (fun _ => 0)) 4) (pic (fun r => decide (3 ≤ ((pc (c r) : Nat) : Int)))) : Nat) : Int)), .int .i64 (((codeP 1 (fun z_ => [p].getD z_ 0) (fun z_ => [c].getD z_ (fun _ => 0)) 4 : Nat) : Int))])) := by
  refine CE.enter 12 [(0, .agg (layV (p) (c)).toArray)] en_16 Try.func16 rfl rfl (Nat.le_of_ble_eq_true rfl) rfl ?_
  have st := St.start w
  refine Wc.seq ?_
  refine Wc.region rfl ?_
  refine Wl.boxA st rfl ?_
  clear st
  intro b1 w1 st
  refine Wl.pure (PR.assI rfl) ?_
  refine Wl.pure (PR.assI rfl) ?_
  refine Wl.nil ?_
  refine tn ?_
  refine Wc.seq ?_
  refine Wc.seq ?_
  refine Wc.region rfl ?_
  refine Wl.loadA (i := 0) st tA_30 rfl rfl (all_sub layV_len) layV_len ?_
  refine Wl.buildSlice (ps := [(0, .agg (layV (p) (c)).toArray)]) (cs := layS 1 (fun z_ => [(p)].getD z_ 0) (fun z_ => [c].getD z_ (fun _ => 0))) st tS_99 tZ_30 rfl rfl (lit_lays1 _ _ _) ?_
  clear st
  intro b6 w2 st
  refine Wl.callV (c_spec_l05With (A := some ⟨b6, 0, none⟩) (n := 1) (cp := 1) (p := (fun z_ => [(p)].getD z_ 0)) (c := (fun z_ => [c].getD z_ (fun _ => 0))) (q := 4) ((st.rdA (i := 0) (n := (1 * 65)) rfl (all_sub (recV_len (s := 65) (layS_row _ _) _))).sl) (lit_p1 hp) (lit_lt1 hc) (by decide)) rfl ?_
  intro w3 hbel
  replace st := st.call hbel
  clear hbel
  refine Wl.pure (PR.assI rfl) ?_
  refine Wl.nil ?_
  refine tn ?_
  refine Wc.seq ?_
  refine Wc.region rfl ?_
  refine Wl.pure (PR.moveI rfl) ?_
  refine Wl.pure (PR.neq (a := ((codeP 1 (fun z_ => [(p)].getD z_ 0) (fun z_ => [c].getD z_ (fun _ => 0)) 4 : Nat) : Int)) (b := 0) rfl rfl) ?_
  refine Wl.nil ?_
  refine tn ?_
  refine Wc.condN (p := ((codeP 1 (fun z_ => [(p)].getD z_ 0) (fun z_ => [c].getD z_ (fun _ => 0)) 4 : Nat) : Int) = 0) rfl (fun h4 => ?_) (fun h4 => ?_)
  · refine Wc.seq ?_
    refine Wc.region rfl ?_
    refine Wl.pure (PR.moveI rfl) ?_
    refine Wl.pure (PR.assI rfl) ?_
    refine Wl.pure (PR.assI rfl) ?_
    refine Wl.nil ?_
    refine tn ?_
    refine Wc.ret ?_
    refine tr ?_
    refine postL.tmp2 rfl rfl rfl ?_
    refine RetV.of ?_ st.below
    exact sh_f (by omega)
  · refine Wc.skip ?_
    refine tn ?_
    refine Wc.seq ?_
    refine Wc.region rfl ?_
    refine Wl.callV (c_spec_l01Shown (b := b1) (o := 0) (p := p) (c := c) (t := 3) (st.rdA (i := 1) rfl (all_sub layV_len)) hc) rfl ?_
    intro w5 hbel
    replace st := st.call hbel
    clear hbel
    refine Wl.pure (PR.assI rfl) ?_
    refine Wl.pure (PR.assI rfl) ?_
    refine Wl.nil ?_
    refine tn ?_
    refine Wc.ret ?_
    refine postL.tmp2 rfl rfl rfl ?_
    refine RetV.of ?_ st.below
    exact sh_t (by omega)

set_option maxHeartbeats 400000 in
set_option maxRecDepth 4000 in
theorem c_laws_FnExactCoverShown {p : Int} {c : Nat → Nat} {w : World} (hp : -128 ≤ p ∧ p ≤ 127) (hc : ∀ k, c k < 256) :
    CE Try.prog 3 [.agg (layV (p) (c)).toArray] w (RetV w (.bool true)) := by
  refine CE.enter 27 [(0, .agg (layV (p) (c)).toArray)] en_3 Try.func3 rfl rfl (Nat.le_of_ble_eq_true rfl) rfl ?_
  have st := St.start w
  refine Wc.seq ?_
  refine Wc.region rfl ?_
  refine Wl.boxA st rfl ?_
  clear st
  intro b1 w1 st
  refine Wl.pure (PR.assB rfl) ?_
  refine Wl.nil ?_
  refine tn ?_
  refine Wc.seq ?_
  refine Wc.region rfl ?_
  refine Wl.loadA (i := 0) st tA_25 rfl rfl (all_sub layV_len) layV_len ?_
  refine Wl.callV (c_laws_toLayer (p := p) (c := c) hc) rfl ?_
  intro w2 hbel
  replace st := st.call hbel
  clear hbel
  refine Wl.callV (c_spec_CoverShown (p := p) (c := c) (by first | assumption | omega) (by assumption)) rfl ?_
  intro w3 hbel
  replace st := st.call hbel
  clear hbel
  refine Wl.pure (PR.moveV (.tuple #[.int .u64 (((selN (codeP 1 (fun z_ => [p].getD z_ 0) (fun z_ => [c].getD z_ (fun _ => 0)) 4) (pic (fun r => decide (3 ≤ ((pc (c r) : Nat) : Int)))) : Nat) : Int)), .int .i64 (((codeP 1 (fun z_ => [p].getD z_ 0) (fun z_ => [c].getD z_ (fun _ => 0)) 4 : Nat) : Int))]) rfl) ?_
  refine Wl.pure (PR.extr (i := 0) (vs := [.int .u64 (((selN (codeP 1 (fun z_ => [p].getD z_ 0) (fun z_ => [c].getD z_ (fun _ => 0)) 4) (pic (fun r => decide (3 ≤ ((pc (c r) : Nat) : Int)))) : Nat) : Int)), .int .i64 (((codeP 1 (fun z_ => [p].getD z_ 0) (fun z_ => [c].getD z_ (fun _ => 0)) 4 : Nat) : Int))]) rfl rfl) ?_
  refine Wl.pure (PR.extr (i := 1) (vs := [.int .u64 (((selN (codeP 1 (fun z_ => [p].getD z_ 0) (fun z_ => [c].getD z_ (fun _ => 0)) 4) (pic (fun r => decide (3 ≤ ((pc (c r) : Nat) : Int)))) : Nat) : Int)), .int .i64 (((codeP 1 (fun z_ => [p].getD z_ 0) (fun z_ => [c].getD z_ (fun _ => 0)) 4 : Nat) : Int))]) rfl rfl) ?_
  refine Wl.pure (PR.assI rfl) ?_
  refine Wl.pure (PR.assI rfl) ?_
  refine Wl.nil ?_
  refine tn ?_
  refine Wc.seq ?_
  refine Wc.region rfl ?_
  refine Wl.loadA (i := 0) st tA_25 rfl rfl (all_sub layV_len) layV_len ?_
  refine Wl.callV (c_laws_toLayer (p := p) (c := c) hc) rfl ?_
  intro w4 hbel
  replace st := st.call hbel
  clear hbel
  refine Wl.callV (c_impl_CoverShown (p := p) (c := c) (by first | assumption | omega) (by assumption)) rfl ?_
  intro w5 hbel
  replace st := st.call hbel
  clear hbel
  refine Wl.pure (PR.moveV (.tuple #[.int .u64 (((selN (codeP 1 (fun z_ => [p].getD z_ 0) (fun z_ => [c].getD z_ (fun _ => 0)) 4) (pic (fun r => decide (3 ≤ ((pc (c r) : Nat) : Int)))) : Nat) : Int)), .int .i64 (((codeP 1 (fun z_ => [p].getD z_ 0) (fun z_ => [c].getD z_ (fun _ => 0)) 4 : Nat) : Int))]) rfl) ?_
  refine Wl.pure (PR.extr (i := 0) (vs := [.int .u64 (((selN (codeP 1 (fun z_ => [p].getD z_ 0) (fun z_ => [c].getD z_ (fun _ => 0)) 4) (pic (fun r => decide (3 ≤ ((pc (c r) : Nat) : Int)))) : Nat) : Int)), .int .i64 (((codeP 1 (fun z_ => [p].getD z_ 0) (fun z_ => [c].getD z_ (fun _ => 0)) 4 : Nat) : Int))]) rfl rfl) ?_
  refine Wl.pure (PR.extr (i := 1) (vs := [.int .u64 (((selN (codeP 1 (fun z_ => [p].getD z_ 0) (fun z_ => [c].getD z_ (fun _ => 0)) 4) (pic (fun r => decide (3 ≤ ((pc (c r) : Nat) : Int)))) : Nat) : Int)), .int .i64 (((codeP 1 (fun z_ => [p].getD z_ 0) (fun z_ => [c].getD z_ (fun _ => 0)) 4 : Nat) : Int))]) rfl rfl) ?_
  refine Wl.pure (PR.assI rfl) ?_
  refine Wl.pure (PR.assI rfl) ?_
  refine Wl.nil ?_
  refine tn ?_
  refine Wc.seq ?_
  refine Wc.seq ?_
  refine Wc.region rfl ?_
  refine Wl.pure (PR.moveI rfl) ?_
  refine Wl.pure (PR.moveI rfl) ?_
  refine Wl.pure (PR.neqS (a := ((selN (codeP 1 (fun z_ => [p].getD z_ 0) (fun z_ => [c].getD z_ (fun _ => 0)) 4) (pic (fun r => decide (3 ≤ ((pc (c r) : Nat) : Int)))) : Nat) : Int)) rfl rfl) ?_
  refine Wl.pure (PR.moveB rfl) ?_
  refine Wl.on rfl rfl ?_
  refine Wl.pure (PR.moveI rfl) ?_
  refine Wl.on rfl rfl ?_
  refine Wl.pure (PR.moveI rfl) ?_
  refine Wl.on rfl rfl ?_
  refine Wl.pure (PR.neqS (a := ((codeP 1 (fun z_ => [p].getD z_ 0) (fun z_ => [c].getD z_ (fun _ => 0)) 4 : Nat) : Int)) rfl rfl) ?_
  refine Wl.pure (PR.pickFB rfl rfl) ?_
  refine Wl.nil ?_
  refine tn ?_
  refine Wc.condF rfl ?_
  refine Wc.skip ?_
  refine tn ?_
  refine Wc.seq ?_
  refine Wc.region rfl ?_
  refine Wl.pure (PR.assB rfl) ?_
  refine Wl.nil ?_
  refine tn ?_
  refine Wc.ret ?_
  refine postL.tmp rfl rfl ?_
  exact RetV.of rfl st.below

end Go.Proofs.Ytajkjhjnbfcpfaa
