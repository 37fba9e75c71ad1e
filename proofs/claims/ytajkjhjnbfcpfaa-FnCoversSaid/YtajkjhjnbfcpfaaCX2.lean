/-
  Contracts of functions, printed by a program of ours.
-/
import Derived.Test.YtajkjhjnbfcpfaaCX1
import Derived.Test.YtajkjhjnbfcpfaaCW5
namespace Go.Proofs.Ytajkjhjnbfcpfaa
open Go.RowKit
set_option linter.unusedVariables false
set_option linter.unusedSimpArgs false

set_option maxHeartbeats 400000 in
set_option maxRecDepth 4000 in
theorem c_impl_CheckCovers {p : Int} {c : Nat → Nat} {r : Int} {d : Nat → Nat} {w : World} (hp : -128 ≤ p ∧ p ≤ 127) (hc : ∀ k, c k < 256) (hr : -128 ≤ r ∧ r ≤ 127) (hd : ∀ k, d k < 256) :
    CE Try.prog 43 [.agg (layV (p) (c)).toArray, .agg (layV (r) (d)).toArray] w (RetV w (.tuple #[.int .u64 (((selN (chC (codeP 2 (fun i => [p, r].getD i 0) (fun i => [c, d].getD i (fun _ => 0)) 4) c d) (pic (fun r => decide (3 ≤ ((pc (c r) : Nat) : Int)))) : Nat) : Int)), .int .u64 (((selN (chC (codeP 2 (fun i => [p, r].getD i 0) (fun i => [c, d].getD i (fun _ => 0)) 4) c d) (pic (fun r => decide (3 ≤ ((pc (d r) : Nat) : Int)))) : Nat) : Int)), .int .u64 (((selN (chC (codeP 2 (fun i => [p, r].getD i 0) (fun i => [c, d].getD i (fun _ => 0)) 4) c d) (pic (fun r => decide (4 ≤ ((pc ((orC (fun i => [c, d].getD i (fun _ => 0)) 2) r) : Nat) : Int)))) : Nat) : Int)), .int .i64 ((((chC (codeP 2 (fun i => [p, r].getD i 0) (fun i => [c, d].getD i (fun _ => 0)) 4) c d) : Nat) : Int))])) := by
  refine CE.enter 63 [(0, .agg (layV (p) (c)).toArray), (1, .agg (layV (r) (d)).toArray)] en_43 Try.func43 rfl rfl (Nat.le_of_ble_eq_true rfl) rfl ?_
  have st := St.start w
  refine Wc.seq ?_
  refine Wc.region rfl ?_
  refine Wl.boxA st rfl ?_
  clear st
  intro b2 w1 st
  refine Wl.boxA st rfl ?_
  clear st
  intro b3 w2 st
  refine Wl.pure (PR.assI rfl) ?_
  refine Wl.pure (PR.assI rfl) ?_
  refine Wl.pure (PR.assI rfl) ?_
  refine Wl.pure (PR.assI rfl) ?_
  refine Wl.nil ?_
  refine tn ?_
  refine Wc.seq ?_
  refine Wc.seq ?_
  refine Wc.region rfl ?_
  refine Wl.loadA (i := 1) st tA_30 rfl rfl (all_sub layV_len) layV_len ?_
  refine Wl.loadA (i := 0) st tA_30 rfl rfl (all_sub layV_len) layV_len ?_
  refine Wl.buildSlice (ps := [(0, .agg (layV (p) (c)).toArray), (1, .agg (layV (r) (d)).toArray)]) (cs := layS 2 (fun z_ => [(p), (r)].getD z_ 0) (fun z_ => [c, d].getD z_ (fun _ => 0))) st tS_99 tZ_30 rfl rfl (lit_lays2 _ _ _ _ _) ?_
  clear st
  intro b17 w3 st
  refine Wl.callV (c_impl_partsCode (A := some ⟨b17, 0, none⟩) (n := 2) (cp := 2) (p := (fun z_ => [(p), (r)].getD z_ 0)) (c := (fun z_ => [c, d].getD z_ (fun _ => 0))) (q := 4) ((st.rdA (i := 0) (n := (2 * 65)) rfl (all_sub (recV_len (s := 65) (layS_row _ _) _))).sl) (lit_p2 hp hr) (lit_lt2 hc hd) (by first | assumption | omega)) rfl ?_
  intro w4 hbel
  replace st := st.call hbel
  clear hbel
  refine Wl.pure (PR.assI rfl) ?_
  refine Wl.nil ?_
  refine tn ?_
  refine Wc.seq ?_
  refine Wc.region rfl ?_
  refine Wl.pure (PR.moveI rfl) ?_
  refine Wl.pure (PR.neq (a := ((codeP 2 (fun z_ => [(p), (r)].getD z_ 0) (fun z_ => [c, d].getD z_ (fun _ => 0)) 4 : Nat) : Int)) (b := 0) rfl rfl) ?_
  refine Wl.nil ?_
  refine tn ?_
  refine Wc.condN (p := ((codeP 2 (fun z_ => [(p), (r)].getD z_ 0) (fun z_ => [c, d].getD z_ (fun _ => 0)) 4 : Nat) : Int) = 0) rfl (fun h5 => ?_) (fun h5 => ?_)
  · refine Wc.seq ?_
    refine Wc.region rfl ?_
    refine Wl.pure (PR.moveI rfl) ?_
    refine Wl.pure (PR.assI rfl) ?_
    refine Wl.pure (PR.assI rfl) ?_
    refine Wl.pure (PR.assI rfl) ?_
    refine Wl.pure (PR.assI rfl) ?_
    refine Wl.nil ?_
    refine tn ?_
    refine Wc.ret ?_
    refine tr ?_
    refine postL.many (rvs := [.tmp 4, .tmp 5, .tmp 6, .tmp 7]) rfl (.tmp (v := .int .u64 (0)) rfl (.tmp (v := .int .u64 (0)) rfl (.tmp (v := .int .u64 (0)) rfl (.tmp (v := .int .i64 (((codeP 2 (fun z_ => [(p), (r)].getD z_ 0) (fun z_ => [c, d].getD z_ (fun _ => 0)) 4 : Nat) : Int))) rfl .nil)))) ?_
    refine RetV.of ?_ st.below
    exact ch_f (chC_b (by omega)) (by omega) rfl
  · refine Wc.skip ?_
    refine tn ?_
    refine Wc.seq ?_
    have h16 := fun (j : Nat) (hj : j < 64) => cp4_spec (p := p) (c := c) (r := r) (d := d) (by omega) hj
    refine Wc.tree (γ := Nat) (w0 := w) (X := []) (Ks := [b2, b3]) (S := fun i => i == 1 || i == 3 || i == 6 || i == 7 || i == 8) (fun g => [(2, .pointer (some ⟨b2, 0, none⟩)), (3, .pointer (some ⟨b3, 0, none⟩)), (4, .int .u64 (0)), (5, .int .u64 (0)), (6, .int .u64 (0)), (7, .int .i64 (0)), (9, .int .u64 (((pic (fun r => decide (3 ≤ ((pc (c r) : Nat) : Int))) : Nat) : Int))), (10, .int .u64 (((pic (fun r => decide (3 ≤ ((pc (d r) : Nat) : Int))) : Nat) : Int))), (11, .int .u64 (((pic (fun r => decide (4 ≤ ((pc ((orC (fun z_ => [c, d].getD z_ (fun _ => 0)) 2) r) : Nat) : Int))) : Nat) : Int)))]) (fun g w_ => St [] w w_ [(g, layS 2 (fun z_ => [(p), (r)].getD z_ 0) (fun z_ => [c, d].getD z_ (fun _ => 0)), 30), (b17, layS 2 (fun z_ => [(p), (r)].getD z_ 0) (fun z_ => [c, d].getD z_ (fun _ => 0)), 30), (b3, layV (r) (d), 30), (b2, layV (p) (c), 30)]) (.st 0 3 (.st 2 3 (.st 4 3 (.st 5 3 (.alt 6 (.st 1 2 (.st 3 2 (.st 7 2 (.st 8 2 (.st 9 0 (.st 10 0 (.st 11 0 PT.nil))))))) (.st 1 2 (.alt 6 (.st 3 2 (.st 7 2 (.st 8 2 (.st 9 0 (.st 10 0 (.st 11 0 PT.nil)))))) (.st 3 2 (.st 6 2 (.st 7 2 (.st 8 2 (.st 9 0 (.st 10 0 (.st 11 0 PT.nil)))))))))))))) hmix (by kernel_rfl) (by kernel_rfl) rfl rfl ?_ ?_
    · intro w6 hbel
      replace st := st.call hbel
      clear hbel
      refine WT.loadA (j := 2) rfl (by simp) st tA_30 rfl rfl (all_sub layV_len) layV_len ?_
      refine WT.loadA (j := 1) rfl (by simp) st tA_30 rfl rfl (all_sub layV_len) layV_len ?_
      refine WT.loadA (j := 2) rfl (by simp) st tA_30 rfl rfl (all_sub layV_len) layV_len ?_
      refine WT.loadA (j := 1) rfl (by simp) st tA_30 rfl rfl (all_sub layV_len) layV_len ?_
      refine WT.alt ?_ ?_
      · have st0 := st
        refine WT.s rfl rfl ?_
        refine Wl.buildSlice (ps := [(0, .agg (layV (p) (c)).toArray), (1, .agg (layV (r) (d)).toArray)]) (cs := layS 2 (fun z_ => [(p), (r)].getD z_ 0) (fun z_ => [c, d].getD z_ (fun _ => 0))) st tS_99 tZ_30 rfl rfl (lit_lays2 _ _ _ _ _) ?_
        clear st
        intro b28 w7 st
        refine Wl.nil ⟨rfl, RK.of st0 st (ksC (i := 2) (j := 3) rfl rfl rfl (ksC (i := 1) (j := 2) rfl rfl rfl ksN)), ?_⟩
        clear st0
        have st0 := st
        refine WT.s rfl rfl ?_
        refine Wl.callV (c_impl_Layer_shown (p := p) (c := c) (t := 3) hc) rfl ?_
        intro w8 hbel
        replace st := st.call hbel
        clear hbel
        refine Wl.nil ⟨rfl, RK.of st0 st (ksC (i := 3) (j := 3) rfl rfl rfl (ksC (i := 2) (j := 2) rfl rfl rfl ksN)), ?_⟩
        clear st0
        have st0 := st
        refine WT.s rfl rfl ?_
        refine Wl.callV (c_impl_Layer_shown (p := r) (c := d) (t := 3) hd) rfl ?_
        intro w9 hbel
        replace st := st.call hbel
        clear hbel
        refine Wl.nil ⟨rfl, RK.of st0 st (ksC (i := 3) (j := 3) rfl rfl rfl (ksC (i := 2) (j := 2) rfl rfl rfl ksN)), ?_⟩
        clear st0
        have st0 := st
        refine WT.s rfl rfl ?_
        refine Wl.callV (c_impl_stack (A := some ⟨b28, 0, none⟩) (n := 2) (cp := 2) (p := (fun z_ => [(p), (r)].getD z_ 0)) (c := (fun z_ => [c, d].getD z_ (fun _ => 0))) ((st.rdA (i := 0) (n := (2 * 65)) rfl (all_sub (recV_len (s := 65) (layS_row _ _) _))).sl) (lit_p2 hp hr) (lit_lt2 hc hd) (by first | assumption | omega) (by first | assumption | omega)) rfl ?_
        intro w10 hbel
        replace st := st.call hbel
        clear hbel
        refine Wl.nil ⟨rfl, RK.of st0 st (ksC (i := 3) (j := 3) rfl rfl rfl (ksC (i := 2) (j := 2) rfl rfl rfl ksN)), ?_⟩
        clear st0
        have st0 := st
        refine WT.s rfl rfl ?_
        refine Wl.callV (c_impl_Layer_shown (p := (fun z_ => [(p), (r)].getD z_ 0) 0) (c := (orC (fun z_ => [c, d].getD z_ (fun _ => 0)) 2)) (t := 4) (orC_lt (lit_lt2 hc hd) 2)) rfl ?_
        intro w11 hbel
        replace st := st.call hbel
        clear hbel
        refine Wl.nil ⟨rfl, RK.of st0 st (ksC (i := 3) (j := 3) rfl rfl rfl (ksC (i := 2) (j := 2) rfl rfl rfl ksN)), ?_⟩
        clear st0
        refine WT.pure rfl (PR.assI rfl) ?_
        refine WT.pure rfl (PR.assI rfl) ?_
        refine WT.pure rfl (PR.assI rfl) ?_
        exact WT.nil ⟨b28, (.cons rfl (.cons rfl (.cons rfl (.cons rfl (.cons rfl (.cons rfl (.cons rfl (.cons rfl (.cons rfl (.nil _)))))))))), st⟩
      · have st0 := st
        refine WT.s rfl rfl ?_
        refine Wl.callV (c_impl_Layer_shown (p := p) (c := c) (t := 3) hc) rfl ?_
        intro w12 hbel
        replace st := st.call hbel
        clear hbel
        refine Wl.nil ⟨rfl, RK.of st0 st (ksC (i := 2) (j := 2) rfl rfl rfl (ksC (i := 1) (j := 1) rfl rfl rfl ksN)), ?_⟩
        clear st0
        refine WT.alt ?_ ?_
        · have st0 := st
          refine WT.s rfl rfl ?_
          refine Wl.buildSlice (ps := [(0, .agg (layV (p) (c)).toArray), (1, .agg (layV (r) (d)).toArray)]) (cs := layS 2 (fun z_ => [(p), (r)].getD z_ 0) (fun z_ => [c, d].getD z_ (fun _ => 0))) st tS_99 tZ_30 rfl rfl (lit_lays2 _ _ _ _ _) ?_
          clear st
          intro b28 w13 st
          refine Wl.nil ⟨rfl, RK.of st0 st (ksC (i := 2) (j := 3) rfl rfl rfl (ksC (i := 1) (j := 2) rfl rfl rfl ksN)), ?_⟩
          clear st0
          have st0 := st
          refine WT.s rfl rfl ?_
          refine Wl.callV (c_impl_Layer_shown (p := r) (c := d) (t := 3) hd) rfl ?_
          intro w14 hbel
          replace st := st.call hbel
          clear hbel
          refine Wl.nil ⟨rfl, RK.of st0 st (ksC (i := 3) (j := 3) rfl rfl rfl (ksC (i := 2) (j := 2) rfl rfl rfl ksN)), ?_⟩
          clear st0
          have st0 := st
          refine WT.s rfl rfl ?_
          refine Wl.callV (c_impl_stack (A := some ⟨b28, 0, none⟩) (n := 2) (cp := 2) (p := (fun z_ => [(p), (r)].getD z_ 0)) (c := (fun z_ => [c, d].getD z_ (fun _ => 0))) ((st.rdA (i := 0) (n := (2 * 65)) rfl (all_sub (recV_len (s := 65) (layS_row _ _) _))).sl) (lit_p2 hp hr) (lit_lt2 hc hd) (by first | assumption | omega) (by first | assumption | omega)) rfl ?_
          intro w15 hbel
          replace st := st.call hbel
          clear hbel
          refine Wl.nil ⟨rfl, RK.of st0 st (ksC (i := 3) (j := 3) rfl rfl rfl (ksC (i := 2) (j := 2) rfl rfl rfl ksN)), ?_⟩
          clear st0
          have st0 := st
          refine WT.s rfl rfl ?_
          refine Wl.callV (c_impl_Layer_shown (p := (fun z_ => [(p), (r)].getD z_ 0) 0) (c := (orC (fun z_ => [c, d].getD z_ (fun _ => 0)) 2)) (t := 4) (orC_lt (lit_lt2 hc hd) 2)) rfl ?_
          intro w16 hbel
          replace st := st.call hbel
          clear hbel
          refine Wl.nil ⟨rfl, RK.of st0 st (ksC (i := 3) (j := 3) rfl rfl rfl (ksC (i := 2) (j := 2) rfl rfl rfl ksN)), ?_⟩
          clear st0
          refine WT.pure rfl (PR.assI rfl) ?_
          refine WT.pure rfl (PR.assI rfl) ?_
          refine WT.pure rfl (PR.assI rfl) ?_
          exact WT.nil ⟨b28, (.cons rfl (.cons rfl (.cons rfl (.cons rfl (.cons rfl (.cons rfl (.cons rfl (.cons rfl (.cons rfl (.nil _)))))))))), st⟩
        · have st0 := st
          refine WT.s rfl rfl ?_
          refine Wl.callV (c_impl_Layer_shown (p := r) (c := d) (t := 3) hd) rfl ?_
          intro w17 hbel
          replace st := st.call hbel
          clear hbel
          refine Wl.nil ⟨rfl, RK.of st0 st (ksC (i := 2) (j := 2) rfl rfl rfl (ksC (i := 1) (j := 1) rfl rfl rfl ksN)), ?_⟩
          clear st0
          have st0 := st
          refine WT.s rfl rfl ?_
          refine Wl.buildSlice (ps := [(0, .agg (layV (p) (c)).toArray), (1, .agg (layV (r) (d)).toArray)]) (cs := layS 2 (fun z_ => [(p), (r)].getD z_ 0) (fun z_ => [c, d].getD z_ (fun _ => 0))) st tS_99 tZ_30 rfl rfl (lit_lays2 _ _ _ _ _) ?_
          clear st
          intro b28 w18 st
          refine Wl.nil ⟨rfl, RK.of st0 st (ksC (i := 2) (j := 3) rfl rfl rfl (ksC (i := 1) (j := 2) rfl rfl rfl ksN)), ?_⟩
          clear st0
          have st0 := st
          refine WT.s rfl rfl ?_
          refine Wl.callV (c_impl_stack (A := some ⟨b28, 0, none⟩) (n := 2) (cp := 2) (p := (fun z_ => [(p), (r)].getD z_ 0)) (c := (fun z_ => [c, d].getD z_ (fun _ => 0))) ((st.rdA (i := 0) (n := (2 * 65)) rfl (all_sub (recV_len (s := 65) (layS_row _ _) _))).sl) (lit_p2 hp hr) (lit_lt2 hc hd) (by first | assumption | omega) (by first | assumption | omega)) rfl ?_
          intro w19 hbel
          replace st := st.call hbel
          clear hbel
          refine Wl.nil ⟨rfl, RK.of st0 st (ksC (i := 3) (j := 3) rfl rfl rfl (ksC (i := 2) (j := 2) rfl rfl rfl ksN)), ?_⟩
          clear st0
          have st0 := st
          refine WT.s rfl rfl ?_
          refine Wl.callV (c_impl_Layer_shown (p := (fun z_ => [(p), (r)].getD z_ 0) 0) (c := (orC (fun z_ => [c, d].getD z_ (fun _ => 0)) 2)) (t := 4) (orC_lt (lit_lt2 hc hd) 2)) rfl ?_
          intro w20 hbel
          replace st := st.call hbel
          clear hbel
          refine Wl.nil ⟨rfl, RK.of st0 st (ksC (i := 3) (j := 3) rfl rfl rfl (ksC (i := 2) (j := 2) rfl rfl rfl ksN)), ?_⟩
          clear st0
          refine WT.pure rfl (PR.assI rfl) ?_
          refine WT.pure rfl (PR.assI rfl) ?_
          refine WT.pure rfl (PR.assI rfl) ?_
          exact WT.nil ⟨b28, (.cons rfl (.cons rfl (.cons rfl (.cons rfl (.cons rfl (.cons rfl (.cons rfl (.cons rfl (.cons rfl (.nil _)))))))))), st⟩
    clear st
    rintro b28 w21 st
    try dsimp only at st ⊢
    refine tn ?_
    refine Wc.seq ?_
    refine Wc.seq ?_
    refine Wc.region rfl ?_
    refine Wl.pure (PR.moveI rfl) ?_
    refine Wl.nil ?_
    refine tn ?_
    refine Wc.block ?_
    refine Wc.loopF (γ := Nat) (fun g => [(2, .pointer (some ⟨b2, 0, none⟩)), (3, .pointer (some ⟨b3, 0, none⟩)), (9, .int .u64 (((pic (fun r => decide (3 ≤ ((pc (c r) : Nat) : Int))) : Nat) : Int))), (10, .int .u64 (((pic (fun r => decide (3 ≤ ((pc (d r) : Nat) : Int))) : Nat) : Int))), (11, .int .u64 (((pic (fun r => decide (4 ≤ ((pc ((orC (fun z_ => [c, d].getD z_ (fun _ => 0)) 2) r) : Nat) : Int))) : Nat) : Int))), (31, .int .i64 (((g : Nat) : Int)))]) (fun g w_ => St [] w w_ [(b28, layS 2 (fun z_ => [(p), (r)].getD z_ 0) (fun z_ => [c, d].getD z_ (fun _ => 0)), 30), (b17, layS 2 (fun z_ => [(p), (r)].getD z_ 0) (fun z_ => [c, d].getD z_ (fun _ => 0)), 30), (b3, layV (r) (d), 30), (b2, layV (p) (c), 30)] ∧ (g ≤ 64) ∧ (∀ j, j < g → okC (c j) (d j) = true)) (fun g => 64 - g) ?_ ?_
    · exact ⟨0, (.cons rfl (.cons rfl (.cons rfl (.cons rfl (.cons rfl (.cons rfl (.nil _))))))), st, (by first | omega | (dsimp only; omega)), (fun j hj => by omega)⟩
    clear st
    rintro k w22 ⟨st, hk, hg⟩
    try dsimp only at st hk hg ⊢
    refine Wc.seq ?_
    refine Wc.region rfl ?_
    refine Wl.pure (PR.lss (a := ((k : Nat) : Int)) (b := 64) rfl rfl) ?_
    refine Wl.nil ?_
    refine tn ?_
    refine Wc.seq ?_
    refine Wc.condD (p := ((k : Nat) : Int) < 64) rfl (fun h23 => ?_) (fun h23 => ?_)
    · refine Wc.skip ?_
      refine tn ?_
      refine Wc.seq ?_
      refine Wc.block ?_
      refine Wc.seq ?_
      refine Wc.region rfl ?_
      refine Wl.pure (PR.moveI rfl) ?_
      refine Wl.pure (PR.assI rfl) ?_
      refine Wl.nil ?_
      refine tn ?_
      refine Wc.seq ?_
      refine Wc.region rfl ?_
      refine Wl.pure (PR.moveI rfl) ?_
      refine Wl.pure (PR.moveI rfl) ?_
      refine Wl.callV (c_bit_impl (x := pic (fun r => decide (3 ≤ ((pc (c r) : Nat) : Int)))) (k := k) (picF_lt _ 64) (by first | assumption | omega)) rfl ?_
      intro w24 hbel
      replace st := st.call hbel
      clear hbel
      refine Wl.pure (PR.moveI rfl) ?_
      refine Wl.pure (PR.moveI rfl) ?_
      refine Wl.callV (c_bit_impl (x := pic (fun r => decide (3 ≤ ((pc (d r) : Nat) : Int)))) (k := k) (picF_lt _ 64) (by first | assumption | omega)) rfl ?_
      intro w25 hbel
      replace st := st.call hbel
      clear hbel
      refine Wl.pure (PR.moveI rfl) ?_
      refine Wl.pure (PR.moveI rfl) ?_
      refine Wl.callV (c_bit_impl (x := pic (fun r => decide (4 ≤ ((pc ((orC (fun z_ => [c, d].getD z_ (fun _ => 0)) 2) r) : Nat) : Int)))) (k := k) (picF_lt _ 64) (by first | assumption | omega)) rfl ?_
      intro w26 hbel
      replace st := st.call hbel
      clear hbel
      refine Wl.callV (c_impl_coverCell (a := (bitB (pic (fun r => decide (3 ≤ ((pc (c r) : Nat) : Int)))) k)) (b := (bitB (pic (fun r => decide (3 ≤ ((pc (d r) : Nat) : Int)))) k)) (z := (bitB (pic (fun r => decide (4 ≤ ((pc ((orC (fun z_ => [c, d].getD z_ (fun _ => 0)) 2) r) : Nat) : Int)))) k))) rfl ?_
      intro w27 hbel
      replace st := st.call hbel
      clear hbel
      refine Wl.pure (PR.moveV (.tuple #[.int .u8 (((cvA (bitB (pic (fun r => decide (3 ≤ ((pc (c r) : Nat) : Int)))) k) (bitB (pic (fun r => decide (3 ≤ ((pc (d r) : Nat) : Int)))) k) (bitB (pic (fun r => decide (4 ≤ ((pc ((orC (fun z_ => [c, d].getD z_ (fun _ => 0)) 2) r) : Nat) : Int)))) k) : Nat) : Int)), .int .u8 (((cvB (bitB (pic (fun r => decide (3 ≤ ((pc (c r) : Nat) : Int)))) k) (bitB (pic (fun r => decide (3 ≤ ((pc (d r) : Nat) : Int)))) k) (bitB (pic (fun r => decide (4 ≤ ((pc ((orC (fun z_ => [c, d].getD z_ (fun _ => 0)) 2) r) : Nat) : Int)))) k) : Nat) : Int))]) rfl) ?_
      refine Wl.pure (PR.extr (i := 0) (vs := [.int .u8 (((cvA (bitB (pic (fun r => decide (3 ≤ ((pc (c r) : Nat) : Int)))) k) (bitB (pic (fun r => decide (3 ≤ ((pc (d r) : Nat) : Int)))) k) (bitB (pic (fun r => decide (4 ≤ ((pc ((orC (fun z_ => [c, d].getD z_ (fun _ => 0)) 2) r) : Nat) : Int)))) k) : Nat) : Int)), .int .u8 (((cvB (bitB (pic (fun r => decide (3 ≤ ((pc (c r) : Nat) : Int)))) k) (bitB (pic (fun r => decide (3 ≤ ((pc (d r) : Nat) : Int)))) k) (bitB (pic (fun r => decide (4 ≤ ((pc ((orC (fun z_ => [c, d].getD z_ (fun _ => 0)) 2) r) : Nat) : Int)))) k) : Nat) : Int))]) rfl rfl) ?_
      refine Wl.pure (PR.extr (i := 1) (vs := [.int .u8 (((cvA (bitB (pic (fun r => decide (3 ≤ ((pc (c r) : Nat) : Int)))) k) (bitB (pic (fun r => decide (3 ≤ ((pc (d r) : Nat) : Int)))) k) (bitB (pic (fun r => decide (4 ≤ ((pc ((orC (fun z_ => [c, d].getD z_ (fun _ => 0)) 2) r) : Nat) : Int)))) k) : Nat) : Int)), .int .u8 (((cvB (bitB (pic (fun r => decide (3 ≤ ((pc (c r) : Nat) : Int)))) k) (bitB (pic (fun r => decide (3 ≤ ((pc (d r) : Nat) : Int)))) k) (bitB (pic (fun r => decide (4 ≤ ((pc ((orC (fun z_ => [c, d].getD z_ (fun _ => 0)) 2) r) : Nat) : Int)))) k) : Nat) : Int))]) rfl rfl) ?_
      refine Wl.pure (PR.assI rfl) ?_
      refine Wl.pure (PR.assI rfl) ?_
      refine Wl.nil ?_
      refine tn ?_
      refine Wc.seq ?_
      refine Wc.quiet hmix (by kernel_rfl) rfl ?_
      refine Wq.pure (PR.moveI rfl) ?_
      refine Wq.pure (PR.moveI rfl) ?_
      refine Wq.pure (PR.moveI rfl) ?_
      refine Wq.pure (PR.fieldAddr tF_30_1 rfl) ?_
      refine Wq.pure (PR.idxAddrA1 (i := k) tE_23 rfl rfl (by omega)) ?_
      refine Wq.load (i := 3) st tA_5 rfl rfl (layV_get_c (by omega)) ?_
      refine Wq.pure (PR.moveI rfl) ?_
      refine Wq.pure (PR.fieldAddr tF_30_1 rfl) ?_
      refine Wq.pure (PR.idxAddrA1 (i := k) tE_23 rfl rfl (by omega)) ?_
      refine Wq.load (i := 2) st tA_5 rfl rfl (layV_get_c (by omega)) ?_
      refine Wq.callV (fun _ hbel => c_impl_alikeCells (x := cvA (bitB (pic (fun r => decide (3 ≤ ((pc (c r) : Nat) : Int)))) k) (bitB (pic (fun r => decide (3 ≤ ((pc (d r) : Nat) : Int)))) k) (bitB (pic (fun r => decide (4 ≤ ((pc ((orC (fun z_ => [c, d].getD z_ (fun _ => 0)) 2) r) : Nat) : Int)))) k)) (y := cvB (bitB (pic (fun r => decide (3 ≤ ((pc (c r) : Nat) : Int)))) k) (bitB (pic (fun r => decide (3 ≤ ((pc (d r) : Nat) : Int)))) k) (bitB (pic (fun r => decide (4 ≤ ((pc ((orC (fun z_ => [c, d].getD z_ (fun _ => 0)) 2) r) : Nat) : Int)))) k)) (u := c (k)) (v := d (k)) (cvA_lt _ _ _) (cvB_lt _ _ _) (hc (k)) (hd (k))) rfl ?_
      refine Wq.pure (PR.not_ rfl) ?_
      refine Wq.nil (fun w28 hbel => ?_)
      replace st := st.call hbel
      clear hbel
      refine tn ?_
      refine Wc.condNB (b := alk (cvA (bitB (pic (fun r => decide (3 ≤ ((pc (c r) : Nat) : Int)))) k) (bitB (pic (fun r => decide (3 ≤ ((pc (d r) : Nat) : Int)))) k) (bitB (pic (fun r => decide (4 ≤ ((pc ((orC (fun z_ => [c, d].getD z_ (fun _ => 0)) 2) r) : Nat) : Int)))) k)) (cvB (bitB (pic (fun r => decide (3 ≤ ((pc (c r) : Nat) : Int)))) k) (bitB (pic (fun r => decide (3 ≤ ((pc (d r) : Nat) : Int)))) k) (bitB (pic (fun r => decide (4 ≤ ((pc ((orC (fun z_ => [c, d].getD z_ (fun _ => 0)) 2) r) : Nat) : Int)))) k)) (c (k)) (d (k))) rfl (fun h29 => ?_) (fun h29 => ?_)
      · refine Wc.seq ?_
        refine Wc.region rfl ?_
        refine Wl.pure (PR.assI rfl) ?_
        refine Wl.pure (PR.assI rfl) ?_
        refine Wl.pure (PR.assI rfl) ?_
        refine Wl.pure (PR.assI rfl) ?_
        refine Wl.nil ?_
        refine tn ?_
        refine Wc.ret ?_
        refine br ?_
        refine tr ?_
        refine tr ?_
        refine br ?_
        refine tr ?_
        refine postL.many (rvs := [.tmp 4, .tmp 5, .tmp 6, .tmp 7]) rfl (.tmp (v := .int .u64 (0)) rfl (.tmp (v := .int .u64 (0)) rfl (.tmp (v := .int .u64 (0)) rfl (.tmp (v := .int .i64 (8)) rfl .nil)))) ?_
        refine RetV.of ?_ st.below
        exact ch_f (chC_8 (k := k) (by omega) (by omega) (ck_f (by omega) (h16 k (by omega)) (by unfold ckQ; assumption))) (by decide) rfl
      · refine Wc.skip ?_
        refine bn ?_
        refine tn ?_
        refine Wc.region rfl ?_
        refine Wl.pure (PR.add (a := ((k : Nat) : Int)) (b := 1) rfl rfl (by simp only [fitI]; omega)) ?_
        refine Wl.pure (PR.moveI rfl) ?_
        refine Wl.nil ?_
        refine tn ?_
        exact ⟨k + 1, (.cons rfl (.cons rfl (.cons rfl (.cons rfl (.cons rfl (.cons rfl (.nil _))))))), ⟨st, (by first | omega | (dsimp only; omega)), (all_snoc hg (ck_t (by omega) (h16 k (by omega)) (by unfold ckQ; assumption)))⟩, (by first | omega | (dsimp only; omega))⟩
    · refine Wc.exit ?_
      refine tx ?_
      refine tx ?_
      refine bh ?_
      refine tn ?_
      refine Wc.seq ?_
      refine Wc.region rfl ?_
      refine Wl.pure (PR.moveI rfl) ?_
      refine Wl.pure (PR.moveI rfl) ?_
      refine Wl.pure (PR.moveI rfl) ?_
      refine Wl.pure (PR.assI rfl) ?_
      refine Wl.pure (PR.assI rfl) ?_
      refine Wl.pure (PR.assI rfl) ?_
      refine Wl.pure (PR.assI rfl) ?_
      refine Wl.nil ?_
      refine tn ?_
      refine Wc.ret ?_
      refine postL.many (rvs := [.tmp 4, .tmp 5, .tmp 6, .tmp 7]) rfl (.tmp (v := .int .u64 (((pic (fun r => decide (3 ≤ ((pc (c r) : Nat) : Int))) : Nat) : Int))) rfl (.tmp (v := .int .u64 (((pic (fun r => decide (3 ≤ ((pc (d r) : Nat) : Int))) : Nat) : Int))) rfl (.tmp (v := .int .u64 (((pic (fun r => decide (4 ≤ ((pc ((orC (fun z_ => [c, d].getD z_ (fun _ => 0)) 2) r) : Nat) : Int))) : Nat) : Int))) rfl (.tmp (v := .int .i64 (0)) rfl .nil)))) ?_
      refine RetV.of ?_ st.below
      exact ch_t (chC_0 (by omega) (fun j hj => hg j (by omega)))

set_option maxHeartbeats 400000 in
set_option maxRecDepth 4000 in
theorem c_spec_CheckCovers {p : Int} {c : Nat → Nat} {r : Int} {d : Nat → Nat} {w : World} (hp : -128 ≤ p ∧ p ≤ 127) (hc : ∀ k, c k < 256) (hr : -128 ≤ r ∧ r ≤ 127) (hd : ∀ k, d k < 256) :
    CE Try.prog 42 [.agg (layV (p) (c)).toArray, .agg (layV (r) (d)).toArray] w (RetV w (.tuple #[.int .u64 (((selN (chC (codeP 2 (fun i => [p, r].getD i 0) (fun i => [c, d].getD i (fun _ => 0)) 4) c d) (pic (fun r => decide (3 ≤ ((pc (c r) : Nat) : Int)))) : Nat) : Int)), .int .u64 (((selN (chC (codeP 2 (fun i => [p, r].getD i 0) (fun i => [c, d].getD i (fun _ => 0)) 4) c d) (pic (fun r => decide (3 ≤ ((pc (d r) : Nat) : Int)))) : Nat) : Int)), .int .u64 (((selN (chC (codeP 2 (fun i => [p, r].getD i 0) (fun i => [c, d].getD i (fun _ => 0)) 4) c d) (pic (fun r => decide (4 ≤ ((pc ((orC (fun i => [c, d].getD i (fun _ => 0)) 2) r) : Nat) : Int)))) : Nat) : Int)), .int .i64 ((((chC (codeP 2 (fun i => [p, r].getD i 0) (fun i => [c, d].getD i (fun _ => 0)) 4) c d) : Nat) : Int))])) := by
  refine CE.enter 64 [(0, .agg (layV (p) (c)).toArray), (1, .agg (layV (r) (d)).toArray)] en_42 Try.func42 rfl rfl (Nat.le_of_ble_eq_true rfl) rfl ?_
  have st := St.start w
  refine Wc.seq ?_
  refine Wc.region rfl ?_
  refine Wl.boxA st rfl ?_
  clear st
  intro b2 w1 st
  refine Wl.boxA st rfl ?_
  clear st
  intro b3 w2 st
  refine Wl.pure (PR.assI rfl) ?_
  refine Wl.pure (PR.assI rfl) ?_
  refine Wl.pure (PR.assI rfl) ?_
  refine Wl.pure (PR.assI rfl) ?_
  refine Wl.nil ?_
  refine tn ?_
  refine Wc.seq ?_
  refine Wc.seq ?_
  refine Wc.region rfl ?_
  refine Wl.loadA (i := 1) st tA_30 rfl rfl (all_sub layV_len) layV_len ?_
  refine Wl.loadA (i := 0) st tA_30 rfl rfl (all_sub layV_len) layV_len ?_
  refine Wl.buildSlice (ps := [(0, .agg (layV (p) (c)).toArray), (1, .agg (layV (r) (d)).toArray)]) (cs := layS 2 (fun z_ => [(p), (r)].getD z_ 0) (fun z_ => [c, d].getD z_ (fun _ => 0))) st tS_99 tZ_30 rfl rfl (lit_lays2 _ _ _ _ _) ?_
  clear st
  intro b15 w3 st
  refine Wl.callV (c_spec_l05With (A := some ⟨b15, 0, none⟩) (n := 2) (cp := 2) (p := (fun z_ => [(p), (r)].getD z_ 0)) (c := (fun z_ => [c, d].getD z_ (fun _ => 0))) (q := 4) ((st.rdA (i := 0) (n := (2 * 65)) rfl (all_sub (recV_len (s := 65) (layS_row _ _) _))).sl) (lit_p2 hp hr) (lit_lt2 hc hd) (by first | assumption | omega)) rfl ?_
  intro w4 hbel
  replace st := st.call hbel
  clear hbel
  refine Wl.pure (PR.assI rfl) ?_
  refine Wl.nil ?_
  refine tn ?_
  refine Wc.seq ?_
  refine Wc.region rfl ?_
  refine Wl.pure (PR.moveI rfl) ?_
  refine Wl.pure (PR.neq (a := ((codeP 2 (fun z_ => [(p), (r)].getD z_ 0) (fun z_ => [c, d].getD z_ (fun _ => 0)) 4 : Nat) : Int)) (b := 0) rfl rfl) ?_
  refine Wl.nil ?_
  refine tn ?_
  refine Wc.condN (p := ((codeP 2 (fun z_ => [(p), (r)].getD z_ 0) (fun z_ => [c, d].getD z_ (fun _ => 0)) 4 : Nat) : Int) = 0) rfl (fun h5 => ?_) (fun h5 => ?_)
  · refine Wc.seq ?_
    refine Wc.region rfl ?_
    refine Wl.pure (PR.moveI rfl) ?_
    refine Wl.pure (PR.assI rfl) ?_
    refine Wl.pure (PR.assI rfl) ?_
    refine Wl.pure (PR.assI rfl) ?_
    refine Wl.pure (PR.assI rfl) ?_
    refine Wl.nil ?_
    refine tn ?_
    refine Wc.ret ?_
    refine tr ?_
    refine postL.many (rvs := [.tmp 4, .tmp 5, .tmp 6, .tmp 7]) rfl (.tmp (v := .int .u64 (0)) rfl (.tmp (v := .int .u64 (0)) rfl (.tmp (v := .int .u64 (0)) rfl (.tmp (v := .int .i64 (((codeP 2 (fun z_ => [(p), (r)].getD z_ 0) (fun z_ => [c, d].getD z_ (fun _ => 0)) 4 : Nat) : Int))) rfl .nil)))) ?_
    refine RetV.of ?_ st.below
    exact ch_f (chC_b (by omega)) (by omega) rfl
  · refine Wc.skip ?_
    refine tn ?_
    refine Wc.seq ?_
    refine Wc.seq ?_
    refine Wc.region rfl ?_
    refine Wl.pure (PR.assI rfl) ?_
    refine Wl.nil ?_
    refine tn ?_
    refine Wc.block ?_
    refine Wc.loopF (γ := Nat) (fun g => [(2, .pointer (some ⟨b2, 0, none⟩)), (3, .pointer (some ⟨b3, 0, none⟩)), (9, .int .i64 (((g : Nat) : Int)))]) (fun g w_ => St [] w w_ [(b15, layS 2 (fun z_ => [(p), (r)].getD z_ 0) (fun z_ => [c, d].getD z_ (fun _ => 0)), 30), (b3, layV (r) (d), 30), (b2, layV (p) (c), 30)] ∧ (g ≤ 64) ∧ (∀ j, j < g → okC (c j) (d j) = true)) (fun g => 64 - g) ?_ ?_
    · exact ⟨0, (.cons rfl (.cons rfl (.cons rfl (.nil _)))), st, (by first | omega | (dsimp only; omega)), (fun j hj => by omega)⟩
    clear st
    rintro k w6 ⟨st, hk, hg⟩
    try dsimp only at st hk hg ⊢
    refine Wc.seq ?_
    refine Wc.seq ?_
    refine Wc.region rfl ?_
    refine Wl.pure (PR.moveI rfl) ?_
    refine Wl.pure (PR.lss (a := ((k : Nat) : Int)) (b := 64) rfl rfl) ?_
    refine Wl.nil ?_
    refine tn ?_
    refine Wc.condD (p := ((k : Nat) : Int) < 64) rfl (fun h7 => ?_) (fun h7 => ?_)
    · refine Wc.skip ?_
      refine tn ?_
      refine Wc.seq ?_
      refine Wc.block ?_
      refine Wc.seq ?_
      refine Wc.region rfl ?_
      refine Wl.pure (PR.moveI rfl) ?_
      refine Wl.pure (PR.fieldAddr tF_30_1 rfl) ?_
      refine Wl.pure (PR.idxAddrA1 (i := k) tE_23 rfl rfl (by omega)) ?_
      refine Wl.load (i := 2) st tA_5 rfl rfl (layV_get_c (by omega)) ?_
      refine Wl.pure (PR.conv (n := ((c (k) : Nat) : Int)) tI_26 rfl (fitN (hc (k)) rfl) Try.underlying5) ?_
      refine Wl.callV (c_spec_l01Count (x := c (k)) (Nat.lt_of_lt_of_le (hc (k)) (by decide))) rfl ?_
      intro w8 hbel
      replace st := st.call hbel
      clear hbel
      refine Wl.pure (PR.assI rfl) ?_
      refine Wl.nil ?_
      refine tn ?_
      refine Wc.seq ?_
      refine Wc.region rfl ?_
      refine Wl.pure (PR.moveI rfl) ?_
      refine Wl.pure (PR.fieldAddr tF_30_1 rfl) ?_
      refine Wl.pure (PR.idxAddrA1 (i := k) tE_23 rfl rfl (by omega)) ?_
      refine Wl.load (i := 1) st tA_5 rfl rfl (layV_get_c (by omega)) ?_
      refine Wl.pure (PR.conv (n := ((d (k) : Nat) : Int)) tI_26 rfl (fitN (hd (k)) rfl) Try.underlying5) ?_
      refine Wl.callV (c_spec_l01Count (x := d (k)) (Nat.lt_of_lt_of_le (hd (k)) (by decide))) rfl ?_
      intro w9 hbel
      replace st := st.call hbel
      clear hbel
      refine Wl.pure (PR.assI rfl) ?_
      refine Wl.nil ?_
      refine tn ?_
      refine Wc.seq ?_
      refine Wc.quiet hmix (by kernel_rfl) rfl ?_
      refine Wq.pure (PR.moveI rfl) ?_
      refine Wq.pure (PR.fieldAddr tF_30_1 rfl) ?_
      refine Wq.pure (PR.idxAddrA1 (i := k) tE_23 rfl rfl (by omega)) ?_
      refine Wq.load (i := 2) st tA_5 rfl rfl (layV_get_c (by omega)) ?_
      refine Wq.pure (PR.moveI rfl) ?_
      refine Wq.pure (PR.fieldAddr tF_30_1 rfl) ?_
      refine Wq.pure (PR.idxAddrA1 (i := k) tE_23 rfl rfl (by omega)) ?_
      refine Wq.load (i := 1) st tA_5 rfl rfl (layV_get_c (by omega)) ?_
      refine Wq.pure (PR.or (a := c (k)) (b := d (k)) rfl rfl (by decide) (hc (k)) (hd (k))) ?_
      refine Wq.pure (PR.conv (n := ((((c (k)) ||| (d (k))) : Nat) : Int)) tI_26 rfl (fitN (or_lt_u8 (hc (k)) (hd (k))) rfl) Try.underlying5) ?_
      refine Wq.callV (fun _ hbel => c_spec_l01Count (x := ((c (k)) ||| (d (k)))) (Nat.lt_of_lt_of_le (or_lt_u8 (hc (k)) (hd (k))) (by decide))) rfl ?_
      refine Wq.pure (PR.assI rfl) ?_
      refine Wq.nil (fun w10 hbel => ?_)
      replace st := st.call hbel
      clear hbel
      refine tn ?_
      refine Wc.seq ?_
      refine Wc.region rfl ?_
      refine Wl.pure (PR.moveI rfl) ?_
      refine Wl.callV (c_spec_l00In (n := ((pc (c (k)) : Nat) : Int)) (lo := 2) (hi := 3)) rfl ?_
      intro w11 hbel
      replace st := st.call hbel
      clear hbel
      refine Wl.pure (PR.not_ rfl) ?_
      refine Wl.pure (PR.moveB rfl) ?_
      refine Wl.splitB (b := (!decide (2 ≤ ((pc (c (k)) : Nat) : Int) ∧ ((pc (c (k)) : Nat) : Int) ≤ 3))) rfl rfl (fun h12 => ?_) (fun h12 => ?_)
      · simp only [Bool.not_eq_true', Bool.not_eq_false', Bool.not_true, Bool.not_false, decide_eq_true_eq, decide_eq_false_iff_not] at h12
        refine Wl.pure (PR.moveI rfl) ?_
        refine Wl.on rfl rfl ?_
        refine Wl.callV (c_spec_l00In (n := ((pc (d (k)) : Nat) : Int)) (lo := 2) (hi := 3)) rfl ?_
        intro w13 hbel
        replace st := st.call hbel
        clear hbel
        refine Wl.on rfl rfl ?_
        refine Wl.pure (PR.not_ rfl) ?_
        refine Wl.pure (PR.pickFB rfl rfl) ?_
        refine Wl.pure (PR.moveB rfl) ?_
        refine Wl.splitB (b := (!decide (2 ≤ ((pc (d (k)) : Nat) : Int) ∧ ((pc (d (k)) : Nat) : Int) ≤ 3))) rfl rfl (fun h14 => ?_) (fun h14 => ?_)
        · simp only [Bool.not_eq_true', Bool.not_eq_false', Bool.not_true, Bool.not_false, decide_eq_true_eq, decide_eq_false_iff_not] at h14
          refine Wl.pure (PR.moveI rfl) ?_
          refine Wl.on rfl rfl ?_
          refine Wl.pure (PR.lss (a := ((pc ((c (k)) ||| (d (k))) : Nat) : Int)) (b := 3) rfl rfl) ?_
          refine Wl.pure (PR.pickFB rfl rfl) ?_
          refine Wl.nil ?_
          refine tn ?_
          refine Wc.condD (p := ((pc ((c (k)) ||| (d (k))) : Nat) : Int) < 3) rfl (fun h15 => ?_) (fun h15 => ?_)
          · refine Wc.seq ?_
            refine Wc.region rfl ?_
            refine Wl.pure (PR.assI rfl) ?_
            refine Wl.pure (PR.assI rfl) ?_
            refine Wl.pure (PR.assI rfl) ?_
            refine Wl.pure (PR.assI rfl) ?_
            refine Wl.nil ?_
            refine tn ?_
            refine Wc.ret ?_
            refine br ?_
            refine tr ?_
            refine tr ?_
            refine br ?_
            refine tr ?_
            refine postL.many (rvs := [.tmp 4, .tmp 5, .tmp 6, .tmp 7]) rfl (.tmp (v := .int .u64 (0)) rfl (.tmp (v := .int .u64 (0)) rfl (.tmp (v := .int .u64 (0)) rfl (.tmp (v := .int .i64 (8)) rfl .nil)))) ?_
            refine RetV.of ?_ st.below
            exact ch_f (chC_8 (k := k) (by omega) (by omega) (okC_f (by omega))) (by decide) rfl
          · refine Wc.skip ?_
            refine bn ?_
            refine tn ?_
            refine Wc.region rfl ?_
            refine Wl.pure (PR.moveI rfl) ?_
            refine Wl.pure (PR.add (a := ((k : Nat) : Int)) (b := 1) rfl rfl (by simp only [fitI]; omega)) ?_
            refine Wl.pure (PR.assI rfl) ?_
            refine Wl.nil ?_
            refine tn ?_
            exact ⟨k + 1, (.cons rfl (.cons rfl (.cons rfl (.nil _)))), ⟨st, (by first | omega | (dsimp only; omega)), (all_snoc hg (okC_t (by omega) (by omega) (by omega)))⟩, (by first | omega | (dsimp only; omega))⟩
        · simp only [Bool.not_eq_true', Bool.not_eq_false', Bool.not_true, Bool.not_false, decide_eq_true_eq, decide_eq_false_iff_not] at h14
          refine Wl.off rfl rfl rfl ?_
          refine Wl.pure (PR.pickTB rfl rfl) ?_
          refine Wl.nil ?_
          refine tn ?_
          refine Wc.condT rfl ?_
          refine Wc.seq ?_
          refine Wc.region rfl ?_
          refine Wl.pure (PR.assI rfl) ?_
          refine Wl.pure (PR.assI rfl) ?_
          refine Wl.pure (PR.assI rfl) ?_
          refine Wl.pure (PR.assI rfl) ?_
          refine Wl.nil ?_
          refine tn ?_
          refine Wc.ret ?_
          refine br ?_
          refine tr ?_
          refine tr ?_
          refine br ?_
          refine tr ?_
          refine postL.many (rvs := [.tmp 4, .tmp 5, .tmp 6, .tmp 7]) rfl (.tmp (v := .int .u64 (0)) rfl (.tmp (v := .int .u64 (0)) rfl (.tmp (v := .int .u64 (0)) rfl (.tmp (v := .int .i64 (8)) rfl .nil)))) ?_
          refine RetV.of ?_ st.below
          exact ch_f (chC_8 (k := k) (by omega) (by omega) (okC_f (by omega))) (by decide) rfl
      · simp only [Bool.not_eq_true', Bool.not_eq_false', Bool.not_true, Bool.not_false, decide_eq_true_eq, decide_eq_false_iff_not] at h12
        refine Wl.off rfl rfl rfl ?_
        refine Wl.off rfl rfl rfl ?_
        refine Wl.pure (PR.pickTB rfl rfl) ?_
        refine Wl.pure (PR.moveB rfl) ?_
        refine Wl.off rfl rfl rfl ?_
        refine Wl.off rfl rfl rfl ?_
        refine Wl.pure (PR.pickTB rfl rfl) ?_
        refine Wl.nil ?_
        refine tn ?_
        refine Wc.condT rfl ?_
        refine Wc.seq ?_
        refine Wc.region rfl ?_
        refine Wl.pure (PR.assI rfl) ?_
        refine Wl.pure (PR.assI rfl) ?_
        refine Wl.pure (PR.assI rfl) ?_
        refine Wl.pure (PR.assI rfl) ?_
        refine Wl.nil ?_
        refine tn ?_
        refine Wc.ret ?_
        refine br ?_
        refine tr ?_
        refine tr ?_
        refine br ?_
        refine tr ?_
        refine postL.many (rvs := [.tmp 4, .tmp 5, .tmp 6, .tmp 7]) rfl (.tmp (v := .int .u64 (0)) rfl (.tmp (v := .int .u64 (0)) rfl (.tmp (v := .int .u64 (0)) rfl (.tmp (v := .int .i64 (8)) rfl .nil)))) ?_
        refine RetV.of ?_ st.below
        exact ch_f (chC_8 (k := k) (by omega) (by omega) (okC_f (by omega))) (by decide) rfl
    · refine Wc.exit ?_
      refine tx ?_
      refine tx ?_
      refine bh ?_
      refine tn ?_
      refine Wc.seq ?_
      refine Wc.quiet hmix (by kernel_rfl) rfl ?_
      refine Wq.callV (fun _ hbel => c_spec_l01Shown (b := b2) (o := 0) (p := p) (c := c) (t := 3) ((st.rdA (i := 2) rfl (all_sub layV_len)).below hbel) hc) rfl ?_
      refine Wq.callV (fun _ hbel => c_spec_l01Shown (b := b3) (o := 0) (p := r) (c := d) (t := 3) ((st.rdA (i := 1) rfl (all_sub layV_len)).below hbel) hd) rfl ?_
      refine Wq.loadA (i := 2) st tA_30 rfl rfl (all_sub layV_len) layV_len ?_
      refine Wq.loadA (i := 1) st tA_30 rfl rfl (all_sub layV_len) layV_len ?_
      refine Wq.callV (fun _ hbel => c_spec_l05Stacked (p := p) (c := c) (r := r) (d := d) (t := 4) (by first | assumption | omega) hc (by first | assumption | omega) hd) rfl ?_
      refine Wq.pure (PR.assI rfl) ?_
      refine Wq.pure (PR.assI rfl) ?_
      refine Wq.pure (PR.assI rfl) ?_
      refine Wq.pure (PR.assI rfl) ?_
      refine Wq.nil (fun w16 hbel => ?_)
      replace st := st.call hbel
      clear hbel
      refine tn ?_
      refine Wc.ret ?_
      refine postL.many (rvs := [.tmp 4, .tmp 5, .tmp 6, .tmp 7]) rfl (.tmp (v := .int .u64 (((pic (fun r => decide (3 ≤ ((pc (c r) : Nat) : Int))) : Nat) : Int))) rfl (.tmp (v := .int .u64 (((pic (fun r => decide (3 ≤ ((pc (d r) : Nat) : Int))) : Nat) : Int))) rfl (.tmp (v := .int .u64 (((pic (fun r => decide (4 ≤ ((pc ((orC (fun i => [c, d].getD i (fun _ => 0)) 2) r) : Nat) : Int))) : Nat) : Int))) rfl (.tmp (v := .int .i64 (0)) rfl .nil)))) ?_
      refine RetV.of ?_ st.below
      exact ch_t (chC_0 (by omega) (fun j hj => hg j (by omega)))

set_option maxHeartbeats 400000 in
set_option maxRecDepth 4000 in
theorem c_laws_FnExactCheckCovers {p : Int} {c : Nat → Nat} {r : Int} {d : Nat → Nat} {w : World} (hp : -128 ≤ p ∧ p ≤ 127) (hc : ∀ k, c k < 256) (hr : -128 ≤ r ∧ r ≤ 127) (hd : ∀ k, d k < 256) :
    CE Try.prog 12 [.agg (layV (p) (c)).toArray, .agg (layV (r) (d)).toArray] w (RetV w (.bool true)) := by
  refine CE.enter 51 [(0, .agg (layV (p) (c)).toArray), (1, .agg (layV (r) (d)).toArray)] en_12 Try.func12 rfl rfl (Nat.le_of_ble_eq_true rfl) rfl ?_
  have st := St.start w
  refine Wc.seq ?_
  refine Wc.region rfl ?_
  refine Wl.boxA st rfl ?_
  clear st
  intro b2 w1 st
  refine Wl.boxA st rfl ?_
  clear st
  intro b3 w2 st
  refine Wl.pure (PR.assB rfl) ?_
  refine Wl.nil ?_
  refine tn ?_
  refine Wc.seq ?_
  refine Wc.quiet hmix (by kernel_rfl) rfl ?_
  refine Wq.loadA (i := 1) st tA_25 rfl rfl (all_sub layV_len) layV_len ?_
  refine Wq.callV (fun _ hbel => c_laws_toLayer (p := p) (c := c) hc) rfl ?_
  refine Wq.loadA (i := 0) st tA_25 rfl rfl (all_sub layV_len) layV_len ?_
  refine Wq.callV (fun _ hbel => c_laws_toLayer (p := r) (c := d) hd) rfl ?_
  refine Wq.callV (fun _ hbel => c_spec_CheckCovers (p := p) (c := c) (r := r) (d := d) (by first | assumption | omega) (by assumption) (by first | assumption | omega) (by assumption)) rfl ?_
  refine Wq.pure (PR.moveV (.tuple #[.int .u64 (((selN (chC (codeP 2 (fun i => [p, r].getD i 0) (fun i => [c, d].getD i (fun _ => 0)) 4) c d) (pic (fun r => decide (3 ≤ ((pc (c r) : Nat) : Int)))) : Nat) : Int)), .int .u64 (((selN (chC (codeP 2 (fun i => [p, r].getD i 0) (fun i => [c, d].getD i (fun _ => 0)) 4) c d) (pic (fun r => decide (3 ≤ ((pc (d r) : Nat) : Int)))) : Nat) : Int)), .int .u64 (((selN (chC (codeP 2 (fun i => [p, r].getD i 0) (fun i => [c, d].getD i (fun _ => 0)) 4) c d) (pic (fun r => decide (4 ≤ ((pc ((orC (fun i => [c, d].getD i (fun _ => 0)) 2) r) : Nat) : Int)))) : Nat) : Int)), .int .i64 ((((chC (codeP 2 (fun i => [p, r].getD i 0) (fun i => [c, d].getD i (fun _ => 0)) 4) c d) : Nat) : Int))]) rfl) ?_
  refine Wq.pure (PR.extr (i := 0) (vs := [.int .u64 (((selN (chC (codeP 2 (fun i => [p, r].getD i 0) (fun i => [c, d].getD i (fun _ => 0)) 4) c d) (pic (fun r => decide (3 ≤ ((pc (c r) : Nat) : Int)))) : Nat) : Int)), .int .u64 (((selN (chC (codeP 2 (fun i => [p, r].getD i 0) (fun i => [c, d].getD i (fun _ => 0)) 4) c d) (pic (fun r => decide (3 ≤ ((pc (d r) : Nat) : Int)))) : Nat) : Int)), .int .u64 (((selN (chC (codeP 2 (fun i => [p, r].getD i 0) (fun i => [c, d].getD i (fun _ => 0)) 4) c d) (pic (fun r => decide (4 ≤ ((pc ((orC (fun i => [c, d].getD i (fun _ => 0)) 2) r) : Nat) : Int)))) : Nat) : Int)), .int .i64 ((((chC (codeP 2 (fun i => [p, r].getD i 0) (fun i => [c, d].getD i (fun _ => 0)) 4) c d) : Nat) : Int))]) rfl rfl) ?_
  refine Wq.pure (PR.extr (i := 1) (vs := [.int .u64 (((selN (chC (codeP 2 (fun i => [p, r].getD i 0) (fun i => [c, d].getD i (fun _ => 0)) 4) c d) (pic (fun r => decide (3 ≤ ((pc (c r) : Nat) : Int)))) : Nat) : Int)), .int .u64 (((selN (chC (codeP 2 (fun i => [p, r].getD i 0) (fun i => [c, d].getD i (fun _ => 0)) 4) c d) (pic (fun r => decide (3 ≤ ((pc (d r) : Nat) : Int)))) : Nat) : Int)), .int .u64 (((selN (chC (codeP 2 (fun i => [p, r].getD i 0) (fun i => [c, d].getD i (fun _ => 0)) 4) c d) (pic (fun r => decide (4 ≤ ((pc ((orC (fun i => [c, d].getD i (fun _ => 0)) 2) r) : Nat) : Int)))) : Nat) : Int)), .int .i64 ((((chC (codeP 2 (fun i => [p, r].getD i 0) (fun i => [c, d].getD i (fun _ => 0)) 4) c d) : Nat) : Int))]) rfl rfl) ?_
  refine Wq.pure (PR.extr (i := 2) (vs := [.int .u64 (((selN (chC (codeP 2 (fun i => [p, r].getD i 0) (fun i => [c, d].getD i (fun _ => 0)) 4) c d) (pic (fun r => decide (3 ≤ ((pc (c r) : Nat) : Int)))) : Nat) : Int)), .int .u64 (((selN (chC (codeP 2 (fun i => [p, r].getD i 0) (fun i => [c, d].getD i (fun _ => 0)) 4) c d) (pic (fun r => decide (3 ≤ ((pc (d r) : Nat) : Int)))) : Nat) : Int)), .int .u64 (((selN (chC (codeP 2 (fun i => [p, r].getD i 0) (fun i => [c, d].getD i (fun _ => 0)) 4) c d) (pic (fun r => decide (4 ≤ ((pc ((orC (fun i => [c, d].getD i (fun _ => 0)) 2) r) : Nat) : Int)))) : Nat) : Int)), .int .i64 ((((chC (codeP 2 (fun i => [p, r].getD i 0) (fun i => [c, d].getD i (fun _ => 0)) 4) c d) : Nat) : Int))]) rfl rfl) ?_
  refine Wq.pure (PR.extr (i := 3) (vs := [.int .u64 (((selN (chC (codeP 2 (fun i => [p, r].getD i 0) (fun i => [c, d].getD i (fun _ => 0)) 4) c d) (pic (fun r => decide (3 ≤ ((pc (c r) : Nat) : Int)))) : Nat) : Int)), .int .u64 (((selN (chC (codeP 2 (fun i => [p, r].getD i 0) (fun i => [c, d].getD i (fun _ => 0)) 4) c d) (pic (fun r => decide (3 ≤ ((pc (d r) : Nat) : Int)))) : Nat) : Int)), .int .u64 (((selN (chC (codeP 2 (fun i => [p, r].getD i 0) (fun i => [c, d].getD i (fun _ => 0)) 4) c d) (pic (fun r => decide (4 ≤ ((pc ((orC (fun i => [c, d].getD i (fun _ => 0)) 2) r) : Nat) : Int)))) : Nat) : Int)), .int .i64 ((((chC (codeP 2 (fun i => [p, r].getD i 0) (fun i => [c, d].getD i (fun _ => 0)) 4) c d) : Nat) : Int))]) rfl rfl) ?_
  refine Wq.pure (PR.assI rfl) ?_
  refine Wq.pure (PR.assI rfl) ?_
  refine Wq.pure (PR.assI rfl) ?_
  refine Wq.pure (PR.assI rfl) ?_
  refine Wq.nil (fun w3 hbel => ?_)
  replace st := st.call hbel
  clear hbel
  refine tn ?_
  refine Wc.seq ?_
  refine Wc.quiet hmix (by kernel_rfl) rfl ?_
  refine Wq.loadA (i := 1) st tA_25 rfl rfl (all_sub layV_len) layV_len ?_
  refine Wq.callV (fun _ hbel => c_laws_toLayer (p := p) (c := c) hc) rfl ?_
  refine Wq.loadA (i := 0) st tA_25 rfl rfl (all_sub layV_len) layV_len ?_
  refine Wq.callV (fun _ hbel => c_laws_toLayer (p := r) (c := d) hd) rfl ?_
  refine Wq.callV (fun _ hbel => c_impl_CheckCovers (p := p) (c := c) (r := r) (d := d) (by first | assumption | omega) (by assumption) (by first | assumption | omega) (by assumption)) rfl ?_
  refine Wq.pure (PR.moveV (.tuple #[.int .u64 (((selN (chC (codeP 2 (fun i => [p, r].getD i 0) (fun i => [c, d].getD i (fun _ => 0)) 4) c d) (pic (fun r => decide (3 ≤ ((pc (c r) : Nat) : Int)))) : Nat) : Int)), .int .u64 (((selN (chC (codeP 2 (fun i => [p, r].getD i 0) (fun i => [c, d].getD i (fun _ => 0)) 4) c d) (pic (fun r => decide (3 ≤ ((pc (d r) : Nat) : Int)))) : Nat) : Int)), .int .u64 (((selN (chC (codeP 2 (fun i => [p, r].getD i 0) (fun i => [c, d].getD i (fun _ => 0)) 4) c d) (pic (fun r => decide (4 ≤ ((pc ((orC (fun i => [c, d].getD i (fun _ => 0)) 2) r) : Nat) : Int)))) : Nat) : Int)), .int .i64 ((((chC (codeP 2 (fun i => [p, r].getD i 0) (fun i => [c, d].getD i (fun _ => 0)) 4) c d) : Nat) : Int))]) rfl) ?_
  refine Wq.pure (PR.extr (i := 0) (vs := [.int .u64 (((selN (chC (codeP 2 (fun i => [p, r].getD i 0) (fun i => [c, d].getD i (fun _ => 0)) 4) c d) (pic (fun r => decide (3 ≤ ((pc (c r) : Nat) : Int)))) : Nat) : Int)), .int .u64 (((selN (chC (codeP 2 (fun i => [p, r].getD i 0) (fun i => [c, d].getD i (fun _ => 0)) 4) c d) (pic (fun r => decide (3 ≤ ((pc (d r) : Nat) : Int)))) : Nat) : Int)), .int .u64 (((selN (chC (codeP 2 (fun i => [p, r].getD i 0) (fun i => [c, d].getD i (fun _ => 0)) 4) c d) (pic (fun r => decide (4 ≤ ((pc ((orC (fun i => [c, d].getD i (fun _ => 0)) 2) r) : Nat) : Int)))) : Nat) : Int)), .int .i64 ((((chC (codeP 2 (fun i => [p, r].getD i 0) (fun i => [c, d].getD i (fun _ => 0)) 4) c d) : Nat) : Int))]) rfl rfl) ?_
  refine Wq.pure (PR.extr (i := 1) (vs := [.int .u64 (((selN (chC (codeP 2 (fun i => [p, r].getD i 0) (fun i => [c, d].getD i (fun _ => 0)) 4) c d) (pic (fun r => decide (3 ≤ ((pc (c r) : Nat) : Int)))) : Nat) : Int)), .int .u64 (((selN (chC (codeP 2 (fun i => [p, r].getD i 0) (fun i => [c, d].getD i (fun _ => 0)) 4) c d) (pic (fun r => decide (3 ≤ ((pc (d r) : Nat) : Int)))) : Nat) : Int)), .int .u64 (((selN (chC (codeP 2 (fun i => [p, r].getD i 0) (fun i => [c, d].getD i (fun _ => 0)) 4) c d) (pic (fun r => decide (4 ≤ ((pc ((orC (fun i => [c, d].getD i (fun _ => 0)) 2) r) : Nat) : Int)))) : Nat) : Int)), .int .i64 ((((chC (codeP 2 (fun i => [p, r].getD i 0) (fun i => [c, d].getD i (fun _ => 0)) 4) c d) : Nat) : Int))]) rfl rfl) ?_
  refine Wq.pure (PR.extr (i := 2) (vs := [.int .u64 (((selN (chC (codeP 2 (fun i => [p, r].getD i 0) (fun i => [c, d].getD i (fun _ => 0)) 4) c d) (pic (fun r => decide (3 ≤ ((pc (c r) : Nat) : Int)))) : Nat) : Int)), .int .u64 (((selN (chC (codeP 2 (fun i => [p, r].getD i 0) (fun i => [c, d].getD i (fun _ => 0)) 4) c d) (pic (fun r => decide (3 ≤ ((pc (d r) : Nat) : Int)))) : Nat) : Int)), .int .u64 (((selN (chC (codeP 2 (fun i => [p, r].getD i 0) (fun i => [c, d].getD i (fun _ => 0)) 4) c d) (pic (fun r => decide (4 ≤ ((pc ((orC (fun i => [c, d].getD i (fun _ => 0)) 2) r) : Nat) : Int)))) : Nat) : Int)), .int .i64 ((((chC (codeP 2 (fun i => [p, r].getD i 0) (fun i => [c, d].getD i (fun _ => 0)) 4) c d) : Nat) : Int))]) rfl rfl) ?_
  refine Wq.pure (PR.extr (i := 3) (vs := [.int .u64 (((selN (chC (codeP 2 (fun i => [p, r].getD i 0) (fun i => [c, d].getD i (fun _ => 0)) 4) c d) (pic (fun r => decide (3 ≤ ((pc (c r) : Nat) : Int)))) : Nat) : Int)), .int .u64 (((selN (chC (codeP 2 (fun i => [p, r].getD i 0) (fun i => [c, d].getD i (fun _ => 0)) 4) c d) (pic (fun r => decide (3 ≤ ((pc (d r) : Nat) : Int)))) : Nat) : Int)), .int .u64 (((selN (chC (codeP 2 (fun i => [p, r].getD i 0) (fun i => [c, d].getD i (fun _ => 0)) 4) c d) (pic (fun r => decide (4 ≤ ((pc ((orC (fun i => [c, d].getD i (fun _ => 0)) 2) r) : Nat) : Int)))) : Nat) : Int)), .int .i64 ((((chC (codeP 2 (fun i => [p, r].getD i 0) (fun i => [c, d].getD i (fun _ => 0)) 4) c d) : Nat) : Int))]) rfl rfl) ?_
  refine Wq.pure (PR.assI rfl) ?_
  refine Wq.pure (PR.assI rfl) ?_
  refine Wq.pure (PR.assI rfl) ?_
  refine Wq.pure (PR.assI rfl) ?_
  refine Wq.nil (fun w4 hbel => ?_)
  replace st := st.call hbel
  clear hbel
  refine tn ?_
  refine Wc.seq ?_
  refine Wc.seq ?_
  refine Wc.region rfl ?_
  refine Wl.pure (PR.moveI rfl) ?_
  refine Wl.pure (PR.moveI rfl) ?_
  refine Wl.pure (PR.neqS (a := ((selN (chC (codeP 2 (fun i => [p, r].getD i 0) (fun i => [c, d].getD i (fun _ => 0)) 4) c d) (pic (fun r => decide (3 ≤ ((pc (c r) : Nat) : Int)))) : Nat) : Int)) rfl rfl) ?_
  refine Wl.pure (PR.moveB rfl) ?_
  refine Wl.on rfl rfl ?_
  refine Wl.pure (PR.moveI rfl) ?_
  refine Wl.on rfl rfl ?_
  refine Wl.pure (PR.moveI rfl) ?_
  refine Wl.on rfl rfl ?_
  refine Wl.pure (PR.neqS (a := ((selN (chC (codeP 2 (fun i => [p, r].getD i 0) (fun i => [c, d].getD i (fun _ => 0)) 4) c d) (pic (fun r => decide (3 ≤ ((pc (d r) : Nat) : Int)))) : Nat) : Int)) rfl rfl) ?_
  refine Wl.pure (PR.pickFB rfl rfl) ?_
  refine Wl.pure (PR.moveB rfl) ?_
  refine Wl.on rfl rfl ?_
  refine Wl.pure (PR.moveI rfl) ?_
  refine Wl.on rfl rfl ?_
  refine Wl.pure (PR.moveI rfl) ?_
  refine Wl.on rfl rfl ?_
  refine Wl.pure (PR.neqS (a := ((selN (chC (codeP 2 (fun i => [p, r].getD i 0) (fun i => [c, d].getD i (fun _ => 0)) 4) c d) (pic (fun r => decide (4 ≤ ((pc ((orC (fun i => [c, d].getD i (fun _ => 0)) 2) r) : Nat) : Int)))) : Nat) : Int)) rfl rfl) ?_
  refine Wl.pure (PR.pickFB rfl rfl) ?_
  refine Wl.pure (PR.moveB rfl) ?_
  refine Wl.on rfl rfl ?_
  refine Wl.pure (PR.moveI rfl) ?_
  refine Wl.on rfl rfl ?_
  refine Wl.pure (PR.moveI rfl) ?_
  refine Wl.on rfl rfl ?_
  refine Wl.pure (PR.neqS (a := (((chC (codeP 2 (fun i => [p, r].getD i 0) (fun i => [c, d].getD i (fun _ => 0)) 4) c d) : Nat) : Int)) rfl rfl) ?_
  refine Wl.pure (PR.pickFB rfl rfl) ?_
  refine Wl.nil ?_
  refine tn ?_
  refine Wc.condF rfl ?_
  refine Wc.skip ?_
  refine tn ?_
  refine Wc.seq ?_
  refine Wc.region rfl ?_
  refine Wl.pure (PR.assB rfl) ?_
  refine Wl.nil ?_
  refine tn ?_
  refine Wc.ret ?_
  refine postL.tmp rfl rfl ?_
  exact RetV.of rfl st.below

end Go.Proofs.Ytajkjhjnbfcpfaa
