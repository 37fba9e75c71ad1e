/-
  Contracts of functions, printed by a program of ours.
-/
import Derived.Test.YtajkjhjnbfcpfaaCV5
import Derived.Test.YtajkjhjnbfcpfaaMx
namespace Go.Proofs.Ytajkjhjnbfcpfaa
open Go.RowKit
set_option linter.unusedVariables false
set_option linter.unusedSimpArgs false

set_option maxHeartbeats 400000 in
set_option maxRecDepth 4000 in
theorem c_laws_FnExactShadesShown {p : Int} {c : Nat → Nat} {r : Int} {d : Nat → Nat} {w : World} (hp : -128 ≤ p ∧ p ≤ 127) (hc : ∀ k, c k < 256) (hr : -128 ≤ r ∧ r ≤ 127) (hd : ∀ k, d k < 256) :
    CE Try.prog 4 [.agg (layV (p) (c)).toArray, .agg (layV (r) (d)).toArray] w (RetV w (.bool true)) := by
  refine CE.enter 34 [(0, .agg (layV (p) (c)).toArray), (1, .agg (layV (r) (d)).toArray)] en_4 Try.func4 rfl rfl (Nat.le_of_ble_eq_true rfl) rfl ?_
  have st := St.start w
  refine Wc.seq ?_
  refine Wc.region rfl ?_
  refine Wl.boxA st rfl ?_
  clear st
  intro b2 w1 st
  refine Wl.boxA st rfl ?_
  clear st
  intro b3 w2 st
  refine Wl.pure (PR.assB rfl) ?_
  refine Wl.nil ?_
  refine tn ?_
  refine Wc.seq ?_
  refine Wc.tree (γ := Nat) (w0 := w) (X := []) (Ks := [b2, b3]) (S := fun i => i == 1 || i == 3 || i == 4 || i == 8 || i == 9) (fun g => [(2, .pointer (some ⟨b2, 0, none⟩)), (3, .pointer (some ⟨b3, 0, none⟩)), (4, .bool false), (5, .pointer (some ⟨g, 0, none⟩)), (6, .int .i64 ((((shdC (codeP 2 (fun i => [p, r].getD i 0) (fun i => [c, d].getD i (fun _ => 0)) 8) c d) : Nat) : Int)))]) (fun g w_ => St [] w w_ [(g, arrU .u8 64 (selF (shdC (codeP 2 (fun i => [p, r].getD i 0) (fun i => [c, d].getD i (fun _ => 0)) 8) c d) (fun k => pc (c k ||| d k) - 4)), 33), (b3, layV (r) (d), 25), (b2, layV (p) (c), 25)]) (.st 0 3 (.st 2 3 (.alt 8 (.st 1 2 (.st 3 2 (.st 4 2 (.st 5 0 (.st 6 0 (.st 7 0 (.st 9 2 (.st 10 0 PT.nil)))))))) (.st 1 2 (.alt 8 (.st 3 2 (.st 4 2 (.st 5 0 (.st 6 0 (.st 7 0 (.st 9 2 (.st 10 0 PT.nil))))))) (.st 3 2 (.alt 8 (.st 4 2 (.st 5 0 (.st 6 0 (.st 7 0 (.st 9 2 (.st 10 0 PT.nil)))))) (.st 4 2 (.st 5 0 (.st 6 0 (.st 7 0 (.st 8 2 (.st 9 2 (.st 10 0 PT.nil)))))))))))))) hmix (by kernel_rfl) (by kernel_rfl) rfl rfl ?_ ?_
  · intro w3 hbel
    replace st := st.call hbel
    clear hbel
    refine WT.loadA (j := 1) rfl (by simp) st tA_25 rfl rfl (all_sub layV_len) layV_len ?_
    refine WT.loadA (j := 0) rfl (by simp) st tA_25 rfl rfl (all_sub layV_len) layV_len ?_
    refine WT.alt ?_ ?_
    · have st0 := st
      refine WT.s rfl rfl ?_
      refine Wl.alloc st tZ_33 rfl ?_
      clear st
      intro b5 w4 st
      refine Wl.nil ⟨rfl, RK.of st0 st (ksC (i := 1) (j := 2) rfl rfl rfl (ksC (i := 0) (j := 1) rfl rfl rfl ksN)), ?_⟩
      clear st0
      have st0 := st
      refine WT.s rfl rfl ?_
      refine Wl.callV (c_laws_toLayer (p := p) (c := c) hc) rfl ?_
      intro w5 hbel
      replace st := st.call hbel
      clear hbel
      refine Wl.nil ⟨rfl, RK.of st0 st (ksC (i := 2) (j := 2) rfl rfl rfl (ksC (i := 1) (j := 1) rfl rfl rfl ksN)), ?_⟩
      clear st0
      have st0 := st
      refine WT.s rfl rfl ?_
      refine Wl.callV (c_laws_toLayer (p := r) (c := d) hd) rfl ?_
      intro w6 hbel
      replace st := st.call hbel
      clear hbel
      refine Wl.nil ⟨rfl, RK.of st0 st (ksC (i := 2) (j := 2) rfl rfl rfl (ksC (i := 1) (j := 1) rfl rfl rfl ksN)), ?_⟩
      clear st0
      have st0 := st
      refine WT.s rfl rfl ?_
      refine Wl.callV (c_spec_ShadesShown (p := p) (c := c) (r := r) (d := d) (by first | assumption | omega) (by assumption) (by first | assumption | omega) (by assumption)) rfl ?_
      intro w7 hbel
      replace st := st.call hbel
      clear hbel
      refine Wl.nil ⟨rfl, RK.of st0 st (ksC (i := 2) (j := 2) rfl rfl rfl (ksC (i := 1) (j := 1) rfl rfl rfl ksN)), ?_⟩
      clear st0
      refine WT.pure rfl (PR.moveV (.tuple #[.agg (arrU .u8 64 (selF (shdC (codeP 2 (fun i => [p, r].getD i 0) (fun i => [c, d].getD i (fun _ => 0)) 8) c d) (fun k => pc (c k ||| d k) - 4))).toArray, .int .i64 ((((shdC (codeP 2 (fun i => [p, r].getD i 0) (fun i => [c, d].getD i (fun _ => 0)) 8) c d) : Nat) : Int))]) rfl) ?_
      refine WT.pure rfl (PR.extr (i := 0) (vs := [.agg (arrU .u8 64 (selF (shdC (codeP 2 (fun i => [p, r].getD i 0) (fun i => [c, d].getD i (fun _ => 0)) 8) c d) (fun k => pc (c k ||| d k) - 4))).toArray, .int .i64 ((((shdC (codeP 2 (fun i => [p, r].getD i 0) (fun i => [c, d].getD i (fun _ => 0)) 8) c d) : Nat) : Int))]) rfl rfl) ?_
      refine WT.pure rfl (PR.extr (i := 1) (vs := [.agg (arrU .u8 64 (selF (shdC (codeP 2 (fun i => [p, r].getD i 0) (fun i => [c, d].getD i (fun _ => 0)) 8) c d) (fun k => pc (c k ||| d k) - 4))).toArray, .int .i64 ((((shdC (codeP 2 (fun i => [p, r].getD i 0) (fun i => [c, d].getD i (fun _ => 0)) 8) c d) : Nat) : Int))]) rfl rfl) ?_
      have st0 := st
      refine WT.s rfl rfl ?_
      refine Wl.storeA (i := 0) (cs' := arrU .u8 64 (selF (shdC (codeP 2 (fun i => [p, r].getD i 0) (fun i => [c, d].getD i (fun _ => 0)) 8) c d) (fun k => pc (c k ||| d k) - 4))) st tA_33 rfl rfl (arrU_len _) (arrU_one _) rfl (le_of_len (arrU_len _) (by omega)) (all_put (arrU_len _)) ?_
      clear st
      intro w8 st
      replace st : St [] w w8 [(b5, arrU .u8 64 (selF (shdC (codeP 2 (fun i => [p, r].getD i 0) (fun i => [c, d].getD i (fun _ => 0)) 8) c d) (fun k => pc (c k ||| d k) - 4)), 33), (b3, layV (r) (d), 25), (b2, layV (p) (c), 25)] := st
      refine Wl.nil ⟨rfl, RK.of st0 st (ksC (i := 2) (j := 2) rfl rfl rfl (ksC (i := 1) (j := 1) rfl rfl rfl ksN)), ?_⟩
      clear st0
      refine WT.pure rfl (PR.assI rfl) ?_
      exact WT.nil ⟨b5, (.cons rfl (.cons rfl (.cons rfl (.cons rfl (.cons rfl (.nil _)))))), st⟩
    · have st0 := st
      refine WT.s rfl rfl ?_
      refine Wl.callV (c_laws_toLayer (p := p) (c := c) hc) rfl ?_
      intro w9 hbel
      replace st := st.call hbel
      clear hbel
      refine Wl.nil ⟨rfl, RK.of st0 st (ksC (i := 1) (j := 1) rfl rfl rfl (ksC (i := 0) (j := 0) rfl rfl rfl ksN)), ?_⟩
      clear st0
      refine WT.alt ?_ ?_
      · have st0 := st
        refine WT.s rfl rfl ?_
        refine Wl.alloc st tZ_33 rfl ?_
        clear st
        intro b5 w10 st
        refine Wl.nil ⟨rfl, RK.of st0 st (ksC (i := 1) (j := 2) rfl rfl rfl (ksC (i := 0) (j := 1) rfl rfl rfl ksN)), ?_⟩
        clear st0
        have st0 := st
        refine WT.s rfl rfl ?_
        refine Wl.callV (c_laws_toLayer (p := r) (c := d) hd) rfl ?_
        intro w11 hbel
        replace st := st.call hbel
        clear hbel
        refine Wl.nil ⟨rfl, RK.of st0 st (ksC (i := 2) (j := 2) rfl rfl rfl (ksC (i := 1) (j := 1) rfl rfl rfl ksN)), ?_⟩
        clear st0
        have st0 := st
        refine WT.s rfl rfl ?_
        refine Wl.callV (c_spec_ShadesShown (p := p) (c := c) (r := r) (d := d) (by first | assumption | omega) (by assumption) (by first | assumption | omega) (by assumption)) rfl ?_
        intro w12 hbel
        replace st := st.call hbel
        clear hbel
        refine Wl.nil ⟨rfl, RK.of st0 st (ksC (i := 2) (j := 2) rfl rfl rfl (ksC (i := 1) (j := 1) rfl rfl rfl ksN)), ?_⟩
        clear st0
        refine WT.pure rfl (PR.moveV (.tuple #[.agg (arrU .u8 64 (selF (shdC (codeP 2 (fun i => [p, r].getD i 0) (fun i => [c, d].getD i (fun _ => 0)) 8) c d) (fun k => pc (c k ||| d k) - 4))).toArray, .int .i64 ((((shdC (codeP 2 (fun i => [p, r].getD i 0) (fun i => [c, d].getD i (fun _ => 0)) 8) c d) : Nat) : Int))]) rfl) ?_
        refine WT.pure rfl (PR.extr (i := 0) (vs := [.agg (arrU .u8 64 (selF (shdC (codeP 2 (fun i => [p, r].getD i 0) (fun i => [c, d].getD i (fun _ => 0)) 8) c d) (fun k => pc (c k ||| d k) - 4))).toArray, .int .i64 ((((shdC (codeP 2 (fun i => [p, r].getD i 0) (fun i => [c, d].getD i (fun _ => 0)) 8) c d) : Nat) : Int))]) rfl rfl) ?_
        refine WT.pure rfl (PR.extr (i := 1) (vs := [.agg (arrU .u8 64 (selF (shdC (codeP 2 (fun i => [p, r].getD i 0) (fun i => [c, d].getD i (fun _ => 0)) 8) c d) (fun k => pc (c k ||| d k) - 4))).toArray, .int .i64 ((((shdC (codeP 2 (fun i => [p, r].getD i 0) (fun i => [c, d].getD i (fun _ => 0)) 8) c d) : Nat) : Int))]) rfl rfl) ?_
        have st0 := st
        refine WT.s rfl rfl ?_
        refine Wl.storeA (i := 0) (cs' := arrU .u8 64 (selF (shdC (codeP 2 (fun i => [p, r].getD i 0) (fun i => [c, d].getD i (fun _ => 0)) 8) c d) (fun k => pc (c k ||| d k) - 4))) st tA_33 rfl rfl (arrU_len _) (arrU_one _) rfl (le_of_len (arrU_len _) (by omega)) (all_put (arrU_len _)) ?_
        clear st
        intro w13 st
        replace st : St [] w w13 [(b5, arrU .u8 64 (selF (shdC (codeP 2 (fun i => [p, r].getD i 0) (fun i => [c, d].getD i (fun _ => 0)) 8) c d) (fun k => pc (c k ||| d k) - 4)), 33), (b3, layV (r) (d), 25), (b2, layV (p) (c), 25)] := st
        refine Wl.nil ⟨rfl, RK.of st0 st (ksC (i := 2) (j := 2) rfl rfl rfl (ksC (i := 1) (j := 1) rfl rfl rfl ksN)), ?_⟩
        clear st0
        refine WT.pure rfl (PR.assI rfl) ?_
        exact WT.nil ⟨b5, (.cons rfl (.cons rfl (.cons rfl (.cons rfl (.cons rfl (.nil _)))))), st⟩
      · have st0 := st
        refine WT.s rfl rfl ?_
        refine Wl.callV (c_laws_toLayer (p := r) (c := d) hd) rfl ?_
        intro w14 hbel
        replace st := st.call hbel
        clear hbel
        refine Wl.nil ⟨rfl, RK.of st0 st (ksC (i := 1) (j := 1) rfl rfl rfl (ksC (i := 0) (j := 0) rfl rfl rfl ksN)), ?_⟩
        clear st0
        refine WT.alt ?_ ?_
        · have st0 := st
          refine WT.s rfl rfl ?_
          refine Wl.alloc st tZ_33 rfl ?_
          clear st
          intro b5 w15 st
          refine Wl.nil ⟨rfl, RK.of st0 st (ksC (i := 1) (j := 2) rfl rfl rfl (ksC (i := 0) (j := 1) rfl rfl rfl ksN)), ?_⟩
          clear st0
          have st0 := st
          refine WT.s rfl rfl ?_
          refine Wl.callV (c_spec_ShadesShown (p := p) (c := c) (r := r) (d := d) (by first | assumption | omega) (by assumption) (by first | assumption | omega) (by assumption)) rfl ?_
          intro w16 hbel
          replace st := st.call hbel
          clear hbel
          refine Wl.nil ⟨rfl, RK.of st0 st (ksC (i := 2) (j := 2) rfl rfl rfl (ksC (i := 1) (j := 1) rfl rfl rfl ksN)), ?_⟩
          clear st0
          refine WT.pure rfl (PR.moveV (.tuple #[.agg (arrU .u8 64 (selF (shdC (codeP 2 (fun i => [p, r].getD i 0) (fun i => [c, d].getD i (fun _ => 0)) 8) c d) (fun k => pc (c k ||| d k) - 4))).toArray, .int .i64 ((((shdC (codeP 2 (fun i => [p, r].getD i 0) (fun i => [c, d].getD i (fun _ => 0)) 8) c d) : Nat) : Int))]) rfl) ?_
          refine WT.pure rfl (PR.extr (i := 0) (vs := [.agg (arrU .u8 64 (selF (shdC (codeP 2 (fun i => [p, r].getD i 0) (fun i => [c, d].getD i (fun _ => 0)) 8) c d) (fun k => pc (c k ||| d k) - 4))).toArray, .int .i64 ((((shdC (codeP 2 (fun i => [p, r].getD i 0) (fun i => [c, d].getD i (fun _ => 0)) 8) c d) : Nat) : Int))]) rfl rfl) ?_
          refine WT.pure rfl (PR.extr (i := 1) (vs := [.agg (arrU .u8 64 (selF (shdC (codeP 2 (fun i => [p, r].getD i 0) (fun i => [c, d].getD i (fun _ => 0)) 8) c d) (fun k => pc (c k ||| d k) - 4))).toArray, .int .i64 ((((shdC (codeP 2 (fun i => [p, r].getD i 0) (fun i => [c, d].getD i (fun _ => 0)) 8) c d) : Nat) : Int))]) rfl rfl) ?_
          have st0 := st
          refine WT.s rfl rfl ?_
          refine Wl.storeA (i := 0) (cs' := arrU .u8 64 (selF (shdC (codeP 2 (fun i => [p, r].getD i 0) (fun i => [c, d].getD i (fun _ => 0)) 8) c d) (fun k => pc (c k ||| d k) - 4))) st tA_33 rfl rfl (arrU_len _) (arrU_one _) rfl (le_of_len (arrU_len _) (by omega)) (all_put (arrU_len _)) ?_
          clear st
          intro w17 st
          replace st : St [] w w17 [(b5, arrU .u8 64 (selF (shdC (codeP 2 (fun i => [p, r].getD i 0) (fun i => [c, d].getD i (fun _ => 0)) 8) c d) (fun k => pc (c k ||| d k) - 4)), 33), (b3, layV (r) (d), 25), (b2, layV (p) (c), 25)] := st
          refine Wl.nil ⟨rfl, RK.of st0 st (ksC (i := 2) (j := 2) rfl rfl rfl (ksC (i := 1) (j := 1) rfl rfl rfl ksN)), ?_⟩
          clear st0
          refine WT.pure rfl (PR.assI rfl) ?_
          exact WT.nil ⟨b5, (.cons rfl (.cons rfl (.cons rfl (.cons rfl (.cons rfl (.nil _)))))), st⟩
        · have st0 := st
          refine WT.s rfl rfl ?_
          refine Wl.callV (c_spec_ShadesShown (p := p) (c := c) (r := r) (d := d) (by first | assumption | omega) (by assumption) (by first | assumption | omega) (by assumption)) rfl ?_
          intro w18 hbel
          replace st := st.call hbel
          clear hbel
          refine Wl.nil ⟨rfl, RK.of st0 st (ksC (i := 1) (j := 1) rfl rfl rfl (ksC (i := 0) (j := 0) rfl rfl rfl ksN)), ?_⟩
          clear st0
          refine WT.pure rfl (PR.moveV (.tuple #[.agg (arrU .u8 64 (selF (shdC (codeP 2 (fun i => [p, r].getD i 0) (fun i => [c, d].getD i (fun _ => 0)) 8) c d) (fun k => pc (c k ||| d k) - 4))).toArray, .int .i64 ((((shdC (codeP 2 (fun i => [p, r].getD i 0) (fun i => [c, d].getD i (fun _ => 0)) 8) c d) : Nat) : Int))]) rfl) ?_
          refine WT.pure rfl (PR.extr (i := 0) (vs := [.agg (arrU .u8 64 (selF (shdC (codeP 2 (fun i => [p, r].getD i 0) (fun i => [c, d].getD i (fun _ => 0)) 8) c d) (fun k => pc (c k ||| d k) - 4))).toArray, .int .i64 ((((shdC (codeP 2 (fun i => [p, r].getD i 0) (fun i => [c, d].getD i (fun _ => 0)) 8) c d) : Nat) : Int))]) rfl rfl) ?_
          refine WT.pure rfl (PR.extr (i := 1) (vs := [.agg (arrU .u8 64 (selF (shdC (codeP 2 (fun i => [p, r].getD i 0) (fun i => [c, d].getD i (fun _ => 0)) 8) c d) (fun k => pc (c k ||| d k) - 4))).toArray, .int .i64 ((((shdC (codeP 2 (fun i => [p, r].getD i 0) (fun i => [c, d].getD i (fun _ => 0)) 8) c d) : Nat) : Int))]) rfl rfl) ?_
          have st0 := st
          refine WT.s rfl rfl ?_
          refine Wl.alloc st tZ_33 rfl ?_
          clear st
          intro b5 w19 st
          refine Wl.nil ⟨rfl, RK.of st0 st (ksC (i := 1) (j := 2) rfl rfl rfl (ksC (i := 0) (j := 1) rfl rfl rfl ksN)), ?_⟩
          clear st0
          have st0 := st
          refine WT.s rfl rfl ?_
          refine Wl.storeA (i := 0) (cs' := arrU .u8 64 (selF (shdC (codeP 2 (fun i => [p, r].getD i 0) (fun i => [c, d].getD i (fun _ => 0)) 8) c d) (fun k => pc (c k ||| d k) - 4))) st tA_33 rfl rfl (arrU_len _) (arrU_one _) rfl (le_of_len (arrU_len _) (by omega)) (all_put (arrU_len _)) ?_
          clear st
          intro w20 st
          replace st : St [] w w20 [(b5, arrU .u8 64 (selF (shdC (codeP 2 (fun i => [p, r].getD i 0) (fun i => [c, d].getD i (fun _ => 0)) 8) c d) (fun k => pc (c k ||| d k) - 4)), 33), (b3, layV (r) (d), 25), (b2, layV (p) (c), 25)] := st
          refine Wl.nil ⟨rfl, RK.of st0 st (ksC (i := 2) (j := 2) rfl rfl rfl (ksC (i := 1) (j := 1) rfl rfl rfl ksN)), ?_⟩
          clear st0
          refine WT.pure rfl (PR.assI rfl) ?_
          exact WT.nil ⟨b5, (.cons rfl (.cons rfl (.cons rfl (.cons rfl (.cons rfl (.nil _)))))), st⟩
  clear st
  rintro b5 w21 st
  try dsimp only at st ⊢
  refine tn ?_
  refine Wc.seq ?_
  refine Wc.tree (γ := Nat) (w0 := w) (X := []) (Ks := [b2, b3]) (S := fun i => i == 1 || i == 3 || i == 4 || i == 8 || i == 9) (fun g => [(4, .bool false), (5, .pointer (some ⟨b5, 0, none⟩)), (6, .int .i64 ((((shdC (codeP 2 (fun i => [p, r].getD i 0) (fun i => [c, d].getD i (fun _ => 0)) 8) c d) : Nat) : Int))), (7, .pointer (some ⟨g, 0, none⟩)), (8, .int .i64 ((((shdC (codeP 2 (fun i => [p, r].getD i 0) (fun i => [c, d].getD i (fun _ => 0)) 8) c d) : Nat) : Int)))]) (fun g w_ => St [] w w_ [(g, arrU .u8 64 (selF (shdC (codeP 2 (fun i => [p, r].getD i 0) (fun i => [c, d].getD i (fun _ => 0)) 8) c d) (fun k => pc (c k ||| d k) - 4)), 33), (b5, arrU .u8 64 (selF (shdC (codeP 2 (fun i => [p, r].getD i 0) (fun i => [c, d].getD i (fun _ => 0)) 8) c d) (fun k => pc (c k ||| d k) - 4)), 33), (b3, layV (r) (d), 25), (b2, layV (p) (c), 25)]) (.st 0 3 (.st 2 3 (.alt 8 (.st 1 2 (.st 3 2 (.st 4 2 (.st 5 0 (.st 6 0 (.st 7 0 (.st 9 2 (.st 10 0 PT.nil)))))))) (.st 1 2 (.alt 8 (.st 3 2 (.st 4 2 (.st 5 0 (.st 6 0 (.st 7 0 (.st 9 2 (.st 10 0 PT.nil))))))) (.st 3 2 (.alt 8 (.st 4 2 (.st 5 0 (.st 6 0 (.st 7 0 (.st 9 2 (.st 10 0 PT.nil)))))) (.st 4 2 (.st 5 0 (.st 6 0 (.st 7 0 (.st 8 2 (.st 9 2 (.st 10 0 PT.nil)))))))))))))) hmix (by kernel_rfl) (by kernel_rfl) rfl rfl ?_ ?_
  · intro w22 hbel
    replace st := st.call hbel
    clear hbel
    refine WT.loadA (j := 2) rfl (by simp) st tA_25 rfl rfl (all_sub layV_len) layV_len ?_
    refine WT.loadA (j := 1) rfl (by simp) st tA_25 rfl rfl (all_sub layV_len) layV_len ?_
    refine WT.alt ?_ ?_
    · have st0 := st
      refine WT.s rfl rfl ?_
      refine Wl.alloc st tZ_33 rfl ?_
      clear st
      intro b7 w23 st
      refine Wl.nil ⟨rfl, RK.of st0 st (ksC (i := 2) (j := 3) rfl rfl rfl (ksC (i := 1) (j := 2) rfl rfl rfl ksN)), ?_⟩
      clear st0
      have st0 := st
      refine WT.s rfl rfl ?_
      refine Wl.callV (c_laws_toLayer (p := p) (c := c) hc) rfl ?_
      intro w24 hbel
      replace st := st.call hbel
      clear hbel
      refine Wl.nil ⟨rfl, RK.of st0 st (ksC (i := 3) (j := 3) rfl rfl rfl (ksC (i := 2) (j := 2) rfl rfl rfl ksN)), ?_⟩
      clear st0
      have st0 := st
      refine WT.s rfl rfl ?_
      refine Wl.callV (c_laws_toLayer (p := r) (c := d) hd) rfl ?_
      intro w25 hbel
      replace st := st.call hbel
      clear hbel
      refine Wl.nil ⟨rfl, RK.of st0 st (ksC (i := 3) (j := 3) rfl rfl rfl (ksC (i := 2) (j := 2) rfl rfl rfl ksN)), ?_⟩
      clear st0
      have st0 := st
      refine WT.s rfl rfl ?_
      refine Wl.callV (c_impl_ShadesShown (p := p) (c := c) (r := r) (d := d) (by first | assumption | omega) (by assumption) (by first | assumption | omega) (by assumption)) rfl ?_
      intro w26 hbel
      replace st := st.call hbel
      clear hbel
      refine Wl.nil ⟨rfl, RK.of st0 st (ksC (i := 3) (j := 3) rfl rfl rfl (ksC (i := 2) (j := 2) rfl rfl rfl ksN)), ?_⟩
      clear st0
      refine WT.pure rfl (PR.moveV (.tuple #[.agg (arrU .u8 64 (selF (shdC (codeP 2 (fun i => [p, r].getD i 0) (fun i => [c, d].getD i (fun _ => 0)) 8) c d) (fun k => pc (c k ||| d k) - 4))).toArray, .int .i64 ((((shdC (codeP 2 (fun i => [p, r].getD i 0) (fun i => [c, d].getD i (fun _ => 0)) 8) c d) : Nat) : Int))]) rfl) ?_
      refine WT.pure rfl (PR.extr (i := 0) (vs := [.agg (arrU .u8 64 (selF (shdC (codeP 2 (fun i => [p, r].getD i 0) (fun i => [c, d].getD i (fun _ => 0)) 8) c d) (fun k => pc (c k ||| d k) - 4))).toArray, .int .i64 ((((shdC (codeP 2 (fun i => [p, r].getD i 0) (fun i => [c, d].getD i (fun _ => 0)) 8) c d) : Nat) : Int))]) rfl rfl) ?_
      refine WT.pure rfl (PR.extr (i := 1) (vs := [.agg (arrU .u8 64 (selF (shdC (codeP 2 (fun i => [p, r].getD i 0) (fun i => [c, d].getD i (fun _ => 0)) 8) c d) (fun k => pc (c k ||| d k) - 4))).toArray, .int .i64 ((((shdC (codeP 2 (fun i => [p, r].getD i 0) (fun i => [c, d].getD i (fun _ => 0)) 8) c d) : Nat) : Int))]) rfl rfl) ?_
      have st0 := st
      refine WT.s rfl rfl ?_
      refine Wl.storeA (i := 0) (cs' := arrU .u8 64 (selF (shdC (codeP 2 (fun i => [p, r].getD i 0) (fun i => [c, d].getD i (fun _ => 0)) 8) c d) (fun k => pc (c k ||| d k) - 4))) st tA_33 rfl rfl (arrU_len _) (arrU_one _) rfl (le_of_len (arrU_len _) (by omega)) (all_put (arrU_len _)) ?_
      clear st
      intro w27 st
      replace st : St [] w w27 [(b7, arrU .u8 64 (selF (shdC (codeP 2 (fun i => [p, r].getD i 0) (fun i => [c, d].getD i (fun _ => 0)) 8) c d) (fun k => pc (c k ||| d k) - 4)), 33), (b5, arrU .u8 64 (selF (shdC (codeP 2 (fun i => [p, r].getD i 0) (fun i => [c, d].getD i (fun _ => 0)) 8) c d) (fun k => pc (c k ||| d k) - 4)), 33), (b3, layV (r) (d), 25), (b2, layV (p) (c), 25)] := st
      refine Wl.nil ⟨rfl, RK.of st0 st (ksC (i := 3) (j := 3) rfl rfl rfl (ksC (i := 2) (j := 2) rfl rfl rfl ksN)), ?_⟩
      clear st0
      refine WT.pure rfl (PR.assI rfl) ?_
      exact WT.nil ⟨b7, (.cons rfl (.cons rfl (.cons rfl (.cons rfl (.cons rfl (.nil _)))))), st⟩
    · have st0 := st
      refine WT.s rfl rfl ?_
      refine Wl.callV (c_laws_toLayer (p := p) (c := c) hc) rfl ?_
      intro w28 hbel
      replace st := st.call hbel
      clear hbel
      refine Wl.nil ⟨rfl, RK.of st0 st (ksC (i := 2) (j := 2) rfl rfl rfl (ksC (i := 1) (j := 1) rfl rfl rfl ksN)), ?_⟩
      clear st0
      refine WT.alt ?_ ?_
      · have st0 := st
        refine WT.s rfl rfl ?_
        refine Wl.alloc st tZ_33 rfl ?_
        clear st
        intro b7 w29 st
        refine Wl.nil ⟨rfl, RK.of st0 st (ksC (i := 2) (j := 3) rfl rfl rfl (ksC (i := 1) (j := 2) rfl rfl rfl ksN)), ?_⟩
        clear st0
        have st0 := st
        refine WT.s rfl rfl ?_
        refine Wl.callV (c_laws_toLayer (p := r) (c := d) hd) rfl ?_
        intro w30 hbel
        replace st := st.call hbel
        clear hbel
        refine Wl.nil ⟨rfl, RK.of st0 st (ksC (i := 3) (j := 3) rfl rfl rfl (ksC (i := 2) (j := 2) rfl rfl rfl ksN)), ?_⟩
        clear st0
        have st0 := st
        refine WT.s rfl rfl ?_
        refine Wl.callV (c_impl_ShadesShown (p := p) (c := c) (r := r) (d := d) (by first | assumption | omega) (by assumption) (by first | assumption | omega) (by assumption)) rfl ?_
        intro w31 hbel
        replace st := st.call hbel
        clear hbel
        refine Wl.nil ⟨rfl, RK.of st0 st (ksC (i := 3) (j := 3) rfl rfl rfl (ksC (i := 2) (j := 2) rfl rfl rfl ksN)), ?_⟩
        clear st0
        refine WT.pure rfl (PR.moveV (.tuple #[.agg (arrU .u8 64 (selF (shdC (codeP 2 (fun i => [p, r].getD i 0) (fun i => [c, d].getD i (fun _ => 0)) 8) c d) (fun k => pc (c k ||| d k) - 4))).toArray, .int .i64 ((((shdC (codeP 2 (fun i => [p, r].getD i 0) (fun i => [c, d].getD i (fun _ => 0)) 8) c d) : Nat) : Int))]) rfl) ?_
        refine WT.pure rfl (PR.extr (i := 0) (vs := [.agg (arrU .u8 64 (selF (shdC (codeP 2 (fun i => [p, r].getD i 0) (fun i => [c, d].getD i (fun _ => 0)) 8) c d) (fun k => pc (c k ||| d k) - 4))).toArray, .int .i64 ((((shdC (codeP 2 (fun i => [p, r].getD i 0) (fun i => [c, d].getD i (fun _ => 0)) 8) c d) : Nat) : Int))]) rfl rfl) ?_
        refine WT.pure rfl (PR.extr (i := 1) (vs := [.agg (arrU .u8 64 (selF (shdC (codeP 2 (fun i => [p, r].getD i 0) (fun i => [c, d].getD i (fun _ => 0)) 8) c d) (fun k => pc (c k ||| d k) - 4))).toArray, .int .i64 ((((shdC (codeP 2 (fun i => [p, r].getD i 0) (fun i => [c, d].getD i (fun _ => 0)) 8) c d) : Nat) : Int))]) rfl rfl) ?_
        have st0 := st
        refine WT.s rfl rfl ?_
        refine Wl.storeA (i := 0) (cs' := arrU .u8 64 (selF (shdC (codeP 2 (fun i => [p, r].getD i 0) (fun i => [c, d].getD i (fun _ => 0)) 8) c d) (fun k => pc (c k ||| d k) - 4))) st tA_33 rfl rfl (arrU_len _) (arrU_one _) rfl (le_of_len (arrU_len _) (by omega)) (all_put (arrU_len _)) ?_
        clear st
        intro w32 st
        replace st : St [] w w32 [(b7, arrU .u8 64 (selF (shdC (codeP 2 (fun i => [p, r].getD i 0) (fun i => [c, d].getD i (fun _ => 0)) 8) c d) (fun k => pc (c k ||| d k) - 4)), 33), (b5, arrU .u8 64 (selF (shdC (codeP 2 (fun i => [p, r].getD i 0) (fun i => [c, d].getD i (fun _ => 0)) 8) c d) (fun k => pc (c k ||| d k) - 4)), 33), (b3, layV (r) (d), 25), (b2, layV (p) (c), 25)] := st
        refine Wl.nil ⟨rfl, RK.of st0 st (ksC (i := 3) (j := 3) rfl rfl rfl (ksC (i := 2) (j := 2) rfl rfl rfl ksN)), ?_⟩
        clear st0
        refine WT.pure rfl (PR.assI rfl) ?_
        exact WT.nil ⟨b7, (.cons rfl (.cons rfl (.cons rfl (.cons rfl (.cons rfl (.nil _)))))), st⟩
      · have st0 := st
        refine WT.s rfl rfl ?_
        refine Wl.callV (c_laws_toLayer (p := r) (c := d) hd) rfl ?_
        intro w33 hbel
        replace st := st.call hbel
        clear hbel
        refine Wl.nil ⟨rfl, RK.of st0 st (ksC (i := 2) (j := 2) rfl rfl rfl (ksC (i := 1) (j := 1) rfl rfl rfl ksN)), ?_⟩
        clear st0
        refine WT.alt ?_ ?_
        · have st0 := st
          refine WT.s rfl rfl ?_
          refine Wl.alloc st tZ_33 rfl ?_
          clear st
          intro b7 w34 st
          refine Wl.nil ⟨rfl, RK.of st0 st (ksC (i := 2) (j := 3) rfl rfl rfl (ksC (i := 1) (j := 2) rfl rfl rfl ksN)), ?_⟩
          clear st0
          have st0 := st
          refine WT.s rfl rfl ?_
          refine Wl.callV (c_impl_ShadesShown (p := p) (c := c) (r := r) (d := d) (by first | assumption | omega) (by assumption) (by first | assumption | omega) (by assumption)) rfl ?_
          intro w35 hbel
          replace st := st.call hbel
          clear hbel
          refine Wl.nil ⟨rfl, RK.of st0 st (ksC (i := 3) (j := 3) rfl rfl rfl (ksC (i := 2) (j := 2) rfl rfl rfl ksN)), ?_⟩
          clear st0
          refine WT.pure rfl (PR.moveV (.tuple #[.agg (arrU .u8 64 (selF (shdC (codeP 2 (fun i => [p, r].getD i 0) (fun i => [c, d].getD i (fun _ => 0)) 8) c d) (fun k => pc (c k ||| d k) - 4))).toArray, .int .i64 ((((shdC (codeP 2 (fun i => [p, r].getD i 0) (fun i => [c, d].getD i (fun _ => 0)) 8) c d) : Nat) : Int))]) rfl) ?_
          refine WT.pure rfl (PR.extr (i := 0) (vs := [.agg (arrU .u8 64 (selF (shdC (codeP 2 (fun i => [p, r].getD i 0) (fun i => [c, d].getD i (fun _ => 0)) 8) c d) (fun k => pc (c k ||| d k) - 4))).toArray, .int .i64 ((((shdC (codeP 2 (fun i => [p, r].getD i 0) (fun i => [c, d].getD i (fun _ => 0)) 8) c d) : Nat) : Int))]) rfl rfl) ?_
          refine WT.pure rfl (PR.extr (i := 1) (vs := [.agg (arrU .u8 64 (selF (shdC (codeP 2 (fun i => [p, r].getD i 0) (fun i => [c, d].getD i (fun _ => 0)) 8) c d) (fun k => pc (c k ||| d k) - 4))).toArray, .int .i64 ((((shdC (codeP 2 (fun i => [p, r].getD i 0) (fun i => [c, d].getD i (fun _ => 0)) 8) c d) : Nat) : Int))]) rfl rfl) ?_
          have st0 := st
          refine WT.s rfl rfl ?_
          refine Wl.storeA (i := 0) (cs' := arrU .u8 64 (selF (shdC (codeP 2 (fun i => [p, r].getD i 0) (fun i => [c, d].getD i (fun _ => 0)) 8) c d) (fun k => pc (c k ||| d k) - 4))) st tA_33 rfl rfl (arrU_len _) (arrU_one _) rfl (le_of_len (arrU_len _) (by omega)) (all_put (arrU_len _)) ?_
          clear st
          intro w36 st
          replace st : St [] w w36 [(b7, arrU .u8 64 (selF (shdC (codeP 2 (fun i => [p, r].getD i 0) (fun i => [c, d].getD i (fun _ => 0)) 8) c d) (fun k => pc (c k ||| d k) - 4)), 33), (b5, arrU .u8 64 (selF (shdC (codeP 2 (fun i => [p, r].getD i 0) (fun i => [c, d].getD i (fun _ => 0)) 8) c d) (fun k => pc (c k ||| d k) - 4)), 33), (b3, layV (r) (d), 25), (b2, layV (p) (c), 25)] := st
          refine Wl.nil ⟨rfl, RK.of st0 st (ksC (i := 3) (j := 3) rfl rfl rfl (ksC (i := 2) (j := 2) rfl rfl rfl ksN)), ?_⟩
          clear st0
          refine WT.pure rfl (PR.assI rfl) ?_
          exact WT.nil ⟨b7, (.cons rfl (.cons rfl (.cons rfl (.cons rfl (.cons rfl (.nil _)))))), st⟩
        · have st0 := st
          refine WT.s rfl rfl ?_
          refine Wl.callV (c_impl_ShadesShown (p := p) (c := c) (r := r) (d := d) (by first | assumption | omega) (by assumption) (by first | assumption | omega) (by assumption)) rfl ?_
          intro w37 hbel
          replace st := st.call hbel
          clear hbel
          refine Wl.nil ⟨rfl, RK.of st0 st (ksC (i := 2) (j := 2) rfl rfl rfl (ksC (i := 1) (j := 1) rfl rfl rfl ksN)), ?_⟩
          clear st0
          refine WT.pure rfl (PR.moveV (.tuple #[.agg (arrU .u8 64 (selF (shdC (codeP 2 (fun i => [p, r].getD i 0) (fun i => [c, d].getD i (fun _ => 0)) 8) c d) (fun k => pc (c k ||| d k) - 4))).toArray, .int .i64 ((((shdC (codeP 2 (fun i => [p, r].getD i 0) (fun i => [c, d].getD i (fun _ => 0)) 8) c d) : Nat) : Int))]) rfl) ?_
          refine WT.pure rfl (PR.extr (i := 0) (vs := [.agg (arrU .u8 64 (selF (shdC (codeP 2 (fun i => [p, r].getD i 0) (fun i => [c, d].getD i (fun _ => 0)) 8) c d) (fun k => pc (c k ||| d k) - 4))).toArray, .int .i64 ((((shdC (codeP 2 (fun i => [p, r].getD i 0) (fun i => [c, d].getD i (fun _ => 0)) 8) c d) : Nat) : Int))]) rfl rfl) ?_
          refine WT.pure rfl (PR.extr (i := 1) (vs := [.agg (arrU .u8 64 (selF (shdC (codeP 2 (fun i => [p, r].getD i 0) (fun i => [c, d].getD i (fun _ => 0)) 8) c d) (fun k => pc (c k ||| d k) - 4))).toArray, .int .i64 ((((shdC (codeP 2 (fun i => [p, r].getD i 0) (fun i => [c, d].getD i (fun _ => 0)) 8) c d) : Nat) : Int))]) rfl rfl) ?_
          have st0 := st
          refine WT.s rfl rfl ?_
          refine Wl.alloc st tZ_33 rfl ?_
          clear st
          intro b7 w38 st
          refine Wl.nil ⟨rfl, RK.of st0 st (ksC (i := 2) (j := 3) rfl rfl rfl (ksC (i := 1) (j := 2) rfl rfl rfl ksN)), ?_⟩
          clear st0
          have st0 := st
          refine WT.s rfl rfl ?_
          refine Wl.storeA (i := 0) (cs' := arrU .u8 64 (selF (shdC (codeP 2 (fun i => [p, r].getD i 0) (fun i => [c, d].getD i (fun _ => 0)) 8) c d) (fun k => pc (c k ||| d k) - 4))) st tA_33 rfl rfl (arrU_len _) (arrU_one _) rfl (le_of_len (arrU_len _) (by omega)) (all_put (arrU_len _)) ?_
          clear st
          intro w39 st
          replace st : St [] w w39 [(b7, arrU .u8 64 (selF (shdC (codeP 2 (fun i => [p, r].getD i 0) (fun i => [c, d].getD i (fun _ => 0)) 8) c d) (fun k => pc (c k ||| d k) - 4)), 33), (b5, arrU .u8 64 (selF (shdC (codeP 2 (fun i => [p, r].getD i 0) (fun i => [c, d].getD i (fun _ => 0)) 8) c d) (fun k => pc (c k ||| d k) - 4)), 33), (b3, layV (r) (d), 25), (b2, layV (p) (c), 25)] := st
          refine Wl.nil ⟨rfl, RK.of st0 st (ksC (i := 3) (j := 3) rfl rfl rfl (ksC (i := 2) (j := 2) rfl rfl rfl ksN)), ?_⟩
          clear st0
          refine WT.pure rfl (PR.assI rfl) ?_
          exact WT.nil ⟨b7, (.cons rfl (.cons rfl (.cons rfl (.cons rfl (.cons rfl (.nil _)))))), st⟩
  clear st
  rintro b7 w40 st
  try dsimp only at st ⊢
  refine tn ?_
  refine Wc.seq ?_
  refine Wc.seq ?_
  refine Wc.region rfl ?_
  refine Wl.loadA (i := 0) st tA_33 rfl rfl (all_sub (arrU_len _)) (arrU_len _) ?_
  refine Wl.loadA (i := 1) st tA_33 rfl rfl (all_sub (arrU_len _)) (arrU_len _) ?_
  refine Wl.callV (c_laws_eqShades (c := (selF (shdC (codeP 2 (fun i => [p, r].getD i 0) (fun i => [c, d].getD i (fun _ => 0)) 8) c d) (fun k => pc (c k ||| d k) - 4)))) rfl ?_
  intro w41 hbel
  replace st := st.call hbel
  clear hbel
  refine Wl.pure (PR.not_ rfl) ?_
  refine Wl.pure (PR.moveB rfl) ?_
  refine Wl.on rfl rfl ?_
  refine Wl.pure (PR.moveI rfl) ?_
  refine Wl.on rfl rfl ?_
  refine Wl.pure (PR.moveI rfl) ?_
  refine Wl.on rfl rfl ?_
  refine Wl.pure (PR.neqS (a := (((shdC (codeP 2 (fun i => [p, r].getD i 0) (fun i => [c, d].getD i (fun _ => 0)) 8) c d) : Nat) : Int)) rfl rfl) ?_
  refine Wl.pure (PR.pickFB rfl rfl) ?_
  refine Wl.nil ?_
  refine tn ?_
  refine Wc.condF rfl ?_
  refine Wc.skip ?_
  refine tn ?_
  refine Wc.seq ?_
  refine Wc.region rfl ?_
  refine Wl.pure (PR.assB rfl) ?_
  refine Wl.nil ?_
  refine tn ?_
  refine Wc.ret ?_
  refine postL.tmp rfl rfl ?_
  exact RetV.of rfl st.below

end Go.Proofs.Ytajkjhjnbfcpfaa
