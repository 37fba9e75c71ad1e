/-
  Contracts of functions, printed by a program of ours.
-/
import Derived.Test.YtagghfllgafmgaaCM2
namespace Go.Proofs.Ytagghfllgafmgaa
open Go.RowKit
set_option linter.unusedVariables false
set_option linter.unusedSimpArgs false

set_option maxHeartbeats 2000000 in
set_option maxRecDepth 4000 in
theorem c_laws_FnMarks {A0 : Option Addr} {n0 : Nat} {cp0 : Nat} {c0 : Nat → Nat} {A1 : Option Addr} {n1 : Nat} {cp1 : Nat} {c1 : Nat → Nat} {w : World} (hn0 : n0 ≤ 9223372036854775807) (hR0 : RdS w A0 n0 (arrU .u8 n0 c0)) (hc0 : ∀ k, c0 k < 256) (hn1 : n1 ≤ 9223372036854775807) (hR1 : RdS w A1 n1 (arrU .u8 n1 c1)) (hc1 : ∀ k, c1 k < 256) :
    CE Try.prog 8 [.slice (A0) (n0) (cp0), .slice (A1) (n1) (cp1)] w (RetV w (.bool true)) := by
  refine CE.enter 380 [(0, .slice (A0) (n0) (cp0)), (1, .slice (A1) (n1) (cp1))] en_8 Try.func8 rfl rfl (Nat.le_of_ble_eq_true rfl) rfl ?_
  have st := St.start w
  refine Wc.seq ?_
  refine Wc.region rfl ?_
  refine Wl.pure (PR.assB rfl) ?_
  refine Wl.nil ?_
  refine tn ?_
  refine Wc.seq ?_
  refine Wc.seq ?_
  refine Wc.region rfl ?_
  refine Wl.pure (PR.moveL rfl) ?_
  refine Wl.callV (c_laws_f6big (A := A0) (n := n0) (cp := cp0) (by first | assumption | omega)) rfl ?_
  intro w1 hbel
  replace st := st.call hbel
  clear hbel
  refine Wl.pure (PR.moveB rfl) ?_
  refine Wl.splitF (q := (4096 : Int) < ((n0 : Nat) : Int)) rfl rfl (fun h2 => ?_) (fun h2 => ?_)
  · refine Wl.pure (PR.moveL rfl) ?_
    refine Wl.on rfl rfl ?_
    refine Wl.callV (c_laws_f6big (A := A1) (n := n1) (cp := cp1) (by first | assumption | omega)) rfl ?_
    intro w3 hbel
    replace st := st.call hbel
    clear hbel
    refine Wl.pure (PR.pickFB rfl rfl) ?_
    refine Wl.nil ?_
    refine tn ?_
    refine Wc.condD (p := (4096 : Int) < ((n1 : Nat) : Int)) rfl (fun h4 => ?_) (fun h4 => ?_)
    · refine Wc.seq ?_
      refine Wc.region rfl ?_
      refine Wl.pure (PR.assB rfl) ?_
      refine Wl.nil ?_
      refine tn ?_
      refine Wc.ret ?_
      refine tr ?_
      refine postL.tmp rfl rfl ?_
      exact RetV.of rfl st.below
    · refine Wc.skip ?_
      refine tn ?_
      refine Wc.seq ?_
      refine Wc.region rfl ?_
      refine Wl.pure (PR.moveL rfl) ?_
      refine Wl.callXE [] st (c_spec_P6Scheme (A := A0) (n := n0) (cp := cp0) (c := c0) (hR0.st st) hc0) rfl rfl ?_
      clear st
      rintro ⟨s__6, p__7, a__8, b__9⟩ ⟨hx_10, hx_11, hx_12, hx_13, hx_14⟩ w5 st
      try dsimp only at st hx_10 hx_11 hx_12 hx_13 hx_14
      replace st : St [] w w5 [] := st
      refine Wl.alloc st tZ_62 rfl ?_
      clear st
      intro b5 w15 st
      refine Wl.storeA (i := 0) (cs' := schV ((s__6 : Nat) : Int) ((p__7 : Nat) : Int) (a__8) (b__9)) st tA_62 rfl rfl schV_len schV_one rfl (le_of_len schV_len (by omega)) (all_put schV_len) ?_
      clear st
      intro w16 st
      replace st : St [] w w16 [(b5, schV ((s__6 : Nat) : Int) ((p__7 : Nat) : Int) (a__8) (b__9), 62)] := st
      refine Wl.nil ?_
      refine tn ?_
      refine Wc.seq ?_
      refine Wc.region rfl ?_
      refine Wl.pure (PR.moveL rfl) ?_
      refine Wl.callXE [] st (c_spec_P6Picture (A := A1) (n := n1) (cp := cp1) (c := c1) (hR1.st st) hc1) rfl rfl ?_
      clear st
      rintro p__18 hx_19 w17 st
      try dsimp only at st hx_19
      replace st : St [] w w17 [(b5, schV ((s__6 : Nat) : Int) ((p__7 : Nat) : Int) (a__8) (b__9), 62)] := st
      refine Wl.pure (PR.assI rfl) ?_
      refine Wl.nil ?_
      refine tn ?_
      refine Wc.seq ?_
      refine Wc.region rfl ?_
      refine Wl.pure (PR.moveL rfl) ?_
      refine Wl.callXE [] st (c_spec_P6Seed (A := A1) (n := n1) (cp := cp1) (c := c1) (hR1.st st) hc1) rfl rfl ?_
      clear st
      rintro x__21 hx_22 w20 st
      try dsimp only at st hx_22
      replace st : St [] w w20 [(b5, schV ((s__6 : Nat) : Int) ((p__7 : Nat) : Int) (a__8) (b__9), 62)] := st
      refine Wl.pure (PR.assI rfl) ?_
      refine Wl.nil ?_
      refine tn ?_
      refine Wc.seq ?_
      refine Wc.region rfl ?_
      refine Wl.loadA (i := 0) st tA_62 rfl rfl (all_sub schV_len) schV_len ?_
      refine Wl.pure (PR.moveI rfl) ?_
      refine Wl.pure (PR.moveI rfl) ?_
      refine Wl.callXG [] st (c_spec_SharePicture (s := s__6) (p := p__7) (a := a__8) (b := b__9) (x := p__18) (sd := x__21) (by first | assumption | omega) (by first | assumption | omega) (by assumption) (by assumption) (by first | assumption | omega) (by first | assumption | omega) (by first | assumption | omega)) rfl rfl ?_
      clear st
      intro b68 c68 sp68 w23 hc68 hs68 st
      replace st : St [] w w23 [(b68, layS s__6 (fun _ => ((p__7 : Nat) : Int)) (dwC (shF a__8 b__9 p__18) p__7 x__21) ++ sp68, 29), (b5, schV ((s__6 : Nat) : Int) ((p__7 : Nat) : Int) (a__8) (b__9), 62)] := st
      refine Wl.pure (PR.moveV (.tuple #[.slice (some ⟨b68, 0, none⟩) (s__6) (c68), .int .u32 (((sdK p__7 x__21 64 : Nat) : Int)), .int .i64 (0)]) rfl) ?_
      refine Wl.pure (PR.extr (i := 0) (vs := [.slice (some ⟨b68, 0, none⟩) (s__6) (c68), .int .u32 (((sdK p__7 x__21 64 : Nat) : Int)), .int .i64 (0)]) rfl rfl) ?_
      refine Wl.pure (PR.extr (i := 1) (vs := [.slice (some ⟨b68, 0, none⟩) (s__6) (c68), .int .u32 (((sdK p__7 x__21 64 : Nat) : Int)), .int .i64 (0)]) rfl rfl) ?_
      refine Wl.pure (PR.extr (i := 2) (vs := [.slice (some ⟨b68, 0, none⟩) (s__6) (c68), .int .u32 (((sdK p__7 x__21 64 : Nat) : Int)), .int .i64 (0)]) rfl rfl) ?_
      refine Wl.pure (PR.assL rfl) ?_
      refine Wl.pure (PR.assI rfl) ?_
      refine Wl.pure (PR.assI rfl) ?_
      refine Wl.nil ?_
      refine tn ?_
      refine Wc.seq ?_
      have hok9 : schOk ((s__6 : Nat) : Int) ((p__7 : Nat) : Int) a__8 b__9 = true := by assumption
      have hC0 : ∀ r, r < s__6 → ∀ j, j < 64 → (dwC (shF a__8 b__9 p__18) p__7 x__21) r j < 2 ^ p__7 := fun r _ j _ => dw_pow (by omega)
      have hCb : ∀ u v, (dwC (shF a__8 b__9 p__18) p__7 x__21) u v < 256 := fun u v => dwC_lt _ _ _ u v
      have hla0 : layAll s__6 (fun _ => ((p__7 : Nat) : Int)) (dwC (shF a__8 b__9 p__18) p__7 x__21) = true := rows_lay hok9 hC0
      have hb0 : bothC ((s__6 : Nat) : Int) ((p__7 : Nat) : Int) a__8 b__9 s__6 (fun _ => ((p__7 : Nat) : Int)) (dwC (shF a__8 b__9 p__18) p__7 x__21) = 0 := rows_both hok9 hC0
      have hg9 : ∀ i, i < s__6 → -128 ≤ (fun _ => ((p__7 : Nat) : Int)) i ∧ (fun _ => ((p__7 : Nat) : Int)) i ≤ 127 := fun i _ => by dsimp only; omega
      have hmk0 : mksC s__6 (fun _ => ((p__7 : Nat) : Int)) (dwC (shF a__8 b__9 p__18) p__7 x__21) = 0 := mksC_0 hla0 (by omega)
      refine Wc.region rfl ?_
      refine Wl.pure (PR.moveL rfl) ?_
      refine Wl.pure (PR.moveI rfl) ?_
      refine Wl.callXG [] st (c_impl_MarksOf_t (A := some ⟨b68, 0, none⟩) (n := s__6) (cp := c68) (p := (fun _ => ((p__7 : Nat) : Int))) (c := (dwC (shF a__8 b__9 p__18) p__7 x__21)) (seed := x__21) ((st.rdA (i := 0) (n := (s__6 * 65)) rfl (app_all (recV_len (s := 65) (layS_row _ _) _))).sl) (by assumption) (dwC_lt _ _ _) (by first | assumption | omega) (by first | assumption | omega) hmk0) rfl rfl ?_
      clear st
      intro b75 c75 sp75 w24 hc75 hs75 st
      replace st : St [] w w24 [(b75, arrU .u32 s__6 (fun j => markK x__21 ((fun _ => ((p__7 : Nat) : Int)) j) ((dwC (shF a__8 b__9 p__18) p__7 x__21) j) 64) ++ sp75, 26), (b68, layS s__6 (fun _ => ((p__7 : Nat) : Int)) (dwC (shF a__8 b__9 p__18) p__7 x__21) ++ sp68, 29), (b5, schV ((s__6 : Nat) : Int) ((p__7 : Nat) : Int) (a__8) (b__9), 62)] := st
      refine Wl.pure (PR.moveV (.tuple #[.slice (some ⟨b75, 0, none⟩) (s__6) (c75), .int .i64 (0)]) rfl) ?_
      refine Wl.pure (PR.extr (i := 0) (vs := [.slice (some ⟨b75, 0, none⟩) (s__6) (c75), .int .i64 (0)]) rfl rfl) ?_
      refine Wl.pure (PR.extr (i := 1) (vs := [.slice (some ⟨b75, 0, none⟩) (s__6) (c75), .int .i64 (0)]) rfl rfl) ?_
      refine Wl.pure (PR.assL rfl) ?_
      refine Wl.pure (PR.assI rfl) ?_
      refine Wl.nil ?_
      refine tn ?_
      refine Wc.seq ?_
      refine Wc.region rfl ?_
      refine Wl.pure (PR.moveL rfl) ?_
      refine Wl.pure (PR.moveI rfl) ?_
      refine Wl.callXG [] st (c_spec_MarksOf_t (A := some ⟨b68, 0, none⟩) (n := s__6) (cp := c68) (p := (fun _ => ((p__7 : Nat) : Int))) (c := (dwC (shF a__8 b__9 p__18) p__7 x__21)) (seed := x__21) ((st.rdA (i := 1) (n := (s__6 * 65)) rfl (app_all (recV_len (s := 65) (layS_row _ _) _))).sl) (by assumption) (dwC_lt _ _ _) (by first | assumption | omega) (by first | assumption | omega) hmk0) rfl rfl ?_
      clear st
      intro b81 c81 sp81 w25 hc81 hs81 st
      replace st : St [] w w25 [(b81, arrU .u32 s__6 (fun j => markK x__21 ((fun _ => ((p__7 : Nat) : Int)) j) ((dwC (shF a__8 b__9 p__18) p__7 x__21) j) 64) ++ sp81, 26), (b75, arrU .u32 s__6 (fun j => markK x__21 ((fun _ => ((p__7 : Nat) : Int)) j) ((dwC (shF a__8 b__9 p__18) p__7 x__21) j) 64) ++ sp75, 26), (b68, layS s__6 (fun _ => ((p__7 : Nat) : Int)) (dwC (shF a__8 b__9 p__18) p__7 x__21) ++ sp68, 29), (b5, schV ((s__6 : Nat) : Int) ((p__7 : Nat) : Int) (a__8) (b__9), 62)] := st
      refine Wl.pure (PR.moveV (.tuple #[.slice (some ⟨b81, 0, none⟩) (s__6) (c81), .int .i64 (0)]) rfl) ?_
      refine Wl.pure (PR.extr (i := 0) (vs := [.slice (some ⟨b81, 0, none⟩) (s__6) (c81), .int .i64 (0)]) rfl rfl) ?_
      refine Wl.pure (PR.extr (i := 1) (vs := [.slice (some ⟨b81, 0, none⟩) (s__6) (c81), .int .i64 (0)]) rfl rfl) ?_
      refine Wl.pure (PR.assL rfl) ?_
      refine Wl.pure (PR.assI rfl) ?_
      refine Wl.nil ?_
      refine tn ?_
      refine Wc.seq ?_
      refine Wc.region rfl ?_
      refine Wl.buildSlice (ps := []) (cs := layS 0 (fun _ => 0) (fun _ _ => 0) ++ []) st tS_37 tZ_29 rfl rfl rfl ?_
      clear st
      intro b84 w26 st
      refine Wl.pure (PR.moveL rfl) ?_
      refine Wl.append0 (c := 0) (m := s__6) (sp := []) (vs := layS s__6 (fun _ => ((p__7 : Nat) : Int)) (dwC (shF a__8 b__9 p__18) p__7 x__21)) (i := 0) st tS_37 tZ_29 rfl rfl rfl rfl rfl (Src.ofRdA (tyS_und tS_37) (st.rdA (i := 3) (n := (s__6 * 65)) rfl (app_all (recV_len (s := 65) (layS_row _ _) _))) (recV_len (s := 65) (layS_row _ _) _) (layS_one _ _)) (by omega) (by omega) ?_
      clear st
      intro b86 c86 sp86 w27 hc86 hs86 st
      replace st : St [] w w27 [(b86, layS s__6 (fun _ => ((p__7 : Nat) : Int)) (dwC (shF a__8 b__9 p__18) p__7 x__21) ++ sp86, 29), (b81, arrU .u32 s__6 (fun j => markK x__21 ((fun _ => ((p__7 : Nat) : Int)) j) ((dwC (shF a__8 b__9 p__18) p__7 x__21) j) 64) ++ sp81, 26), (b75, arrU .u32 s__6 (fun j => markK x__21 ((fun _ => ((p__7 : Nat) : Int)) j) ((dwC (shF a__8 b__9 p__18) p__7 x__21) j) 64) ++ sp75, 26), (b68, layS s__6 (fun _ => ((p__7 : Nat) : Int)) (dwC (shF a__8 b__9 p__18) p__7 x__21) ++ sp68, 29), (b5, schV ((s__6 : Nat) : Int) ((p__7 : Nat) : Int) (a__8) (b__9), 62)] := st
      refine Wl.pure (PR.assL rfl) ?_
      refine Wl.nil ?_
      refine tn ?_
      refine Wc.seq ?_
      refine Wc.region rfl ?_
      refine Wl.pure (PR.moveL rfl) ?_
      refine Wl.pure (PR.fieldAddr tF_62_0 rfl) ?_
      refine Wl.load (i := 4) st tA_22 rfl rfl (rfl) ?_
      refine Wl.pure (PR.conv (n := ((s__6 : Nat) : Int)) tI_2 rfl (by simp only [fitI]; omega) Try.underlying22) ?_
      refine Wl.callXE [] st (c_spec_P6Pick (A := A0) (n := n0) (cp := cp0) (c := c0) (m := s__6) (hR0.st st) hc0 (by first | assumption | omega)) rfl rfl ?_
      clear st
      rintro v__29 hx_30 w28 st
      try dsimp only at st hx_30
      replace st : St [] w w28 [(b86, layS s__6 (fun _ => ((p__7 : Nat) : Int)) (dwC (shF a__8 b__9 p__18) p__7 x__21) ++ sp86, 29), (b81, arrU .u32 s__6 (fun j => markK x__21 ((fun _ => ((p__7 : Nat) : Int)) j) ((dwC (shF a__8 b__9 p__18) p__7 x__21) j) 64) ++ sp81, 26), (b75, arrU .u32 s__6 (fun j => markK x__21 ((fun _ => ((p__7 : Nat) : Int)) j) ((dwC (shF a__8 b__9 p__18) p__7 x__21) j) 64) ++ sp75, 26), (b68, layS s__6 (fun _ => ((p__7 : Nat) : Int)) (dwC (shF a__8 b__9 p__18) p__7 x__21) ++ sp68, 29), (b5, schV ((s__6 : Nat) : Int) ((p__7 : Nat) : Int) (a__8) (b__9), 62)] := st
      refine Wl.pure (PR.assI rfl) ?_
      refine Wl.nil ?_
      refine tn ?_
      refine Wc.seq ?_
      have hi9 : v__29 < s__6 := by omega
      refine Wc.tree1 (w0 := w) (X := []) (Ks := []) (S := fun i => i == 3 || i == 7 || i == 12) (.st 0 0 (.st 1 0 (.st 2 0 (.st 4 0 (.st 5 0 (.st 9 0 (.st 10 0 (.st 3 2 (.st 6 0 (.st 7 2 (.st 8 0 (.st 11 0 (.st 12 2 PT.nil))))))))))))) hmix (by kernel_rfl) (by kernel_rfl) rfl rfl ?_
      intro w31 hbel
      replace st := st.call hbel
      clear hbel
      refine WT.pure rfl (PR.moveL rfl) ?_
      refine WT.pure rfl (PR.moveI rfl) ?_
      refine WT.pure rfl (PR.moveL rfl) ?_
      refine WT.pure rfl (PR.idxAddrS (i := v__29) tS_37 rfl rfl (by omega)) ?_
      refine WT.pure rfl (PR.fieldAddr tF_29_1 rfl) ?_
      refine WT.pure rfl (PR.idxAddrS (i := v__29) tS_37 rfl rfl (by omega)) ?_
      refine WT.pure rfl (PR.fieldAddr tF_29_1 rfl) ?_
      have st0 := st
      refine WT.s rfl rfl ?_
      refine Wl.callXE [] st (c_spec_P6Pick (A := A1) (n := n1) (cp := cp1) (c := c1) (m := 64) (hR1.st st) hc1 (by first | assumption | omega)) rfl rfl ?_
      clear st
      rintro v__33 hx_34 w32 st
      try dsimp only at st hx_34
      replace st : St [] w w32 [(b86, layS s__6 (fun _ => ((p__7 : Nat) : Int)) (dwC (shF a__8 b__9 p__18) p__7 x__21) ++ sp86, 29), (b81, arrU .u32 s__6 (fun j => markK x__21 ((fun _ => ((p__7 : Nat) : Int)) j) ((dwC (shF a__8 b__9 p__18) p__7 x__21) j) 64) ++ sp81, 26), (b75, arrU .u32 s__6 (fun j => markK x__21 ((fun _ => ((p__7 : Nat) : Int)) j) ((dwC (shF a__8 b__9 p__18) p__7 x__21) j) 64) ++ sp75, 26), (b68, layS s__6 (fun _ => ((p__7 : Nat) : Int)) (dwC (shF a__8 b__9 p__18) p__7 x__21) ++ sp68, 29), (b5, schV ((s__6 : Nat) : Int) ((p__7 : Nat) : Int) (a__8) (b__9), 62)] := st
      refine Wl.nil ⟨rfl, RK.of st0 st ksN, ?_⟩
      clear st0
      refine WT.pure rfl (PR.idxAddrA1 (i := v__33) tE_23 rfl rfl (by omega)) ?_
      have st0 := st
      refine WT.s rfl rfl ?_
      refine Wl.load (i := 0) st tA_5 rfl rfl (app_get (recV_getd (layS_row _ _) (by omega) (layV_get_c (by omega)))) ?_
      refine Wl.nil ⟨rfl, RK.of st0 st ksN, ?_⟩
      clear st0
      refine WT.pure rfl (PR.xor (a := ((dwC (shF a__8 b__9 p__18) p__7 x__21) v__29) (v__33)) (b := 1) rfl rfl (by decide) (((dwC_lt _ _ _) v__29) (v__33)) (by decide)) ?_
      refine WT.pure rfl (PR.idxAddrA1 (i := v__33) tE_23 rfl rfl (by omega)) ?_
      have st0 := st
      refine WT.s rfl rfl ?_
      refine Wl.store (i := 0) (cs' := layS s__6 (fun _ => ((p__7 : Nat) : Int)) (upd (dwC (shF a__8 b__9 p__18) p__7 x__21) v__29 (upd ((dwC (shF a__8 b__9 p__18) p__7 x__21) v__29) v__33 ((((dwC (shF a__8 b__9 p__18) p__7 x__21) v__29) (v__33)) ^^^ 1))) ++ sp86) st tA_5 rfl rfl rfl rfl (app_in (layS_in (i := v__29) (j := 1 + v__33) (by omega) (by omega) (by omega))) (app_set (layS_in (i := v__29) (j := 1 + v__33) (by omega) (by omega) (by omega)) (layS_set_c (by omega) (by omega))) ?_
      clear st
      intro w35 st
      replace st : St [] w w35 [(b86, layS s__6 (fun _ => ((p__7 : Nat) : Int)) (upd (dwC (shF a__8 b__9 p__18) p__7 x__21) v__29 (upd ((dwC (shF a__8 b__9 p__18) p__7 x__21) v__29) v__33 ((((dwC (shF a__8 b__9 p__18) p__7 x__21) v__29) (v__33)) ^^^ 1))) ++ sp86, 29), (b81, arrU .u32 s__6 (fun j => markK x__21 ((fun _ => ((p__7 : Nat) : Int)) j) ((dwC (shF a__8 b__9 p__18) p__7 x__21) j) 64) ++ sp81, 26), (b75, arrU .u32 s__6 (fun j => markK x__21 ((fun _ => ((p__7 : Nat) : Int)) j) ((dwC (shF a__8 b__9 p__18) p__7 x__21) j) 64) ++ sp75, 26), (b68, layS s__6 (fun _ => ((p__7 : Nat) : Int)) (dwC (shF a__8 b__9 p__18) p__7 x__21) ++ sp68, 29), (b5, schV ((s__6 : Nat) : Int) ((p__7 : Nat) : Int) (a__8) (b__9), 62)] := st
      refine Wl.nil ⟨rfl, RK.of st0 st ksN, ?_⟩
      clear st0
      refine WT.nil ?_
      refine tn ?_
      refine Wc.seq ?_
      have hp1 : ∀ r, r < s__6 → ∀ j, j < 64 → (upd (dwC (shF a__8 b__9 p__18) p__7 x__21) v__29 (upd ((dwC (shF a__8 b__9 p__18) p__7 x__21) v__29) v__33 ((((dwC (shF a__8 b__9 p__18) p__7 x__21) v__29) (v__33)) ^^^ 1))) r j < 2 ^ p__7 := forge_pow hC0 hi9 (by omega) (by omega)
      have hmk1 : mksC s__6 (fun _ => ((p__7 : Nat) : Int)) (upd (dwC (shF a__8 b__9 p__18) p__7 x__21) v__29 (upd ((dwC (shF a__8 b__9 p__18) p__7 x__21) v__29) v__33 ((((dwC (shF a__8 b__9 p__18) p__7 x__21) v__29) (v__33)) ^^^ 1))) = 0 := mksC_0 (rows_lay hok9 hp1) (by omega)
      have hcb1 : ∀ u v, (upd (dwC (shF a__8 b__9 p__18) p__7 x__21) v__29 (upd ((dwC (shF a__8 b__9 p__18) p__7 x__21) v__29) v__33 ((((dwC (shF a__8 b__9 p__18) p__7 x__21) v__29) (v__33)) ^^^ 1))) u v < 256 := upd2_lt hCb (xor_lt_u8 (hCb _ _) (by decide))
      refine Wc.region rfl ?_
      refine Wl.pure (PR.moveL rfl) ?_
      refine Wl.pure (PR.moveI rfl) ?_
      refine Wl.pure (PR.moveL rfl) ?_
      refine Wl.callXG [] st (c_impl_ForgedShares_t (A := some ⟨b86, 0, none⟩) (n := s__6) (cp := c86) (p := (fun _ => ((p__7 : Nat) : Int))) (c := (upd (dwC (shF a__8 b__9 p__18) p__7 x__21) v__29 (upd ((dwC (shF a__8 b__9 p__18) p__7 x__21) v__29) v__33 ((((dwC (shF a__8 b__9 p__18) p__7 x__21) v__29) (v__33)) ^^^ 1)))) (seed := x__21) (B := some ⟨b81, 0, none⟩) (m := s__6) (cq := c81) (d := (fun j => markK x__21 ((fun _ => ((p__7 : Nat) : Int)) j) ((dwC (shF a__8 b__9 p__18) p__7 x__21) j) 64)) ((st.rdA (i := 0) (n := (s__6 * 65)) rfl (app_all (recV_len (s := 65) (layS_row _ _) _))).sl) (by assumption) (upd2_lt (dwC_lt _ _ _) (xor_lt_u8 (((dwC_lt _ _ _) v__29) (v__33)) (by decide))) (by first | assumption | omega) (by first | assumption | omega) ((st.rdA (i := 1) (n := s__6) rfl (app_all (arrU_len _))).sl) (fun j => markK_lt 64 ((dwC_lt _ _ _) j)) (by first | assumption | omega) hmk1 rfl) rfl rfl ?_
      clear st
      intro b108 c108 sp108 w36 hc108 hs108 st
      replace st : St [] w w36 [(b108, arrU .i64 (flN (fgQ x__21 (fun _ => ((p__7 : Nat) : Int)) (upd (dwC (shF a__8 b__9 p__18) p__7 x__21) v__29 (upd ((dwC (shF a__8 b__9 p__18) p__7 x__21) v__29) v__33 ((((dwC (shF a__8 b__9 p__18) p__7 x__21) v__29) (v__33)) ^^^ 1))) (fun j => markK x__21 ((fun _ => ((p__7 : Nat) : Int)) j) ((dwC (shF a__8 b__9 p__18) p__7 x__21) j) 64)) s__6) (fun j => (fun z => z) (flA (fgQ x__21 (fun _ => ((p__7 : Nat) : Int)) (upd (dwC (shF a__8 b__9 p__18) p__7 x__21) v__29 (upd ((dwC (shF a__8 b__9 p__18) p__7 x__21) v__29) v__33 ((((dwC (shF a__8 b__9 p__18) p__7 x__21) v__29) (v__33)) ^^^ 1))) (fun j => markK x__21 ((fun _ => ((p__7 : Nat) : Int)) j) ((dwC (shF a__8 b__9 p__18) p__7 x__21) j) 64)) s__6 j)) ++ sp108, 2), (b86, layS s__6 (fun _ => ((p__7 : Nat) : Int)) (upd (dwC (shF a__8 b__9 p__18) p__7 x__21) v__29 (upd ((dwC (shF a__8 b__9 p__18) p__7 x__21) v__29) v__33 ((((dwC (shF a__8 b__9 p__18) p__7 x__21) v__29) (v__33)) ^^^ 1))) ++ sp86, 29), (b81, arrU .u32 s__6 (fun j => markK x__21 ((fun _ => ((p__7 : Nat) : Int)) j) ((dwC (shF a__8 b__9 p__18) p__7 x__21) j) 64) ++ sp81, 26), (b75, arrU .u32 s__6 (fun j => markK x__21 ((fun _ => ((p__7 : Nat) : Int)) j) ((dwC (shF a__8 b__9 p__18) p__7 x__21) j) 64) ++ sp75, 26), (b68, layS s__6 (fun _ => ((p__7 : Nat) : Int)) (dwC (shF a__8 b__9 p__18) p__7 x__21) ++ sp68, 29), (b5, schV ((s__6 : Nat) : Int) ((p__7 : Nat) : Int) (a__8) (b__9), 62)] := st
      refine Wl.pure (PR.moveV (.tuple #[.slice (some ⟨b108, 0, none⟩) ((flN (fgQ x__21 (fun _ => ((p__7 : Nat) : Int)) (upd (dwC (shF a__8 b__9 p__18) p__7 x__21) v__29 (upd ((dwC (shF a__8 b__9 p__18) p__7 x__21) v__29) v__33 ((((dwC (shF a__8 b__9 p__18) p__7 x__21) v__29) (v__33)) ^^^ 1))) (fun j => markK x__21 ((fun _ => ((p__7 : Nat) : Int)) j) ((dwC (shF a__8 b__9 p__18) p__7 x__21) j) 64)) s__6)) (c108), .int .i64 (0)]) rfl) ?_
      refine Wl.pure (PR.extr (i := 0) (vs := [.slice (some ⟨b108, 0, none⟩) ((flN (fgQ x__21 (fun _ => ((p__7 : Nat) : Int)) (upd (dwC (shF a__8 b__9 p__18) p__7 x__21) v__29 (upd ((dwC (shF a__8 b__9 p__18) p__7 x__21) v__29) v__33 ((((dwC (shF a__8 b__9 p__18) p__7 x__21) v__29) (v__33)) ^^^ 1))) (fun j => markK x__21 ((fun _ => ((p__7 : Nat) : Int)) j) ((dwC (shF a__8 b__9 p__18) p__7 x__21) j) 64)) s__6)) (c108), .int .i64 (0)]) rfl rfl) ?_
      refine Wl.pure (PR.extr (i := 1) (vs := [.slice (some ⟨b108, 0, none⟩) ((flN (fgQ x__21 (fun _ => ((p__7 : Nat) : Int)) (upd (dwC (shF a__8 b__9 p__18) p__7 x__21) v__29 (upd ((dwC (shF a__8 b__9 p__18) p__7 x__21) v__29) v__33 ((((dwC (shF a__8 b__9 p__18) p__7 x__21) v__29) (v__33)) ^^^ 1))) (fun j => markK x__21 ((fun _ => ((p__7 : Nat) : Int)) j) ((dwC (shF a__8 b__9 p__18) p__7 x__21) j) 64)) s__6)) (c108), .int .i64 (0)]) rfl rfl) ?_
      refine Wl.pure (PR.assL rfl) ?_
      refine Wl.pure (PR.assI rfl) ?_
      refine Wl.nil ?_
      refine tn ?_
      refine Wc.seq ?_
      refine Wc.region rfl ?_
      refine Wl.pure (PR.moveL rfl) ?_
      refine Wl.pure (PR.moveI rfl) ?_
      refine Wl.pure (PR.moveL rfl) ?_
      refine Wl.callXG [] st (c_impl_ForgedShares_t (A := some ⟨b68, 0, none⟩) (n := s__6) (cp := c68) (p := (fun _ => ((p__7 : Nat) : Int))) (c := (dwC (shF a__8 b__9 p__18) p__7 x__21)) (seed := x__21) (B := some ⟨b81, 0, none⟩) (m := s__6) (cq := c81) (d := (fun j => markK x__21 ((fun _ => ((p__7 : Nat) : Int)) j) ((dwC (shF a__8 b__9 p__18) p__7 x__21) j) 64)) ((st.rdA (i := 4) (n := (s__6 * 65)) rfl (app_all (recV_len (s := 65) (layS_row _ _) _))).sl) (by assumption) (dwC_lt _ _ _) (by first | assumption | omega) (by first | assumption | omega) ((st.rdA (i := 2) (n := s__6) rfl (app_all (arrU_len _))).sl) (fun j => markK_lt 64 ((dwC_lt _ _ _) j)) (by first | assumption | omega) hmk0 rfl) rfl rfl ?_
      clear st
      intro b115 c115 sp115 w37 hc115 hs115 st
      replace st : St [] w w37 [(b115, arrU .i64 (flN (fgQ x__21 (fun _ => ((p__7 : Nat) : Int)) (dwC (shF a__8 b__9 p__18) p__7 x__21) (fun j => markK x__21 ((fun _ => ((p__7 : Nat) : Int)) j) ((dwC (shF a__8 b__9 p__18) p__7 x__21) j) 64)) s__6) (fun j => (fun z => z) (flA (fgQ x__21 (fun _ => ((p__7 : Nat) : Int)) (dwC (shF a__8 b__9 p__18) p__7 x__21) (fun j => markK x__21 ((fun _ => ((p__7 : Nat) : Int)) j) ((dwC (shF a__8 b__9 p__18) p__7 x__21) j) 64)) s__6 j)) ++ sp115, 2), (b108, arrU .i64 (flN (fgQ x__21 (fun _ => ((p__7 : Nat) : Int)) (upd (dwC (shF a__8 b__9 p__18) p__7 x__21) v__29 (upd ((dwC (shF a__8 b__9 p__18) p__7 x__21) v__29) v__33 ((((dwC (shF a__8 b__9 p__18) p__7 x__21) v__29) (v__33)) ^^^ 1))) (fun j => markK x__21 ((fun _ => ((p__7 : Nat) : Int)) j) ((dwC (shF a__8 b__9 p__18) p__7 x__21) j) 64)) s__6) (fun j => (fun z => z) (flA (fgQ x__21 (fun _ => ((p__7 : Nat) : Int)) (upd (dwC (shF a__8 b__9 p__18) p__7 x__21) v__29 (upd ((dwC (shF a__8 b__9 p__18) p__7 x__21) v__29) v__33 ((((dwC (shF a__8 b__9 p__18) p__7 x__21) v__29) (v__33)) ^^^ 1))) (fun j => markK x__21 ((fun _ => ((p__7 : Nat) : Int)) j) ((dwC (shF a__8 b__9 p__18) p__7 x__21) j) 64)) s__6 j)) ++ sp108, 2), (b86, layS s__6 (fun _ => ((p__7 : Nat) : Int)) (upd (dwC (shF a__8 b__9 p__18) p__7 x__21) v__29 (upd ((dwC (shF a__8 b__9 p__18) p__7 x__21) v__29) v__33 ((((dwC (shF a__8 b__9 p__18) p__7 x__21) v__29) (v__33)) ^^^ 1))) ++ sp86, 29), (b81, arrU .u32 s__6 (fun j => markK x__21 ((fun _ => ((p__7 : Nat) : Int)) j) ((dwC (shF a__8 b__9 p__18) p__7 x__21) j) 64) ++ sp81, 26), (b75, arrU .u32 s__6 (fun j => markK x__21 ((fun _ => ((p__7 : Nat) : Int)) j) ((dwC (shF a__8 b__9 p__18) p__7 x__21) j) 64) ++ sp75, 26), (b68, layS s__6 (fun _ => ((p__7 : Nat) : Int)) (dwC (shF a__8 b__9 p__18) p__7 x__21) ++ sp68, 29), (b5, schV ((s__6 : Nat) : Int) ((p__7 : Nat) : Int) (a__8) (b__9), 62)] := st
      refine Wl.pure (PR.moveV (.tuple #[.slice (some ⟨b115, 0, none⟩) ((flN (fgQ x__21 (fun _ => ((p__7 : Nat) : Int)) (dwC (shF a__8 b__9 p__18) p__7 x__21) (fun j => markK x__21 ((fun _ => ((p__7 : Nat) : Int)) j) ((dwC (shF a__8 b__9 p__18) p__7 x__21) j) 64)) s__6)) (c115), .int .i64 (0)]) rfl) ?_
      refine Wl.pure (PR.extr (i := 0) (vs := [.slice (some ⟨b115, 0, none⟩) ((flN (fgQ x__21 (fun _ => ((p__7 : Nat) : Int)) (dwC (shF a__8 b__9 p__18) p__7 x__21) (fun j => markK x__21 ((fun _ => ((p__7 : Nat) : Int)) j) ((dwC (shF a__8 b__9 p__18) p__7 x__21) j) 64)) s__6)) (c115), .int .i64 (0)]) rfl rfl) ?_
      refine Wl.pure (PR.extr (i := 1) (vs := [.slice (some ⟨b115, 0, none⟩) ((flN (fgQ x__21 (fun _ => ((p__7 : Nat) : Int)) (dwC (shF a__8 b__9 p__18) p__7 x__21) (fun j => markK x__21 ((fun _ => ((p__7 : Nat) : Int)) j) ((dwC (shF a__8 b__9 p__18) p__7 x__21) j) 64)) s__6)) (c115), .int .i64 (0)]) rfl rfl) ?_
      refine Wl.pure (PR.assL rfl) ?_
      refine Wl.pure (PR.assI rfl) ?_
      refine Wl.nil ?_
      refine tn ?_
      refine Wc.seq ?_
      refine Wc.region rfl ?_
      refine Wl.pure (PR.moveL rfl) ?_
      refine Wl.pure (PR.idxAddrS (i := 0) tS_37 rfl rfl (by omega)) ?_
      refine Wl.loadA (i := 5) (vs := layV ((fun _ => ((p__7 : Nat) : Int)) 0) (((dwC (shF a__8 b__9 p__18) p__7 x__21) 0))) st tA_29 rfl rfl (app_sub (recV_sub0 (n := s__6) (i := 0) (layS_row _ _) (by omega)) (recV_tot (n := s__6) (i := 0) (layS_row _ _) (by omega))) layV_len ?_
      refine Wl.pure (PR.moveI rfl) ?_
      refine Wl.callV (c_impl_MarkOf (p := (fun _ => ((p__7 : Nat) : Int)) 0) (c := ((dwC (shF a__8 b__9 p__18) p__7 x__21) 0)) (seed := x__21) (by dsimp only; omega) ((dwC_lt _ _ _) 0) (by first | assumption | omega)) rfl ?_
      intro w38 hbel
      replace st := st.call hbel
      clear hbel
      refine Wl.pure (PR.moveV (.tuple #[.int .u32 (((markF x__21 ((fun _ => ((p__7 : Nat) : Int)) 0) ((dwC (shF a__8 b__9 p__18) p__7 x__21) 0) : Nat) : Int)), .int .i64 (((codeIf (layOk ((fun _ => ((p__7 : Nat) : Int)) 0) ((dwC (shF a__8 b__9 p__18) p__7 x__21) 0)) 1 : Nat) : Int))]) rfl) ?_
      refine Wl.pure (PR.extr (i := 0) (vs := [.int .u32 (((markF x__21 ((fun _ => ((p__7 : Nat) : Int)) 0) ((dwC (shF a__8 b__9 p__18) p__7 x__21) 0) : Nat) : Int)), .int .i64 (((codeIf (layOk ((fun _ => ((p__7 : Nat) : Int)) 0) ((dwC (shF a__8 b__9 p__18) p__7 x__21) 0)) 1 : Nat) : Int))]) rfl rfl) ?_
      refine Wl.pure (PR.extr (i := 1) (vs := [.int .u32 (((markF x__21 ((fun _ => ((p__7 : Nat) : Int)) 0) ((dwC (shF a__8 b__9 p__18) p__7 x__21) 0) : Nat) : Int)), .int .i64 (((codeIf (layOk ((fun _ => ((p__7 : Nat) : Int)) 0) ((dwC (shF a__8 b__9 p__18) p__7 x__21) 0)) 1 : Nat) : Int))]) rfl rfl) ?_
      refine Wl.pure (PR.assI rfl) ?_
      refine Wl.pure (PR.assI rfl) ?_
      refine Wl.nil ?_
      refine tn ?_
      refine Wc.seq ?_
      refine Wc.seq ?_
      have hq1 : ∀ j, j < s__6 → (fgQ x__21 (fun _ => ((p__7 : Nat) : Int)) (upd (dwC (shF a__8 b__9 p__18) p__7 x__21) v__29 (upd ((dwC (shF a__8 b__9 p__18) p__7 x__21) v__29) v__33 ((((dwC (shF a__8 b__9 p__18) p__7 x__21) v__29) (v__33)) ^^^ 1))) (fun j => markK x__21 ((fun _ => ((p__7 : Nat) : Int)) j) ((dwC (shF a__8 b__9 p__18) p__7 x__21) j) 64)) j = decide (j = v__29) := fun j _ => forge_q hCb (by omega) j
      have hf1 : flN (fgQ x__21 (fun _ => ((p__7 : Nat) : Int)) (upd (dwC (shF a__8 b__9 p__18) p__7 x__21) v__29 (upd ((dwC (shF a__8 b__9 p__18) p__7 x__21) v__29) v__33 ((((dwC (shF a__8 b__9 p__18) p__7 x__21) v__29) (v__33)) ^^^ 1))) (fun j => markK x__21 ((fun _ => ((p__7 : Nat) : Int)) j) ((dwC (shF a__8 b__9 p__18) p__7 x__21) j) 64)) s__6 = 1 := fl_one' s__6 hi9 hq1
      have hf2 : flA (fgQ x__21 (fun _ => ((p__7 : Nat) : Int)) (upd (dwC (shF a__8 b__9 p__18) p__7 x__21) v__29 (upd ((dwC (shF a__8 b__9 p__18) p__7 x__21) v__29) v__33 ((((dwC (shF a__8 b__9 p__18) p__7 x__21) v__29) (v__33)) ^^^ 1))) (fun j => markK x__21 ((fun _ => ((p__7 : Nat) : Int)) j) ((dwC (shF a__8 b__9 p__18) p__7 x__21) j) 64)) s__6 0 = v__29 := fl_at hi9 hq1
      have hf0 : flN (fgQ x__21 (fun _ => ((p__7 : Nat) : Int)) (dwC (shF a__8 b__9 p__18) p__7 x__21) (fun j => markK x__21 ((fun _ => ((p__7 : Nat) : Int)) j) ((dwC (shF a__8 b__9 p__18) p__7 x__21) j) 64)) s__6 = 0 := fl_all0 s__6 fun j _ => none_q j
      have hlk : layOk ((p__7 : Nat) : Int) ((dwC (shF a__8 b__9 p__18) p__7 x__21) 0) = true := layOk_iffN.2 ⟨by omega, hC0 0 (by omega)⟩
      rw [show (markF x__21 ((fun _ => ((p__7 : Nat) : Int)) 0) ((dwC (shF a__8 b__9 p__18) p__7 x__21) 0)) = markK x__21 ((p__7 : Nat) : Int) ((dwC (shF a__8 b__9 p__18) p__7 x__21) 0) 64 from (by unfold markF; rw [hlk, cond_true])]
      rw [show (codeIf (layOk ((fun _ => ((p__7 : Nat) : Int)) 0) ((dwC (shF a__8 b__9 p__18) p__7 x__21) 0)) 1) = 0 from (by unfold codeIf; rw [hlk]; rfl)]
      refine Wc.region rfl ?_
      refine Wl.pure (PR.moveI rfl) ?_
      refine Wl.pure (PR.neqS (a := 0) rfl rfl) ?_
      refine Wl.pure (PR.moveB rfl) ?_
      refine Wl.on rfl rfl ?_
      refine Wl.pure (PR.moveI rfl) ?_
      refine Wl.on rfl rfl ?_
      refine Wl.pure (PR.moveI rfl) ?_
      refine Wl.on rfl rfl ?_
      refine Wl.pure (PR.neqS (a := 0) rfl rfl) ?_
      refine Wl.pure (PR.pickFB rfl rfl) ?_
      refine Wl.pure (PR.moveB rfl) ?_
      refine Wl.on rfl rfl ?_
      refine Wl.pure (PR.moveI rfl) ?_
      refine Wl.on rfl rfl ?_
      refine Wl.pure (PR.neqS (a := 0) rfl rfl) ?_
      refine Wl.pure (PR.pickFB rfl rfl) ?_
      refine Wl.pure (PR.moveB rfl) ?_
      refine Wl.on rfl rfl ?_
      refine Wl.pure (PR.moveL rfl) ?_
      refine Wl.on rfl rfl ?_
      refine Wl.pure (PR.moveL rfl) ?_
      refine Wl.on rfl rfl ?_
      refine Wl.callV (c_spec_SameMarks (A := some ⟨b75, 0, none⟩) (n := s__6) (cp := c75) (c := (fun j => markK x__21 ((fun _ => ((p__7 : Nat) : Int)) j) ((dwC (shF a__8 b__9 p__18) p__7 x__21) j) 64)) (B := some ⟨b81, 0, none⟩) (cq := c81) ((st.rdA (i := 4) (n := s__6) rfl (app_all (arrU_len _))).sl) ((st.rdA (i := 3) (n := s__6) rfl (app_all (arrU_len _))).sl) (by first | assumption | omega)) rfl ?_
      intro w39 hbel
      replace st := st.call hbel
      clear hbel
      refine Wl.on rfl rfl ?_
      refine Wl.pure (PR.not_ rfl) ?_
      refine Wl.pure (PR.pickFB rfl rfl) ?_
      refine Wl.pure (PR.moveB rfl) ?_
      refine Wl.on rfl rfl ?_
      refine Wl.pure (PR.moveL rfl) ?_
      refine Wl.on rfl rfl ?_
      refine Wl.pure (PR.lenL tS_34 rfl) ?_
      refine Wl.on rfl rfl ?_
      refine Wl.pure (PR.fieldAddr tF_62_0 rfl) ?_
      refine Wl.on rfl rfl ?_
      refine Wl.load (i := 6) st tA_22 rfl rfl (rfl) ?_
      refine Wl.on rfl rfl ?_
      refine Wl.pure (PR.conv (n := ((s__6 : Nat) : Int)) tI_3 rfl (by simp only [fitI]; omega) Try.underlying22) ?_
      refine Wl.on rfl rfl ?_
      refine Wl.pure (PR.neqS (a := ((s__6 : Nat) : Int)) rfl rfl) ?_
      refine Wl.pure (PR.pickFB rfl rfl) ?_
      refine Wl.pure (PR.moveB rfl) ?_
      refine Wl.on rfl rfl ?_
      refine Wl.pure (PR.moveI rfl) ?_
      refine Wl.on rfl rfl ?_
      refine Wl.pure (PR.neqS (a := 0) rfl rfl) ?_
      refine Wl.pure (PR.pickFB rfl rfl) ?_
      refine Wl.pure (PR.moveB rfl) ?_
      refine Wl.on rfl rfl ?_
      refine Wl.pure (PR.moveL rfl) ?_
      refine Wl.on rfl rfl ?_
      refine Wl.pure (PR.lenL tS_44 rfl) ?_
      refine Wl.on rfl rfl ?_
      refine Wl.pure (PR.neq (a := (((flN (fgQ x__21 (fun _ => ((p__7 : Nat) : Int)) (upd (dwC (shF a__8 b__9 p__18) p__7 x__21) v__29 (upd ((dwC (shF a__8 b__9 p__18) p__7 x__21) v__29) v__33 ((((dwC (shF a__8 b__9 p__18) p__7 x__21) v__29) (v__33)) ^^^ 1))) (fun j => markK x__21 ((fun _ => ((p__7 : Nat) : Int)) j) ((dwC (shF a__8 b__9 p__18) p__7 x__21) j) 64)) s__6) : Nat) : Int)) (b := 1) rfl rfl) ?_
      rw [show (!decide ((((flN (fgQ x__21 (fun _ => ((p__7 : Nat) : Int)) (upd (dwC (shF a__8 b__9 p__18) p__7 x__21) v__29 (upd ((dwC (shF a__8 b__9 p__18) p__7 x__21) v__29) v__33 ((((dwC (shF a__8 b__9 p__18) p__7 x__21) v__29) (v__33)) ^^^ 1))) (fun j => markK x__21 ((fun _ => ((p__7 : Nat) : Int)) j) ((dwC (shF a__8 b__9 p__18) p__7 x__21) j) 64)) s__6) : Nat) : Int) = 1)) = false from (congrArg (fun x : Bool => !x) (decide_eq_true (congrArg (fun x : Nat => (x : Int)) hf1)))]
      refine Wl.pure (PR.pickFB rfl rfl) ?_
      refine Wl.pure (PR.moveB rfl) ?_
      refine Wl.on rfl rfl ?_
      refine Wl.pure (PR.moveL rfl) ?_
      have hf3 : 0 < 1 := by decide
      refine Wl.on rfl rfl ?_
      refine Wl.pure (PR.idxAddrS1 (i := 0) tS_44 rfl rfl (by omega)) ?_
      refine Wl.on rfl rfl ?_
      refine Wl.load (i := 1) st tA_2 rfl rfl (app_get (arrU_get0 (by omega))) ?_
      refine Wl.on rfl rfl ?_
      refine Wl.pure (PR.moveI rfl) ?_
      refine Wl.on rfl rfl ?_
      refine Wl.pure (PR.neq (a := (((fun j => (fun z => z) (flA (fgQ x__21 (fun _ => ((p__7 : Nat) : Int)) (upd (dwC (shF a__8 b__9 p__18) p__7 x__21) v__29 (upd ((dwC (shF a__8 b__9 p__18) p__7 x__21) v__29) v__33 ((((dwC (shF a__8 b__9 p__18) p__7 x__21) v__29) (v__33)) ^^^ 1))) (fun j => markK x__21 ((fun _ => ((p__7 : Nat) : Int)) j) ((dwC (shF a__8 b__9 p__18) p__7 x__21) j) 64)) s__6 j)) (0) : Nat) : Int)) (b := ((v__29 : Nat) : Int)) rfl rfl) ?_
      rw [show (!decide ((((fun j => (fun z => z) (flA (fgQ x__21 (fun _ => ((p__7 : Nat) : Int)) (upd (dwC (shF a__8 b__9 p__18) p__7 x__21) v__29 (upd ((dwC (shF a__8 b__9 p__18) p__7 x__21) v__29) v__33 ((((dwC (shF a__8 b__9 p__18) p__7 x__21) v__29) (v__33)) ^^^ 1))) (fun j => markK x__21 ((fun _ => ((p__7 : Nat) : Int)) j) ((dwC (shF a__8 b__9 p__18) p__7 x__21) j) 64)) s__6 j)) (0) : Nat) : Int) = ((v__29 : Nat) : Int))) = false from (congrArg (fun x : Bool => !x) (decide_eq_true (congrArg (fun x : Nat => (x : Int)) hf2)))]
      refine Wl.pure (PR.pickFB rfl rfl) ?_
      refine Wl.pure (PR.moveB rfl) ?_
      refine Wl.on rfl rfl ?_
      refine Wl.pure (PR.moveI rfl) ?_
      refine Wl.on rfl rfl ?_
      refine Wl.pure (PR.neqS (a := 0) rfl rfl) ?_
      refine Wl.pure (PR.pickFB rfl rfl) ?_
      refine Wl.pure (PR.moveB rfl) ?_
      refine Wl.on rfl rfl ?_
      refine Wl.pure (PR.moveL rfl) ?_
      refine Wl.on rfl rfl ?_
      refine Wl.pure (PR.lenL tS_44 rfl) ?_
      refine Wl.on rfl rfl ?_
      refine Wl.pure (PR.neq (a := (((flN (fgQ x__21 (fun _ => ((p__7 : Nat) : Int)) (dwC (shF a__8 b__9 p__18) p__7 x__21) (fun j => markK x__21 ((fun _ => ((p__7 : Nat) : Int)) j) ((dwC (shF a__8 b__9 p__18) p__7 x__21) j) 64)) s__6) : Nat) : Int)) (b := 0) rfl rfl) ?_
      rw [show (!decide ((((flN (fgQ x__21 (fun _ => ((p__7 : Nat) : Int)) (dwC (shF a__8 b__9 p__18) p__7 x__21) (fun j => markK x__21 ((fun _ => ((p__7 : Nat) : Int)) j) ((dwC (shF a__8 b__9 p__18) p__7 x__21) j) 64)) s__6) : Nat) : Int) = 0)) = false from (congrArg (fun x : Bool => !x) (decide_eq_true (congrArg (fun x : Nat => (x : Int)) hf0)))]
      refine Wl.pure (PR.pickFB rfl rfl) ?_
      refine Wl.pure (PR.moveB rfl) ?_
      refine Wl.on rfl rfl ?_
      refine Wl.pure (PR.moveI rfl) ?_
      refine Wl.on rfl rfl ?_
      refine Wl.pure (PR.neqS (a := 0) rfl rfl) ?_
      refine Wl.pure (PR.pickFB rfl rfl) ?_
      refine Wl.pure (PR.moveB rfl) ?_
      refine Wl.on rfl rfl ?_
      refine Wl.pure (PR.moveI rfl) ?_
      refine Wl.on rfl rfl ?_
      refine Wl.pure (PR.moveL rfl) ?_
      refine Wl.on rfl rfl ?_
      refine Wl.pure (PR.idxAddrS1 (i := 0) tS_34 rfl rfl (by omega)) ?_
      refine Wl.on rfl rfl ?_
      refine Wl.load (i := 3) st tA_26 rfl rfl (app_get (arrU_get0 (by omega))) ?_
      refine Wl.on rfl rfl ?_
      refine Wl.pure (PR.neq (a := ((markK x__21 ((p__7 : Nat) : Int) ((dwC (shF a__8 b__9 p__18) p__7 x__21) 0) 64 : Nat) : Int)) (b := (((fun j => markK x__21 ((fun _ => ((p__7 : Nat) : Int)) j) ((dwC (shF a__8 b__9 p__18) p__7 x__21) j) 64) (0) : Nat) : Int)) rfl rfl) ?_
      refine Wl.pure (PR.pickFB rfl rfl) ?_
      refine Wl.nil ?_
      refine tn ?_
      refine Wc.condN (p := ((markK x__21 ((p__7 : Nat) : Int) ((dwC (shF a__8 b__9 p__18) p__7 x__21) 0) 64 : Nat) : Int) = (((fun j => markK x__21 ((fun _ => ((p__7 : Nat) : Int)) j) ((dwC (shF a__8 b__9 p__18) p__7 x__21) j) 64) (0) : Nat) : Int)) rfl (fun h40 => ?_) (fun h40 => ?_)
      · refine Wc.seq ?_
        refine Wc.region rfl ?_
        refine Wl.pure (PR.assB rfl) ?_
        refine Wl.nil ?_
        refine tn ?_
        refine Wc.ret ?_
        refine tr ?_
        refine postL.tmp rfl rfl ?_
        refine RetV.of ?_ st.below
        refine congrArg Value.bool ?_
        first | rfl | (exfalso; omega) | (simp only [*, decide_true, decide_false, Bool.not_true, Bool.not_false]; done) | (simp; omega) | (rw [Bool.eq_iff_iff]; simp; omega) | simp_all
      · refine Wc.skip ?_
        refine tn ?_
        refine Wc.seq ?_
        refine Wc.region rfl ?_
        refine Wl.pure (PR.fieldAddr tF_62_0 rfl) ?_
        refine Wl.load (i := 6) st tA_22 rfl rfl (rfl) ?_
        refine Wl.pure (PR.conv (n := ((s__6 : Nat) : Int)) tI_76 rfl (by simp only [fitI]; omega) Try.underlying22) ?_
        refine Wl.pure (PR.shl (a := 1) (n := s__6) rfl rfl (by decide)) ?_
        refine Wl.pure (PR.subU (a := ((1 <<< s__6) % 256)) (b := 1) rfl rfl (by decide) (by decide)) ?_
        refine Wl.pure (PR.assI rfl) ?_
        refine Wl.nil ?_
        refine tn ?_
        refine Wc.seq ?_
        refine Wc.region rfl ?_
        refine Wl.buildSlice (ps := []) (cs := arrU .u64 0 (fun _ => 0) ++ []) st tS_64 tZ_54 rfl rfl rfl ?_
        clear st
        intro b192 w41 st
        refine Wl.pure (PR.assL rfl) ?_
        refine Wl.nil ?_
        refine tn ?_
        refine Wc.seq ?_
        refine Wc.region rfl ?_
        refine Wl.pure (PR.assI rfl) ?_
        refine Wl.nil ?_
        refine tn ?_
        refine Wc.seq ?_
        refine Wc.seq ?_
        refine Wc.region rfl ?_
        refine Wl.pure (PR.assI rfl) ?_
        refine Wl.nil ?_
        refine tn ?_
        refine Wc.block ?_
        refine Wc.loopF (γ := Nat × Nat × (Nat → Nat) × Nat × Nat × List Value) (fun g => [(0, .slice (A0) (n0) (cp0)), (4, .bool false), (5, .pointer (some ⟨b5, 0, none⟩)), (6, .int .u64 (((p__18 : Nat) : Int))), (8, .slice (some ⟨b68, 0, none⟩) (s__6) (c68)), (23, .int .u8 (((((((1 <<< s__6) % 256) + (256 - 1)) % 256) : Nat) : Int))), (24, .slice (some ⟨g.2.2.2.1, 0, none⟩) (g.1) (g.2.2.2.2.1)), (25, .int .u64 (((g.2.1 : Nat) : Int))), (26, .int .u8 (((g.1 : Nat) : Int)))]) (fun g w_ => St [] w w_ [(g.2.2.2.1, arrU .u64 g.1 g.2.2.1 ++ g.2.2.2.2.2, 54), (b115, arrU .i64 (flN (fgQ x__21 (fun _ => ((p__7 : Nat) : Int)) (dwC (shF a__8 b__9 p__18) p__7 x__21) (fun j => markK x__21 ((fun _ => ((p__7 : Nat) : Int)) j) ((dwC (shF a__8 b__9 p__18) p__7 x__21) j) 64)) s__6) (fun j => (fun z => z) (flA (fgQ x__21 (fun _ => ((p__7 : Nat) : Int)) (dwC (shF a__8 b__9 p__18) p__7 x__21) (fun j => markK x__21 ((fun _ => ((p__7 : Nat) : Int)) j) ((dwC (shF a__8 b__9 p__18) p__7 x__21) j) 64)) s__6 j)) ++ sp115, 2), (b108, arrU .i64 (flN (fgQ x__21 (fun _ => ((p__7 : Nat) : Int)) (upd (dwC (shF a__8 b__9 p__18) p__7 x__21) v__29 (upd ((dwC (shF a__8 b__9 p__18) p__7 x__21) v__29) v__33 ((((dwC (shF a__8 b__9 p__18) p__7 x__21) v__29) (v__33)) ^^^ 1))) (fun j => markK x__21 ((fun _ => ((p__7 : Nat) : Int)) j) ((dwC (shF a__8 b__9 p__18) p__7 x__21) j) 64)) s__6) (fun j => (fun z => z) (flA (fgQ x__21 (fun _ => ((p__7 : Nat) : Int)) (upd (dwC (shF a__8 b__9 p__18) p__7 x__21) v__29 (upd ((dwC (shF a__8 b__9 p__18) p__7 x__21) v__29) v__33 ((((dwC (shF a__8 b__9 p__18) p__7 x__21) v__29) (v__33)) ^^^ 1))) (fun j => markK x__21 ((fun _ => ((p__7 : Nat) : Int)) j) ((dwC (shF a__8 b__9 p__18) p__7 x__21) j) 64)) s__6 j)) ++ sp108, 2), (b86, layS s__6 (fun _ => ((p__7 : Nat) : Int)) (upd (dwC (shF a__8 b__9 p__18) p__7 x__21) v__29 (upd ((dwC (shF a__8 b__9 p__18) p__7 x__21) v__29) v__33 ((((dwC (shF a__8 b__9 p__18) p__7 x__21) v__29) (v__33)) ^^^ 1))) ++ sp86, 29), (b81, arrU .u32 s__6 (fun j => markK x__21 ((fun _ => ((p__7 : Nat) : Int)) j) ((dwC (shF a__8 b__9 p__18) p__7 x__21) j) 64) ++ sp81, 26), (b75, arrU .u32 s__6 (fun j => markK x__21 ((fun _ => ((p__7 : Nat) : Int)) j) ((dwC (shF a__8 b__9 p__18) p__7 x__21) j) 64) ++ sp75, 26), (b68, layS s__6 (fun _ => ((p__7 : Nat) : Int)) (dwC (shF a__8 b__9 p__18) p__7 x__21) ++ sp68, 29), (b5, schV ((s__6 : Nat) : Int) ((p__7 : Nat) : Int) (a__8) (b__9), 62)] ∧ (g.1 ≤ s__6) ∧ (g.1 < 256) ∧ (g.2.1 = orA g.2.2.1 g.1) ∧ (g.2.1 < 18446744073709551616) ∧ (∀ j, g.2.2.1 j < 18446744073709551616) ∧ (g.1 ≤ g.2.2.2.2.1) ∧ (g.2.2.2.2.2.length = (g.2.2.2.2.1 - g.1) * 1)) (fun g => s__6 - g.1) ?_ ?_
        · exact ⟨(0, 0, (fun _ => 0), b192, 0, []), (.cons rfl (.cons rfl (.cons rfl (.cons rfl (.cons rfl (.cons rfl (.cons rfl (.cons rfl (.cons rfl (.nil _)))))))))), st, (by first | omega | (dsimp only; omega)), (show (0 : Nat) < 256 by decide), rfl, (show (0 : Nat) < 18446744073709551616 by decide), (fun _ => show (0 : Nat) < 18446744073709551616 by decide), (Nat.le_refl _), rfl⟩
        clear st
        rintro ⟨k, v, e, b_o, c_o, sp_o⟩ w42 ⟨st, hk, hkb, hv, hvb, heb, hc_o, hs_o⟩
        try dsimp only at st hk hkb hv hvb heb hc_o hs_o ⊢
        refine Wc.seq ?_
        refine Wc.seq ?_
        refine Wc.region rfl ?_
        refine Wl.pure (PR.moveI rfl) ?_
        refine Wl.pure (PR.fieldAddr tF_62_0 rfl) ?_
        refine Wl.load (i := 7) st tA_22 rfl rfl (rfl) ?_
        refine Wl.pure (PR.conv (n := ((s__6 : Nat) : Int)) tI_5 rfl (by simp only [fitI]; omega) Try.underlying22) ?_
        refine Wl.pure (PR.lss (a := ((k : Nat) : Int)) (b := ((s__6 : Nat) : Int)) rfl rfl) ?_
        refine Wl.nil ?_
        refine tn ?_
        refine Wc.condD (p := ((k : Nat) : Int) < ((s__6 : Nat) : Int)) rfl (fun h43 => ?_) (fun h43 => ?_)
        · refine Wc.skip ?_
          refine tn ?_
          refine Wc.seq ?_
          refine Wc.block ?_
          refine Wc.seq ?_
          refine Wc.region rfl ?_
          refine Wl.pure (PR.moveI rfl) ?_
          refine Wl.buildSlice (ps := [(0, .int .u8 (((k : Nat) : Int))), (1, .int .u8 (9))]) (cs := arrU .u8 2 (fun z_ => [k, 9].getD z_ 0)) st tS_68 tZ_5 rfl rfl rfl ?_
          clear st
          intro b201 w44 st
          refine Wl.pure (PR.moveL rfl) ?_
          replace st : St [] w w44 [(b201, arrU .u8 2 (fun z_ => [k, 9].getD z_ 0) ++ [], 5), (b_o, arrU .u64 k e ++ sp_o, 54), (b115, arrU .i64 (flN (fgQ x__21 (fun _ => ((p__7 : Nat) : Int)) (dwC (shF a__8 b__9 p__18) p__7 x__21) (fun j => markK x__21 ((fun _ => ((p__7 : Nat) : Int)) j) ((dwC (shF a__8 b__9 p__18) p__7 x__21) j) 64)) s__6) (fun j => (fun z => z) (flA (fgQ x__21 (fun _ => ((p__7 : Nat) : Int)) (dwC (shF a__8 b__9 p__18) p__7 x__21) (fun j => markK x__21 ((fun _ => ((p__7 : Nat) : Int)) j) ((dwC (shF a__8 b__9 p__18) p__7 x__21) j) 64)) s__6 j)) ++ sp115, 2), (b108, arrU .i64 (flN (fgQ x__21 (fun _ => ((p__7 : Nat) : Int)) (upd (dwC (shF a__8 b__9 p__18) p__7 x__21) v__29 (upd ((dwC (shF a__8 b__9 p__18) p__7 x__21) v__29) v__33 ((((dwC (shF a__8 b__9 p__18) p__7 x__21) v__29) (v__33)) ^^^ 1))) (fun j => markK x__21 ((fun _ => ((p__7 : Nat) : Int)) j) ((dwC (shF a__8 b__9 p__18) p__7 x__21) j) 64)) s__6) (fun j => (fun z => z) (flA (fgQ x__21 (fun _ => ((p__7 : Nat) : Int)) (upd (dwC (shF a__8 b__9 p__18) p__7 x__21) v__29 (upd ((dwC (shF a__8 b__9 p__18) p__7 x__21) v__29) v__33 ((((dwC (shF a__8 b__9 p__18) p__7 x__21) v__29) (v__33)) ^^^ 1))) (fun j => markK x__21 ((fun _ => ((p__7 : Nat) : Int)) j) ((dwC (shF a__8 b__9 p__18) p__7 x__21) j) 64)) s__6 j)) ++ sp108, 2), (b86, layS s__6 (fun _ => ((p__7 : Nat) : Int)) (upd (dwC (shF a__8 b__9 p__18) p__7 x__21) v__29 (upd ((dwC (shF a__8 b__9 p__18) p__7 x__21) v__29) v__33 ((((dwC (shF a__8 b__9 p__18) p__7 x__21) v__29) (v__33)) ^^^ 1))) ++ sp86, 29), (b81, arrU .u32 s__6 (fun j => markK x__21 ((fun _ => ((p__7 : Nat) : Int)) j) ((dwC (shF a__8 b__9 p__18) p__7 x__21) j) 64) ++ sp81, 26), (b75, arrU .u32 s__6 (fun j => markK x__21 ((fun _ => ((p__7 : Nat) : Int)) j) ((dwC (shF a__8 b__9 p__18) p__7 x__21) j) 64) ++ sp75, 26), (b68, layS s__6 (fun _ => ((p__7 : Nat) : Int)) (dwC (shF a__8 b__9 p__18) p__7 x__21) ++ sp68, 29), (b5, schV ((s__6 : Nat) : Int) ((p__7 : Nat) : Int) (a__8) (b__9), 62)] := st.nilat (i := 0) rfl
          refine Wl.append (n := 2) (c := 2) (m := n0) (cs := arrU .u8 2 (fun z_ => [k, 9].getD z_ 0)) (sp := []) (vs := arrU .u8 n0 c0) (i := 0) st tS_68 tZ_5 rfl rfl rfl (by rw [(arrU_len _), Nat.mul_one]) (by simp) (Nat.le_refl _) rfl (Src.ofRdS' (tyS_und tS_68) (hR0.st st) (by rw [(arrU_len _), Nat.mul_one]) (arrU_one _)) (by omega) (by omega) ?_
          clear st
          intro b203 c203 sp203 w45 hc203 hs203 st
          rw [arrU_app] at st
          replace st : St [] w w45 [(b203, arrU .u8 (2 + n0) (apF 2 (fun z_ => [k, 9].getD z_ 0) c0) ++ sp203, 5), (b_o, arrU .u64 k e ++ sp_o, 54), (b115, arrU .i64 (flN (fgQ x__21 (fun _ => ((p__7 : Nat) : Int)) (dwC (shF a__8 b__9 p__18) p__7 x__21) (fun j => markK x__21 ((fun _ => ((p__7 : Nat) : Int)) j) ((dwC (shF a__8 b__9 p__18) p__7 x__21) j) 64)) s__6) (fun j => (fun z => z) (flA (fgQ x__21 (fun _ => ((p__7 : Nat) : Int)) (dwC (shF a__8 b__9 p__18) p__7 x__21) (fun j => markK x__21 ((fun _ => ((p__7 : Nat) : Int)) j) ((dwC (shF a__8 b__9 p__18) p__7 x__21) j) 64)) s__6 j)) ++ sp115, 2), (b108, arrU .i64 (flN (fgQ x__21 (fun _ => ((p__7 : Nat) : Int)) (upd (dwC (shF a__8 b__9 p__18) p__7 x__21) v__29 (upd ((dwC (shF a__8 b__9 p__18) p__7 x__21) v__29) v__33 ((((dwC (shF a__8 b__9 p__18) p__7 x__21) v__29) (v__33)) ^^^ 1))) (fun j => markK x__21 ((fun _ => ((p__7 : Nat) : Int)) j) ((dwC (shF a__8 b__9 p__18) p__7 x__21) j) 64)) s__6) (fun j => (fun z => z) (flA (fgQ x__21 (fun _ => ((p__7 : Nat) : Int)) (upd (dwC (shF a__8 b__9 p__18) p__7 x__21) v__29 (upd ((dwC (shF a__8 b__9 p__18) p__7 x__21) v__29) v__33 ((((dwC (shF a__8 b__9 p__18) p__7 x__21) v__29) (v__33)) ^^^ 1))) (fun j => markK x__21 ((fun _ => ((p__7 : Nat) : Int)) j) ((dwC (shF a__8 b__9 p__18) p__7 x__21) j) 64)) s__6 j)) ++ sp108, 2), (b86, layS s__6 (fun _ => ((p__7 : Nat) : Int)) (upd (dwC (shF a__8 b__9 p__18) p__7 x__21) v__29 (upd ((dwC (shF a__8 b__9 p__18) p__7 x__21) v__29) v__33 ((((dwC (shF a__8 b__9 p__18) p__7 x__21) v__29) (v__33)) ^^^ 1))) ++ sp86, 29), (b81, arrU .u32 s__6 (fun j => markK x__21 ((fun _ => ((p__7 : Nat) : Int)) j) ((dwC (shF a__8 b__9 p__18) p__7 x__21) j) 64) ++ sp81, 26), (b75, arrU .u32 s__6 (fun j => markK x__21 ((fun _ => ((p__7 : Nat) : Int)) j) ((dwC (shF a__8 b__9 p__18) p__7 x__21) j) 64) ++ sp75, 26), (b68, layS s__6 (fun _ => ((p__7 : Nat) : Int)) (dwC (shF a__8 b__9 p__18) p__7 x__21) ++ sp68, 29), (b5, schV ((s__6 : Nat) : Int) ((p__7 : Nat) : Int) (a__8) (b__9), 62)] := st
          refine Wl.callXE [] st (c_spec_P6Picture (A := some ⟨b203, 0, none⟩) (n := 2 + n0) (cp := c203) (c := (apF 2 (fun z_ => [k, 9].getD z_ 0) c0)) ((st.rdA (i := 0) (n := (2 + n0)) rfl (app_all (arrU_len _))).sl) (apF_lt (nat_lt2 hkb (by decide)) hc0)) rfl rfl ?_
          clear st
          rintro p__47 hx_48 w46 st
          try dsimp only at st hx_48
          replace st : St [] w w46 [(b203, arrU .u8 (2 + n0) (apF 2 (fun z_ => [k, 9].getD z_ 0) c0) ++ sp203, 5), (b_o, arrU .u64 k e ++ sp_o, 54), (b115, arrU .i64 (flN (fgQ x__21 (fun _ => ((p__7 : Nat) : Int)) (dwC (shF a__8 b__9 p__18) p__7 x__21) (fun j => markK x__21 ((fun _ => ((p__7 : Nat) : Int)) j) ((dwC (shF a__8 b__9 p__18) p__7 x__21) j) 64)) s__6) (fun j => (fun z => z) (flA (fgQ x__21 (fun _ => ((p__7 : Nat) : Int)) (dwC (shF a__8 b__9 p__18) p__7 x__21) (fun j => markK x__21 ((fun _ => ((p__7 : Nat) : Int)) j) ((dwC (shF a__8 b__9 p__18) p__7 x__21) j) 64)) s__6 j)) ++ sp115, 2), (b108, arrU .i64 (flN (fgQ x__21 (fun _ => ((p__7 : Nat) : Int)) (upd (dwC (shF a__8 b__9 p__18) p__7 x__21) v__29 (upd ((dwC (shF a__8 b__9 p__18) p__7 x__21) v__29) v__33 ((((dwC (shF a__8 b__9 p__18) p__7 x__21) v__29) (v__33)) ^^^ 1))) (fun j => markK x__21 ((fun _ => ((p__7 : Nat) : Int)) j) ((dwC (shF a__8 b__9 p__18) p__7 x__21) j) 64)) s__6) (fun j => (fun z => z) (flA (fgQ x__21 (fun _ => ((p__7 : Nat) : Int)) (upd (dwC (shF a__8 b__9 p__18) p__7 x__21) v__29 (upd ((dwC (shF a__8 b__9 p__18) p__7 x__21) v__29) v__33 ((((dwC (shF a__8 b__9 p__18) p__7 x__21) v__29) (v__33)) ^^^ 1))) (fun j => markK x__21 ((fun _ => ((p__7 : Nat) : Int)) j) ((dwC (shF a__8 b__9 p__18) p__7 x__21) j) 64)) s__6 j)) ++ sp108, 2), (b86, layS s__6 (fun _ => ((p__7 : Nat) : Int)) (upd (dwC (shF a__8 b__9 p__18) p__7 x__21) v__29 (upd ((dwC (shF a__8 b__9 p__18) p__7 x__21) v__29) v__33 ((((dwC (shF a__8 b__9 p__18) p__7 x__21) v__29) (v__33)) ^^^ 1))) ++ sp86, 29), (b81, arrU .u32 s__6 (fun j => markK x__21 ((fun _ => ((p__7 : Nat) : Int)) j) ((dwC (shF a__8 b__9 p__18) p__7 x__21) j) 64) ++ sp81, 26), (b75, arrU .u32 s__6 (fun j => markK x__21 ((fun _ => ((p__7 : Nat) : Int)) j) ((dwC (shF a__8 b__9 p__18) p__7 x__21) j) 64) ++ sp75, 26), (b68, layS s__6 (fun _ => ((p__7 : Nat) : Int)) (dwC (shF a__8 b__9 p__18) p__7 x__21) ++ sp68, 29), (b5, schV ((s__6 : Nat) : Int) ((p__7 : Nat) : Int) (a__8) (b__9), 62)] := st
          refine Wl.pure (PR.assI rfl) ?_
          refine Wl.nil ?_
          refine tn ?_
          refine Wc.seq ?_
          refine Wc.region rfl ?_
          refine Wl.pure (PR.moveL rfl) ?_
          refine Wl.pure (PR.moveI rfl) ?_
          refine Wl.buildSlice (ps := [(0, .int .u64 (((p__47 : Nat) : Int)))]) (cs := [.int .u64 (((p__47 : Nat) : Int))]) st tS_64 tZ_54 rfl rfl rfl ?_
          clear st
          intro b207 w49 st
          refine Wl.append (n := k) (c := c_o) (m := 1) (cs := arrU .u64 k e) (sp := sp_o) (vs := [.int .u64 (((p__47 : Nat) : Int))]) (i := 2) st tS_64 tZ_54 rfl rfl rfl (by rw [(arrU_len _), Nat.mul_one]) hs_o hc_o rfl (Src.ofRdA (tyS_und tS_64) (st.rdA (i := 0) (n := 1) rfl rfl) rfl (by simp [Value.oneCell'])) (by omega) (by omega) ?_
          clear st
          intro b208 c208 sp208 w50 hc208 hs208 st
          rw [arrU_snoc] at st
          replace st : St [] w w50 [(b208, arrU .u64 (k + 1) (upd e k p__47) ++ sp208, 54), (b207, [.int .u64 (((p__47 : Nat) : Int))], 54), (b203, arrU .u8 (2 + n0) (apF 2 (fun z_ => [k, 9].getD z_ 0) c0) ++ sp203, 5), (b115, arrU .i64 (flN (fgQ x__21 (fun _ => ((p__7 : Nat) : Int)) (dwC (shF a__8 b__9 p__18) p__7 x__21) (fun j => markK x__21 ((fun _ => ((p__7 : Nat) : Int)) j) ((dwC (shF a__8 b__9 p__18) p__7 x__21) j) 64)) s__6) (fun j => (fun z => z) (flA (fgQ x__21 (fun _ => ((p__7 : Nat) : Int)) (dwC (shF a__8 b__9 p__18) p__7 x__21) (fun j => markK x__21 ((fun _ => ((p__7 : Nat) : Int)) j) ((dwC (shF a__8 b__9 p__18) p__7 x__21) j) 64)) s__6 j)) ++ sp115, 2), (b108, arrU .i64 (flN (fgQ x__21 (fun _ => ((p__7 : Nat) : Int)) (upd (dwC (shF a__8 b__9 p__18) p__7 x__21) v__29 (upd ((dwC (shF a__8 b__9 p__18) p__7 x__21) v__29) v__33 ((((dwC (shF a__8 b__9 p__18) p__7 x__21) v__29) (v__33)) ^^^ 1))) (fun j => markK x__21 ((fun _ => ((p__7 : Nat) : Int)) j) ((dwC (shF a__8 b__9 p__18) p__7 x__21) j) 64)) s__6) (fun j => (fun z => z) (flA (fgQ x__21 (fun _ => ((p__7 : Nat) : Int)) (upd (dwC (shF a__8 b__9 p__18) p__7 x__21) v__29 (upd ((dwC (shF a__8 b__9 p__18) p__7 x__21) v__29) v__33 ((((dwC (shF a__8 b__9 p__18) p__7 x__21) v__29) (v__33)) ^^^ 1))) (fun j => markK x__21 ((fun _ => ((p__7 : Nat) : Int)) j) ((dwC (shF a__8 b__9 p__18) p__7 x__21) j) 64)) s__6 j)) ++ sp108, 2), (b86, layS s__6 (fun _ => ((p__7 : Nat) : Int)) (upd (dwC (shF a__8 b__9 p__18) p__7 x__21) v__29 (upd ((dwC (shF a__8 b__9 p__18) p__7 x__21) v__29) v__33 ((((dwC (shF a__8 b__9 p__18) p__7 x__21) v__29) (v__33)) ^^^ 1))) ++ sp86, 29), (b81, arrU .u32 s__6 (fun j => markK x__21 ((fun _ => ((p__7 : Nat) : Int)) j) ((dwC (shF a__8 b__9 p__18) p__7 x__21) j) 64) ++ sp81, 26), (b75, arrU .u32 s__6 (fun j => markK x__21 ((fun _ => ((p__7 : Nat) : Int)) j) ((dwC (shF a__8 b__9 p__18) p__7 x__21) j) 64) ++ sp75, 26), (b68, layS s__6 (fun _ => ((p__7 : Nat) : Int)) (dwC (shF a__8 b__9 p__18) p__7 x__21) ++ sp68, 29), (b5, schV ((s__6 : Nat) : Int) ((p__7 : Nat) : Int) (a__8) (b__9), 62)] := st
          refine Wl.pure (PR.assL rfl) ?_
          refine Wl.nil ?_
          refine tn ?_
          refine Wc.region rfl ?_
          refine Wl.pure (PR.moveI rfl) ?_
          refine Wl.pure (PR.moveI rfl) ?_
          refine Wl.pure (PR.or (a := v) (b := p__47) rfl rfl (by decide) hvb (by first | assumption | omega)) ?_
          refine Wl.pure (PR.assI rfl) ?_
          refine Wl.nil ?_
          refine bn ?_
          refine tn ?_
          refine Wc.region rfl ?_
          refine Wl.pure (PR.moveI rfl) ?_
          refine Wl.pure (PR.add (a := ((k : Nat) : Int)) (b := 1) rfl rfl (by simp only [fitI]; omega)) ?_
          refine Wl.pure (PR.assI rfl) ?_
          refine Wl.nil ?_
          refine tn ?_
          replace st : St [] w w50 [(b208, arrU .u64 (k + 1) (upd e k p__47) ++ sp208, 54), (b115, arrU .i64 (flN (fgQ x__21 (fun _ => ((p__7 : Nat) : Int)) (dwC (shF a__8 b__9 p__18) p__7 x__21) (fun j => markK x__21 ((fun _ => ((p__7 : Nat) : Int)) j) ((dwC (shF a__8 b__9 p__18) p__7 x__21) j) 64)) s__6) (fun j => (fun z => z) (flA (fgQ x__21 (fun _ => ((p__7 : Nat) : Int)) (dwC (shF a__8 b__9 p__18) p__7 x__21) (fun j => markK x__21 ((fun _ => ((p__7 : Nat) : Int)) j) ((dwC (shF a__8 b__9 p__18) p__7 x__21) j) 64)) s__6 j)) ++ sp115, 2), (b108, arrU .i64 (flN (fgQ x__21 (fun _ => ((p__7 : Nat) : Int)) (upd (dwC (shF a__8 b__9 p__18) p__7 x__21) v__29 (upd ((dwC (shF a__8 b__9 p__18) p__7 x__21) v__29) v__33 ((((dwC (shF a__8 b__9 p__18) p__7 x__21) v__29) (v__33)) ^^^ 1))) (fun j => markK x__21 ((fun _ => ((p__7 : Nat) : Int)) j) ((dwC (shF a__8 b__9 p__18) p__7 x__21) j) 64)) s__6) (fun j => (fun z => z) (flA (fgQ x__21 (fun _ => ((p__7 : Nat) : Int)) (upd (dwC (shF a__8 b__9 p__18) p__7 x__21) v__29 (upd ((dwC (shF a__8 b__9 p__18) p__7 x__21) v__29) v__33 ((((dwC (shF a__8 b__9 p__18) p__7 x__21) v__29) (v__33)) ^^^ 1))) (fun j => markK x__21 ((fun _ => ((p__7 : Nat) : Int)) j) ((dwC (shF a__8 b__9 p__18) p__7 x__21) j) 64)) s__6 j)) ++ sp108, 2), (b86, layS s__6 (fun _ => ((p__7 : Nat) : Int)) (upd (dwC (shF a__8 b__9 p__18) p__7 x__21) v__29 (upd ((dwC (shF a__8 b__9 p__18) p__7 x__21) v__29) v__33 ((((dwC (shF a__8 b__9 p__18) p__7 x__21) v__29) (v__33)) ^^^ 1))) ++ sp86, 29), (b81, arrU .u32 s__6 (fun j => markK x__21 ((fun _ => ((p__7 : Nat) : Int)) j) ((dwC (shF a__8 b__9 p__18) p__7 x__21) j) 64) ++ sp81, 26), (b75, arrU .u32 s__6 (fun j => markK x__21 ((fun _ => ((p__7 : Nat) : Int)) j) ((dwC (shF a__8 b__9 p__18) p__7 x__21) j) 64) ++ sp75, 26), (b68, layS s__6 (fun _ => ((p__7 : Nat) : Int)) (dwC (shF a__8 b__9 p__18) p__7 x__21) ++ sp68, 29), (b5, schV ((s__6 : Nat) : Int) ((p__7 : Nat) : Int) (a__8) (b__9), 62)] := st.pick [0, 3, 4, 5, 6, 7, 8, 9] (by decide) rfl
          exact ⟨(k + 1, (v ||| p__47), (upd e k p__47), b208, c208, sp208), (.cons rfl (.cons rfl (.cons rfl (.cons rfl (.cons rfl (.cons rfl (.cons rfl (.cons rfl (.cons rfl (.nil _)))))))))), ⟨st, (by first | omega | (dsimp only; omega)), (by omega), (orA_snoc hv), (or_lt_u64 hvb (by assumption)), (upd_lt heb (by assumption)), hc208, hs208⟩, (by first | omega | (dsimp only; omega))⟩
        · refine Wc.exit ?_
          refine tx ?_
          refine tx ?_
          refine bh ?_
          refine tn ?_
          refine Wc.seq ?_
          obtain rfl : s__6 = k := by omega
          rw [show (((((1 <<< s__6) % 256) + (256 - 1)) % 256)) = (2 ^ s__6 - 1) from (all_mask (by omega))]
          have hso : setOk ((s__6 : Nat) : Int) (2 ^ s__6 - 1) := mask_ok (by omega)
          have hrs := rs_or (a := a__8) (b := b__9) hso
          refine Wc.region rfl ?_
          refine Wl.loadA (i := 7) st tA_62 rfl rfl (all_sub schV_len) schV_len ?_
          refine Wl.pure (PR.moveL rfl) ?_
          refine Wl.pure (PR.moveI rfl) ?_
          refine Wl.pure (PR.moveL rfl) ?_
          refine Wl.callV (c_impl_ReadTorn (s := ((s__6 : Nat) : Int)) (p := ((p__7 : Nat) : Int)) (a := a__8) (b := b__9) (A := some ⟨b68, 0, none⟩) (n := s__6) (cp := c68) (y := (fun _ => ((p__7 : Nat) : Int))) (c := (dwC (shF a__8 b__9 p__18) p__7 x__21)) (x := (2 ^ s__6 - 1)) (B := some ⟨b_o, 0, none⟩) (m := s__6) (cq := c_o) (e := e) (by first | assumption | omega) (by first | assumption | omega) (by assumption) (by assumption) ((st.rdA (i := 6) (n := (s__6 * 65)) rfl (app_all (recV_len (s := 65) (layS_row _ _) _))).sl) (by assumption) (dwC_lt _ _ _) (by first | assumption | omega) (show 2 ^ s__6 - 1 < 256 by have := Nat.pow_le_pow_right (n := 2) (by decide) (show s__6 ≤ 6 by omega); omega) ((st.rdA (i := 0) (n := s__6) rfl (app_all (arrU_len _))).sl) heb (by first | assumption | omega)) rfl ?_
          intro w51 hbel
          replace st := st.call hbel
          clear hbel
          refine Wl.pure (PR.moveV (.tuple #[.int .u64 (((selN (rtC ((s__6 : Nat) : Int) ((p__7 : Nat) : Int) a__8 b__9 s__6 (fun _ => ((p__7 : Nat) : Int)) (dwC (shF a__8 b__9 p__18) p__7 x__21) (2 ^ s__6 - 1) s__6) (bdiff (picT b__9 s__6 (dwC (shF a__8 b__9 p__18) p__7 x__21) (2 ^ s__6 - 1)) (orS e (2 ^ s__6 - 1) s__6)) : Nat) : Int)), .int .u64 (((selN (rtC ((s__6 : Nat) : Int) ((p__7 : Nat) : Int) a__8 b__9 s__6 (fun _ => ((p__7 : Nat) : Int)) (dwC (shF a__8 b__9 p__18) p__7 x__21) (2 ^ s__6 - 1) s__6) (orS e (2 ^ s__6 - 1) s__6) : Nat) : Int)), .int .i64 (((rtC ((s__6 : Nat) : Int) ((p__7 : Nat) : Int) a__8 b__9 s__6 (fun _ => ((p__7 : Nat) : Int)) (dwC (shF a__8 b__9 p__18) p__7 x__21) (2 ^ s__6 - 1) s__6 : Nat) : Int))]) rfl) ?_
          refine Wl.pure (PR.extr (i := 0) (vs := [.int .u64 (((selN (rtC ((s__6 : Nat) : Int) ((p__7 : Nat) : Int) a__8 b__9 s__6 (fun _ => ((p__7 : Nat) : Int)) (dwC (shF a__8 b__9 p__18) p__7 x__21) (2 ^ s__6 - 1) s__6) (bdiff (picT b__9 s__6 (dwC (shF a__8 b__9 p__18) p__7 x__21) (2 ^ s__6 - 1)) (orS e (2 ^ s__6 - 1) s__6)) : Nat) : Int)), .int .u64 (((selN (rtC ((s__6 : Nat) : Int) ((p__7 : Nat) : Int) a__8 b__9 s__6 (fun _ => ((p__7 : Nat) : Int)) (dwC (shF a__8 b__9 p__18) p__7 x__21) (2 ^ s__6 - 1) s__6) (orS e (2 ^ s__6 - 1) s__6) : Nat) : Int)), .int .i64 (((rtC ((s__6 : Nat) : Int) ((p__7 : Nat) : Int) a__8 b__9 s__6 (fun _ => ((p__7 : Nat) : Int)) (dwC (shF a__8 b__9 p__18) p__7 x__21) (2 ^ s__6 - 1) s__6 : Nat) : Int))]) rfl rfl) ?_
          refine Wl.pure (PR.extr (i := 1) (vs := [.int .u64 (((selN (rtC ((s__6 : Nat) : Int) ((p__7 : Nat) : Int) a__8 b__9 s__6 (fun _ => ((p__7 : Nat) : Int)) (dwC (shF a__8 b__9 p__18) p__7 x__21) (2 ^ s__6 - 1) s__6) (bdiff (picT b__9 s__6 (dwC (shF a__8 b__9 p__18) p__7 x__21) (2 ^ s__6 - 1)) (orS e (2 ^ s__6 - 1) s__6)) : Nat) : Int)), .int .u64 (((selN (rtC ((s__6 : Nat) : Int) ((p__7 : Nat) : Int) a__8 b__9 s__6 (fun _ => ((p__7 : Nat) : Int)) (dwC (shF a__8 b__9 p__18) p__7 x__21) (2 ^ s__6 - 1) s__6) (orS e (2 ^ s__6 - 1) s__6) : Nat) : Int)), .int .i64 (((rtC ((s__6 : Nat) : Int) ((p__7 : Nat) : Int) a__8 b__9 s__6 (fun _ => ((p__7 : Nat) : Int)) (dwC (shF a__8 b__9 p__18) p__7 x__21) (2 ^ s__6 - 1) s__6 : Nat) : Int))]) rfl rfl) ?_
          refine Wl.pure (PR.extr (i := 2) (vs := [.int .u64 (((selN (rtC ((s__6 : Nat) : Int) ((p__7 : Nat) : Int) a__8 b__9 s__6 (fun _ => ((p__7 : Nat) : Int)) (dwC (shF a__8 b__9 p__18) p__7 x__21) (2 ^ s__6 - 1) s__6) (bdiff (picT b__9 s__6 (dwC (shF a__8 b__9 p__18) p__7 x__21) (2 ^ s__6 - 1)) (orS e (2 ^ s__6 - 1) s__6)) : Nat) : Int)), .int .u64 (((selN (rtC ((s__6 : Nat) : Int) ((p__7 : Nat) : Int) a__8 b__9 s__6 (fun _ => ((p__7 : Nat) : Int)) (dwC (shF a__8 b__9 p__18) p__7 x__21) (2 ^ s__6 - 1) s__6) (orS e (2 ^ s__6 - 1) s__6) : Nat) : Int)), .int .i64 (((rtC ((s__6 : Nat) : Int) ((p__7 : Nat) : Int) a__8 b__9 s__6 (fun _ => ((p__7 : Nat) : Int)) (dwC (shF a__8 b__9 p__18) p__7 x__21) (2 ^ s__6 - 1) s__6 : Nat) : Int))]) rfl rfl) ?_
          refine Wl.pure (PR.assI rfl) ?_
          refine Wl.pure (PR.assI rfl) ?_
          refine Wl.pure (PR.assI rfl) ?_
          refine Wl.nil ?_
          refine tn ?_
          refine Wc.seq ?_
          by_cases hsee : rsC ((s__6 : Nat) : Int) a__8 b__9 (2 ^ s__6 - 1) = 0
          · refine Wc.region rfl ?_
            refine Wl.loadA (i := 7) st tA_62 rfl rfl (all_sub schV_len) schV_len ?_
            refine Wl.pure (PR.moveI rfl) ?_
            refine Wl.callV (c_spec_SeesWith (s := ((s__6 : Nat) : Int)) (p := ((p__7 : Nat) : Int)) (a := a__8) (b := b__9) (x := (2 ^ s__6 - 1)) (by first | assumption | omega) (by first | assumption | omega) (by assumption) (by assumption) (show 2 ^ s__6 - 1 < 256 by have := Nat.pow_le_pow_right (n := 2) (by decide) (show s__6 ≤ 6 by omega); omega) (by first | assumption | omega)) rfl ?_
            intro w52 hbel
            replace st := st.call hbel
            clear hbel
            refine Wl.pure (PR.moveV (.tuple #[.bool (decide (rsC ((s__6 : Nat) : Int) a__8 b__9 (2 ^ s__6 - 1) = 0)), .int .i64 (((selN (rsC ((s__6 : Nat) : Int) a__8 b__9 (2 ^ s__6 - 1)) (wt b__9 (2 ^ s__6 - 1)) : Nat) : Int)), .int .i64 (((swC ((s__6 : Nat) : Int) (2 ^ s__6 - 1) : Nat) : Int))]) rfl) ?_
            refine Wl.pure (PR.extr (i := 0) (vs := [.bool (decide (rsC ((s__6 : Nat) : Int) a__8 b__9 (2 ^ s__6 - 1) = 0)), .int .i64 (((selN (rsC ((s__6 : Nat) : Int) a__8 b__9 (2 ^ s__6 - 1)) (wt b__9 (2 ^ s__6 - 1)) : Nat) : Int)), .int .i64 (((swC ((s__6 : Nat) : Int) (2 ^ s__6 - 1) : Nat) : Int))]) rfl rfl) ?_
            refine Wl.pure (PR.extr (i := 1) (vs := [.bool (decide (rsC ((s__6 : Nat) : Int) a__8 b__9 (2 ^ s__6 - 1) = 0)), .int .i64 (((selN (rsC ((s__6 : Nat) : Int) a__8 b__9 (2 ^ s__6 - 1)) (wt b__9 (2 ^ s__6 - 1)) : Nat) : Int)), .int .i64 (((swC ((s__6 : Nat) : Int) (2 ^ s__6 - 1) : Nat) : Int))]) rfl rfl) ?_
            refine Wl.pure (PR.extr (i := 2) (vs := [.bool (decide (rsC ((s__6 : Nat) : Int) a__8 b__9 (2 ^ s__6 - 1) = 0)), .int .i64 (((selN (rsC ((s__6 : Nat) : Int) a__8 b__9 (2 ^ s__6 - 1)) (wt b__9 (2 ^ s__6 - 1)) : Nat) : Int)), .int .i64 (((swC ((s__6 : Nat) : Int) (2 ^ s__6 - 1) : Nat) : Int))]) rfl rfl) ?_
            refine Wl.pure (PR.assB rfl) ?_
            refine Wl.pure (PR.assI rfl) ?_
            refine Wl.pure (PR.assI rfl) ?_
            refine Wl.nil ?_
            refine tn ?_
            refine Wc.seq ?_
            refine Wc.seq ?_
            have hrt : rtC ((s__6 : Nat) : Int) ((p__7 : Nat) : Int) a__8 b__9 s__6 (fun _ => ((p__7 : Nat) : Int)) (dwC (shF a__8 b__9 p__18) p__7 x__21) (2 ^ s__6 - 1) s__6 = rsC ((s__6 : Nat) : Int) a__8 b__9 (2 ^ s__6 - 1) := rt_all hb0 rfl
            rw [show (selN (rtC ((s__6 : Nat) : Int) ((p__7 : Nat) : Int) a__8 b__9 s__6 (fun _ => ((p__7 : Nat) : Int)) (dwC (shF a__8 b__9 p__18) p__7 x__21) (2 ^ s__6 - 1) s__6) (bdiff (picT b__9 s__6 (dwC (shF a__8 b__9 p__18) p__7 x__21) (2 ^ s__6 - 1)) (orS e (2 ^ s__6 - 1) s__6))) = (bdiff p__18 v) from ((selN_0 (hrt.trans hsee)).trans (by rw [torn_pic (by omega) hok9 (by assumption) (rsC_spec hsee).2, orS_all s__6 (Nat.le_refl _), ← hv]))]
            rw [show (selN (rtC ((s__6 : Nat) : Int) ((p__7 : Nat) : Int) a__8 b__9 s__6 (fun _ => ((p__7 : Nat) : Int)) (dwC (shF a__8 b__9 p__18) p__7 x__21) (2 ^ s__6 - 1) s__6) (orS e (2 ^ s__6 - 1) s__6)) = v from ((selN_0 (hrt.trans hsee)).trans ((orS_all s__6 (Nat.le_refl _)).trans hv.symm))]
            rw [show (rtC ((s__6 : Nat) : Int) ((p__7 : Nat) : Int) a__8 b__9 s__6 (fun _ => ((p__7 : Nat) : Int)) (dwC (shF a__8 b__9 p__18) p__7 x__21) (2 ^ s__6 - 1) s__6) = 0 from (hrt.trans hsee)]
            rw [show (decide (rsC ((s__6 : Nat) : Int) a__8 b__9 (2 ^ s__6 - 1) = 0)) = true from decide_eq_true hsee]
            rw [show (swC ((s__6 : Nat) : Int) (2 ^ s__6 - 1)) = 0 from (swC_0 hso)]
            refine Wc.region rfl ?_
            refine Wl.pure (PR.moveI rfl) ?_
            refine Wl.pure (PR.neqS (a := 0) rfl rfl) ?_
            refine Wl.pure (PR.moveB rfl) ?_
            refine Wl.on rfl rfl ?_
            refine Wl.pure (PR.moveI rfl) ?_
            refine Wl.on rfl rfl ?_
            refine Wl.pure (PR.eqlS (a := 0) rfl rfl) ?_
            refine Wl.on rfl rfl ?_
            refine Wl.pure (PR.moveB rfl) ?_
            refine Wl.on rfl rfl ?_
            refine Wl.pure (PR.neqB (a := true) (b := true) Try.underlying4 rfl rfl) ?_
            refine Wl.pure (PR.pickFB rfl rfl) ?_
            refine Wl.pure (PR.moveB rfl) ?_
            refine Wl.splitB (b := (!((true == true)))) rfl rfl (fun h53 => ?_) (fun h53 => ?_)
            · simp only [Bool.not_eq_true', Bool.not_eq_false', Bool.not_true, Bool.not_false] at h53
              refine Wl.pure (PR.moveB rfl) ?_
              refine Wl.on rfl rfl ?_
              refine Wl.pure (PR.not_ rfl) ?_
              refine Wl.on rfl rfl ?_
              refine Wl.pure (PR.moveB rfl) ?_
              refine Wl.off rfl rfl rfl ?_
              refine Wl.off rfl rfl rfl ?_
              refine Wl.on rfl rfl ?_
              refine Wl.pure (PR.pickFB rfl rfl) ?_
              refine Wl.pure (PR.pickFB rfl rfl) ?_
              refine Wl.pure (PR.moveB rfl) ?_
              refine Wl.on rfl rfl ?_
              refine Wl.pure (PR.moveB rfl) ?_
              refine Wl.on rfl rfl ?_
              refine Wl.pure (PR.moveB rfl) ?_
              refine Wl.on rfl rfl ?_
              refine Wl.pure (PR.moveI rfl) ?_
              refine Wl.on rfl rfl ?_
              refine Wl.pure (PR.moveI rfl) ?_
              refine Wl.on rfl rfl ?_
              refine Wl.pure (PR.neqS (a := ((v : Nat) : Int)) rfl rfl) ?_
              refine Wl.on rfl rfl ?_
              refine Wl.pure (PR.moveB rfl) ?_
              refine Wl.on rfl rfl ?_
              refine Wl.pure (PR.moveI rfl) ?_
              refine Wl.on rfl rfl ?_
              refine Wl.pure (PR.moveI rfl) ?_
              refine Wl.on rfl rfl ?_
              refine Wl.pure (PR.moveI rfl) ?_
              refine Wl.on rfl rfl ?_
              refine Wl.pure (PR.andNot (a := p__18) (b := v) rfl rfl (by decide) (by first | assumption | omega) hvb) ?_
              refine Wl.on rfl rfl ?_
              refine Wl.pure (PR.neqS (a := (((bdiff p__18 v) : Nat) : Int)) rfl rfl) ?_
              refine Wl.on rfl rfl ?_
              refine Wl.pure (PR.pickFB rfl rfl) ?_
              refine Wl.on rfl rfl ?_
              refine Wl.pure (PR.pickTB rfl rfl) ?_
              refine Wl.pure (PR.pickFB rfl rfl) ?_
              refine Wl.nil ?_
              refine tn ?_
              refine Wc.condF rfl ?_
              refine Wc.skip ?_
              refine tn ?_
              refine Wc.seq ?_
              refine Wc.seq ?_
              refine Wc.region rfl ?_
              refine Wl.pure (PR.moveL rfl) ?_
              refine Wl.pure (PR.lenL tS_37 rfl) ?_
              refine Wl.pure (PR.lss (a := ((s__6 : Nat) : Int)) (b := 2) rfl rfl) ?_
              refine Wl.nil ?_
              refine tn ?_
              refine Wc.condD (p := ((s__6 : Nat) : Int) < 2) rfl (fun h54 => ?_) (fun h54 => ?_)
              · refine Wc.seq ?_
                refine Wc.region rfl ?_
                refine Wl.pure (PR.assB rfl) ?_
                refine Wl.nil ?_
                refine tn ?_
                refine Wc.ret ?_
                refine tr ?_
                refine postL.tmp rfl rfl ?_
                exact RetV.of rfl st.below
              · refine Wc.skip ?_
                refine tn ?_
                refine Wc.seq ?_
                have hl0 : layOk ((p__7 : Nat) : Int) ((dwC (shF a__8 b__9 p__18) p__7 x__21) 0) = true := layOk_iffN.2 ⟨by omega, hC0 0 (by omega)⟩
                have hl1 : layOk ((p__7 : Nat) : Int) ((dwC (shF a__8 b__9 p__18) p__7 x__21) 1) = true := layOk_iffN.2 ⟨by omega, hC0 1 (by omega)⟩
                refine Wc.quiet hmix (by kernel_rfl) rfl ?_
                refine Wq.pure (PR.moveL rfl) ?_
                refine Wq.pure (PR.idxAddrS (i := 0) tS_37 rfl rfl (by omega)) ?_
                refine Wq.loadA (i := 6) (vs := layV ((fun _ => ((p__7 : Nat) : Int)) 0) (((dwC (shF a__8 b__9 p__18) p__7 x__21) 0))) st tA_29 rfl rfl (app_sub (recV_sub0 (n := s__6) (i := 0) (layS_row _ _) (by omega)) (recV_tot (n := s__6) (i := 0) (layS_row _ _) (by omega))) layV_len ?_
                refine Wq.pure (PR.moveL rfl) ?_
                refine Wq.pure (PR.idxAddrS (i := 1) tS_37 rfl rfl (by omega)) ?_
                refine Wq.loadA (i := 6) (vs := layV ((fun _ => ((p__7 : Nat) : Int)) 1) (((dwC (shF a__8 b__9 p__18) p__7 x__21) 1))) st tA_29 rfl rfl (app_sub (recV_sub0 (n := s__6) (i := 1) (layS_row _ _) (by omega)) (recV_tot (n := s__6) (i := 1) (layS_row _ _) (by omega))) layV_len ?_
                refine Wq.pure (PR.moveI rfl) ?_
                refine Wq.callV (fun _ hbel => c_impl_BestShift (p := (fun _ => ((p__7 : Nat) : Int)) 0) (c := ((dwC (shF a__8 b__9 p__18) p__7 x__21) 0)) (r := (fun _ => ((p__7 : Nat) : Int)) 1) (d := ((dwC (shF a__8 b__9 p__18) p__7 x__21) 1)) (q := p__18) (by dsimp only; omega) ((dwC_lt _ _ _) 0) (by dsimp only; omega) ((dwC_lt _ _ _) 1) (by first | assumption | omega)) rfl ?_
                refine Wq.pure (PR.moveV (.tuple #[.int .i64 (selZ (bsC ((fun _ => ((p__7 : Nat) : Int)) 0) ((dwC (shF a__8 b__9 p__18) p__7 x__21) 0) ((fun _ => ((p__7 : Nat) : Int)) 1) ((dwC (shF a__8 b__9 p__18) p__7 x__21) 1) p__18) (bsF p__18 ((dwC (shF a__8 b__9 p__18) p__7 x__21) 0) ((dwC (shF a__8 b__9 p__18) p__7 x__21) 1) 25).1), .int .i64 (selZ (bsC ((fun _ => ((p__7 : Nat) : Int)) 0) ((dwC (shF a__8 b__9 p__18) p__7 x__21) 0) ((fun _ => ((p__7 : Nat) : Int)) 1) ((dwC (shF a__8 b__9 p__18) p__7 x__21) 1) p__18) (bsF p__18 ((dwC (shF a__8 b__9 p__18) p__7 x__21) 0) ((dwC (shF a__8 b__9 p__18) p__7 x__21) 1) 25).2.1), .int .i64 (selZ (bsC ((fun _ => ((p__7 : Nat) : Int)) 0) ((dwC (shF a__8 b__9 p__18) p__7 x__21) 0) ((fun _ => ((p__7 : Nat) : Int)) 1) ((dwC (shF a__8 b__9 p__18) p__7 x__21) 1) p__18) (bsF p__18 ((dwC (shF a__8 b__9 p__18) p__7 x__21) 0) ((dwC (shF a__8 b__9 p__18) p__7 x__21) 1) 25).2.2), .int .i64 (((bsC ((fun _ => ((p__7 : Nat) : Int)) 0) ((dwC (shF a__8 b__9 p__18) p__7 x__21) 0) ((fun _ => ((p__7 : Nat) : Int)) 1) ((dwC (shF a__8 b__9 p__18) p__7 x__21) 1) p__18 : Nat) : Int))]) rfl) ?_
                refine Wq.pure (PR.extr (i := 0) (vs := [.int .i64 (selZ (bsC ((fun _ => ((p__7 : Nat) : Int)) 0) ((dwC (shF a__8 b__9 p__18) p__7 x__21) 0) ((fun _ => ((p__7 : Nat) : Int)) 1) ((dwC (shF a__8 b__9 p__18) p__7 x__21) 1) p__18) (bsF p__18 ((dwC (shF a__8 b__9 p__18) p__7 x__21) 0) ((dwC (shF a__8 b__9 p__18) p__7 x__21) 1) 25).1), .int .i64 (selZ (bsC ((fun _ => ((p__7 : Nat) : Int)) 0) ((dwC (shF a__8 b__9 p__18) p__7 x__21) 0) ((fun _ => ((p__7 : Nat) : Int)) 1) ((dwC (shF a__8 b__9 p__18) p__7 x__21) 1) p__18) (bsF p__18 ((dwC (shF a__8 b__9 p__18) p__7 x__21) 0) ((dwC (shF a__8 b__9 p__18) p__7 x__21) 1) 25).2.1), .int .i64 (selZ (bsC ((fun _ => ((p__7 : Nat) : Int)) 0) ((dwC (shF a__8 b__9 p__18) p__7 x__21) 0) ((fun _ => ((p__7 : Nat) : Int)) 1) ((dwC (shF a__8 b__9 p__18) p__7 x__21) 1) p__18) (bsF p__18 ((dwC (shF a__8 b__9 p__18) p__7 x__21) 0) ((dwC (shF a__8 b__9 p__18) p__7 x__21) 1) 25).2.2), .int .i64 (((bsC ((fun _ => ((p__7 : Nat) : Int)) 0) ((dwC (shF a__8 b__9 p__18) p__7 x__21) 0) ((fun _ => ((p__7 : Nat) : Int)) 1) ((dwC (shF a__8 b__9 p__18) p__7 x__21) 1) p__18 : Nat) : Int))]) rfl rfl) ?_
                refine Wq.pure (PR.extr (i := 1) (vs := [.int .i64 (selZ (bsC ((fun _ => ((p__7 : Nat) : Int)) 0) ((dwC (shF a__8 b__9 p__18) p__7 x__21) 0) ((fun _ => ((p__7 : Nat) : Int)) 1) ((dwC (shF a__8 b__9 p__18) p__7 x__21) 1) p__18) (bsF p__18 ((dwC (shF a__8 b__9 p__18) p__7 x__21) 0) ((dwC (shF a__8 b__9 p__18) p__7 x__21) 1) 25).1), .int .i64 (selZ (bsC ((fun _ => ((p__7 : Nat) : Int)) 0) ((dwC (shF a__8 b__9 p__18) p__7 x__21) 0) ((fun _ => ((p__7 : Nat) : Int)) 1) ((dwC (shF a__8 b__9 p__18) p__7 x__21) 1) p__18) (bsF p__18 ((dwC (shF a__8 b__9 p__18) p__7 x__21) 0) ((dwC (shF a__8 b__9 p__18) p__7 x__21) 1) 25).2.1), .int .i64 (selZ (bsC ((fun _ => ((p__7 : Nat) : Int)) 0) ((dwC (shF a__8 b__9 p__18) p__7 x__21) 0) ((fun _ => ((p__7 : Nat) : Int)) 1) ((dwC (shF a__8 b__9 p__18) p__7 x__21) 1) p__18) (bsF p__18 ((dwC (shF a__8 b__9 p__18) p__7 x__21) 0) ((dwC (shF a__8 b__9 p__18) p__7 x__21) 1) 25).2.2), .int .i64 (((bsC ((fun _ => ((p__7 : Nat) : Int)) 0) ((dwC (shF a__8 b__9 p__18) p__7 x__21) 0) ((fun _ => ((p__7 : Nat) : Int)) 1) ((dwC (shF a__8 b__9 p__18) p__7 x__21) 1) p__18 : Nat) : Int))]) rfl rfl) ?_
                refine Wq.pure (PR.extr (i := 2) (vs := [.int .i64 (selZ (bsC ((fun _ => ((p__7 : Nat) : Int)) 0) ((dwC (shF a__8 b__9 p__18) p__7 x__21) 0) ((fun _ => ((p__7 : Nat) : Int)) 1) ((dwC (shF a__8 b__9 p__18) p__7 x__21) 1) p__18) (bsF p__18 ((dwC (shF a__8 b__9 p__18) p__7 x__21) 0) ((dwC (shF a__8 b__9 p__18) p__7 x__21) 1) 25).1), .int .i64 (selZ (bsC ((fun _ => ((p__7 : Nat) : Int)) 0) ((dwC (shF a__8 b__9 p__18) p__7 x__21) 0) ((fun _ => ((p__7 : Nat) : Int)) 1) ((dwC (shF a__8 b__9 p__18) p__7 x__21) 1) p__18) (bsF p__18 ((dwC (shF a__8 b__9 p__18) p__7 x__21) 0) ((dwC (shF a__8 b__9 p__18) p__7 x__21) 1) 25).2.1), .int .i64 (selZ (bsC ((fun _ => ((p__7 : Nat) : Int)) 0) ((dwC (shF a__8 b__9 p__18) p__7 x__21) 0) ((fun _ => ((p__7 : Nat) : Int)) 1) ((dwC (shF a__8 b__9 p__18) p__7 x__21) 1) p__18) (bsF p__18 ((dwC (shF a__8 b__9 p__18) p__7 x__21) 0) ((dwC (shF a__8 b__9 p__18) p__7 x__21) 1) 25).2.2), .int .i64 (((bsC ((fun _ => ((p__7 : Nat) : Int)) 0) ((dwC (shF a__8 b__9 p__18) p__7 x__21) 0) ((fun _ => ((p__7 : Nat) : Int)) 1) ((dwC (shF a__8 b__9 p__18) p__7 x__21) 1) p__18 : Nat) : Int))]) rfl rfl) ?_
                refine Wq.pure (PR.extr (i := 3) (vs := [.int .i64 (selZ (bsC ((fun _ => ((p__7 : Nat) : Int)) 0) ((dwC (shF a__8 b__9 p__18) p__7 x__21) 0) ((fun _ => ((p__7 : Nat) : Int)) 1) ((dwC (shF a__8 b__9 p__18) p__7 x__21) 1) p__18) (bsF p__18 ((dwC (shF a__8 b__9 p__18) p__7 x__21) 0) ((dwC (shF a__8 b__9 p__18) p__7 x__21) 1) 25).1), .int .i64 (selZ (bsC ((fun _ => ((p__7 : Nat) : Int)) 0) ((dwC (shF a__8 b__9 p__18) p__7 x__21) 0) ((fun _ => ((p__7 : Nat) : Int)) 1) ((dwC (shF a__8 b__9 p__18) p__7 x__21) 1) p__18) (bsF p__18 ((dwC (shF a__8 b__9 p__18) p__7 x__21) 0) ((dwC (shF a__8 b__9 p__18) p__7 x__21) 1) 25).2.1), .int .i64 (selZ (bsC ((fun _ => ((p__7 : Nat) : Int)) 0) ((dwC (shF a__8 b__9 p__18) p__7 x__21) 0) ((fun _ => ((p__7 : Nat) : Int)) 1) ((dwC (shF a__8 b__9 p__18) p__7 x__21) 1) p__18) (bsF p__18 ((dwC (shF a__8 b__9 p__18) p__7 x__21) 0) ((dwC (shF a__8 b__9 p__18) p__7 x__21) 1) 25).2.2), .int .i64 (((bsC ((fun _ => ((p__7 : Nat) : Int)) 0) ((dwC (shF a__8 b__9 p__18) p__7 x__21) 0) ((fun _ => ((p__7 : Nat) : Int)) 1) ((dwC (shF a__8 b__9 p__18) p__7 x__21) 1) p__18 : Nat) : Int))]) rfl rfl) ?_
                refine Wq.pure (PR.assI rfl) ?_
                refine Wq.pure (PR.assI rfl) ?_
                refine Wq.pure (PR.assI rfl) ?_
                refine Wq.pure (PR.assI rfl) ?_
                refine Wq.nil (fun w55 hbel => ?_)
                replace st := st.call hbel
                clear hbel
                refine tn ?_
                refine Wc.seq ?_
                refine Wc.quiet hmix (by kernel_rfl) rfl ?_
                refine Wq.pure (PR.moveL rfl) ?_
                refine Wq.pure (PR.idxAddrS (i := 0) tS_37 rfl rfl (by omega)) ?_
                refine Wq.loadA (i := 6) (vs := layV ((fun _ => ((p__7 : Nat) : Int)) 0) (((dwC (shF a__8 b__9 p__18) p__7 x__21) 0))) st tA_29 rfl rfl (app_sub (recV_sub0 (n := s__6) (i := 0) (layS_row _ _) (by omega)) (recV_tot (n := s__6) (i := 0) (layS_row _ _) (by omega))) layV_len ?_
                refine Wq.pure (PR.moveL rfl) ?_
                refine Wq.pure (PR.idxAddrS (i := 1) tS_37 rfl rfl (by omega)) ?_
                refine Wq.loadA (i := 6) (vs := layV ((fun _ => ((p__7 : Nat) : Int)) 1) (((dwC (shF a__8 b__9 p__18) p__7 x__21) 1))) st tA_29 rfl rfl (app_sub (recV_sub0 (n := s__6) (i := 1) (layS_row _ _) (by omega)) (recV_tot (n := s__6) (i := 1) (layS_row _ _) (by omega))) layV_len ?_
                refine Wq.pure (PR.moveI rfl) ?_
                refine Wq.callV (fun _ hbel => c_spec_BestShift (p := (fun _ => ((p__7 : Nat) : Int)) 0) (c := ((dwC (shF a__8 b__9 p__18) p__7 x__21) 0)) (r := (fun _ => ((p__7 : Nat) : Int)) 1) (d := ((dwC (shF a__8 b__9 p__18) p__7 x__21) 1)) (q := p__18) (by dsimp only; omega) ((dwC_lt _ _ _) 0) (by dsimp only; omega) ((dwC_lt _ _ _) 1) (by first | assumption | omega)) rfl ?_
                refine Wq.pure (PR.moveV (.tuple #[.int .i64 (selZ (bsC ((fun _ => ((p__7 : Nat) : Int)) 0) ((dwC (shF a__8 b__9 p__18) p__7 x__21) 0) ((fun _ => ((p__7 : Nat) : Int)) 1) ((dwC (shF a__8 b__9 p__18) p__7 x__21) 1) p__18) (bsF p__18 ((dwC (shF a__8 b__9 p__18) p__7 x__21) 0) ((dwC (shF a__8 b__9 p__18) p__7 x__21) 1) 25).1), .int .i64 (selZ (bsC ((fun _ => ((p__7 : Nat) : Int)) 0) ((dwC (shF a__8 b__9 p__18) p__7 x__21) 0) ((fun _ => ((p__7 : Nat) : Int)) 1) ((dwC (shF a__8 b__9 p__18) p__7 x__21) 1) p__18) (bsF p__18 ((dwC (shF a__8 b__9 p__18) p__7 x__21) 0) ((dwC (shF a__8 b__9 p__18) p__7 x__21) 1) 25).2.1), .int .i64 (selZ (bsC ((fun _ => ((p__7 : Nat) : Int)) 0) ((dwC (shF a__8 b__9 p__18) p__7 x__21) 0) ((fun _ => ((p__7 : Nat) : Int)) 1) ((dwC (shF a__8 b__9 p__18) p__7 x__21) 1) p__18) (bsF p__18 ((dwC (shF a__8 b__9 p__18) p__7 x__21) 0) ((dwC (shF a__8 b__9 p__18) p__7 x__21) 1) 25).2.2), .int .i64 (((bsC ((fun _ => ((p__7 : Nat) : Int)) 0) ((dwC (shF a__8 b__9 p__18) p__7 x__21) 0) ((fun _ => ((p__7 : Nat) : Int)) 1) ((dwC (shF a__8 b__9 p__18) p__7 x__21) 1) p__18 : Nat) : Int))]) rfl) ?_
                refine Wq.pure (PR.extr (i := 0) (vs := [.int .i64 (selZ (bsC ((fun _ => ((p__7 : Nat) : Int)) 0) ((dwC (shF a__8 b__9 p__18) p__7 x__21) 0) ((fun _ => ((p__7 : Nat) : Int)) 1) ((dwC (shF a__8 b__9 p__18) p__7 x__21) 1) p__18) (bsF p__18 ((dwC (shF a__8 b__9 p__18) p__7 x__21) 0) ((dwC (shF a__8 b__9 p__18) p__7 x__21) 1) 25).1), .int .i64 (selZ (bsC ((fun _ => ((p__7 : Nat) : Int)) 0) ((dwC (shF a__8 b__9 p__18) p__7 x__21) 0) ((fun _ => ((p__7 : Nat) : Int)) 1) ((dwC (shF a__8 b__9 p__18) p__7 x__21) 1) p__18) (bsF p__18 ((dwC (shF a__8 b__9 p__18) p__7 x__21) 0) ((dwC (shF a__8 b__9 p__18) p__7 x__21) 1) 25).2.1), .int .i64 (selZ (bsC ((fun _ => ((p__7 : Nat) : Int)) 0) ((dwC (shF a__8 b__9 p__18) p__7 x__21) 0) ((fun _ => ((p__7 : Nat) : Int)) 1) ((dwC (shF a__8 b__9 p__18) p__7 x__21) 1) p__18) (bsF p__18 ((dwC (shF a__8 b__9 p__18) p__7 x__21) 0) ((dwC (shF a__8 b__9 p__18) p__7 x__21) 1) 25).2.2), .int .i64 (((bsC ((fun _ => ((p__7 : Nat) : Int)) 0) ((dwC (shF a__8 b__9 p__18) p__7 x__21) 0) ((fun _ => ((p__7 : Nat) : Int)) 1) ((dwC (shF a__8 b__9 p__18) p__7 x__21) 1) p__18 : Nat) : Int))]) rfl rfl) ?_
                refine Wq.pure (PR.extr (i := 1) (vs := [.int .i64 (selZ (bsC ((fun _ => ((p__7 : Nat) : Int)) 0) ((dwC (shF a__8 b__9 p__18) p__7 x__21) 0) ((fun _ => ((p__7 : Nat) : Int)) 1) ((dwC (shF a__8 b__9 p__18) p__7 x__21) 1) p__18) (bsF p__18 ((dwC (shF a__8 b__9 p__18) p__7 x__21) 0) ((dwC (shF a__8 b__9 p__18) p__7 x__21) 1) 25).1), .int .i64 (selZ (bsC ((fun _ => ((p__7 : Nat) : Int)) 0) ((dwC (shF a__8 b__9 p__18) p__7 x__21) 0) ((fun _ => ((p__7 : Nat) : Int)) 1) ((dwC (shF a__8 b__9 p__18) p__7 x__21) 1) p__18) (bsF p__18 ((dwC (shF a__8 b__9 p__18) p__7 x__21) 0) ((dwC (shF a__8 b__9 p__18) p__7 x__21) 1) 25).2.1), .int .i64 (selZ (bsC ((fun _ => ((p__7 : Nat) : Int)) 0) ((dwC (shF a__8 b__9 p__18) p__7 x__21) 0) ((fun _ => ((p__7 : Nat) : Int)) 1) ((dwC (shF a__8 b__9 p__18) p__7 x__21) 1) p__18) (bsF p__18 ((dwC (shF a__8 b__9 p__18) p__7 x__21) 0) ((dwC (shF a__8 b__9 p__18) p__7 x__21) 1) 25).2.2), .int .i64 (((bsC ((fun _ => ((p__7 : Nat) : Int)) 0) ((dwC (shF a__8 b__9 p__18) p__7 x__21) 0) ((fun _ => ((p__7 : Nat) : Int)) 1) ((dwC (shF a__8 b__9 p__18) p__7 x__21) 1) p__18 : Nat) : Int))]) rfl rfl) ?_
                refine Wq.pure (PR.extr (i := 2) (vs := [.int .i64 (selZ (bsC ((fun _ => ((p__7 : Nat) : Int)) 0) ((dwC (shF a__8 b__9 p__18) p__7 x__21) 0) ((fun _ => ((p__7 : Nat) : Int)) 1) ((dwC (shF a__8 b__9 p__18) p__7 x__21) 1) p__18) (bsF p__18 ((dwC (shF a__8 b__9 p__18) p__7 x__21) 0) ((dwC (shF a__8 b__9 p__18) p__7 x__21) 1) 25).1), .int .i64 (selZ (bsC ((fun _ => ((p__7 : Nat) : Int)) 0) ((dwC (shF a__8 b__9 p__18) p__7 x__21) 0) ((fun _ => ((p__7 : Nat) : Int)) 1) ((dwC (shF a__8 b__9 p__18) p__7 x__21) 1) p__18) (bsF p__18 ((dwC (shF a__8 b__9 p__18) p__7 x__21) 0) ((dwC (shF a__8 b__9 p__18) p__7 x__21) 1) 25).2.1), .int .i64 (selZ (bsC ((fun _ => ((p__7 : Nat) : Int)) 0) ((dwC (shF a__8 b__9 p__18) p__7 x__21) 0) ((fun _ => ((p__7 : Nat) : Int)) 1) ((dwC (shF a__8 b__9 p__18) p__7 x__21) 1) p__18) (bsF p__18 ((dwC (shF a__8 b__9 p__18) p__7 x__21) 0) ((dwC (shF a__8 b__9 p__18) p__7 x__21) 1) 25).2.2), .int .i64 (((bsC ((fun _ => ((p__7 : Nat) : Int)) 0) ((dwC (shF a__8 b__9 p__18) p__7 x__21) 0) ((fun _ => ((p__7 : Nat) : Int)) 1) ((dwC (shF a__8 b__9 p__18) p__7 x__21) 1) p__18 : Nat) : Int))]) rfl rfl) ?_
                refine Wq.pure (PR.extr (i := 3) (vs := [.int .i64 (selZ (bsC ((fun _ => ((p__7 : Nat) : Int)) 0) ((dwC (shF a__8 b__9 p__18) p__7 x__21) 0) ((fun _ => ((p__7 : Nat) : Int)) 1) ((dwC (shF a__8 b__9 p__18) p__7 x__21) 1) p__18) (bsF p__18 ((dwC (shF a__8 b__9 p__18) p__7 x__21) 0) ((dwC (shF a__8 b__9 p__18) p__7 x__21) 1) 25).1), .int .i64 (selZ (bsC ((fun _ => ((p__7 : Nat) : Int)) 0) ((dwC (shF a__8 b__9 p__18) p__7 x__21) 0) ((fun _ => ((p__7 : Nat) : Int)) 1) ((dwC (shF a__8 b__9 p__18) p__7 x__21) 1) p__18) (bsF p__18 ((dwC (shF a__8 b__9 p__18) p__7 x__21) 0) ((dwC (shF a__8 b__9 p__18) p__7 x__21) 1) 25).2.1), .int .i64 (selZ (bsC ((fun _ => ((p__7 : Nat) : Int)) 0) ((dwC (shF a__8 b__9 p__18) p__7 x__21) 0) ((fun _ => ((p__7 : Nat) : Int)) 1) ((dwC (shF a__8 b__9 p__18) p__7 x__21) 1) p__18) (bsF p__18 ((dwC (shF a__8 b__9 p__18) p__7 x__21) 0) ((dwC (shF a__8 b__9 p__18) p__7 x__21) 1) 25).2.2), .int .i64 (((bsC ((fun _ => ((p__7 : Nat) : Int)) 0) ((dwC (shF a__8 b__9 p__18) p__7 x__21) 0) ((fun _ => ((p__7 : Nat) : Int)) 1) ((dwC (shF a__8 b__9 p__18) p__7 x__21) 1) p__18 : Nat) : Int))]) rfl rfl) ?_
                refine Wq.pure (PR.assI rfl) ?_
                refine Wq.pure (PR.assI rfl) ?_
                refine Wq.pure (PR.assI rfl) ?_
                refine Wq.pure (PR.assI rfl) ?_
                refine Wq.nil (fun w56 hbel => ?_)
                replace st := st.call hbel
                clear hbel
                refine tn ?_
                refine Wc.seq ?_
                refine Wc.seq ?_
                by_cases hbs : bsC ((fun _ => ((p__7 : Nat) : Int)) 0) ((dwC (shF a__8 b__9 p__18) p__7 x__21) 0) ((fun _ => ((p__7 : Nat) : Int)) 1) ((dwC (shF a__8 b__9 p__18) p__7 x__21) 1) p__18 = 0
                · obtain ⟨hx9, hu9, hv9, hge⟩ := best_all (q := p__18) (hCb 0) (hCb 1)
                  obtain ⟨_, _, _, hqg9⟩ := bsC_spec hbs
                  obtain ⟨x9, hxe⟩ : ∃ z, (bsF p__18 ((dwC (shF a__8 b__9 p__18) p__7 x__21) 0) ((dwC (shF a__8 b__9 p__18) p__7 x__21) 1) 25).1 = z := ⟨_, rfl⟩
                  obtain ⟨y9, hye⟩ : ∃ z, (bsF p__18 ((dwC (shF a__8 b__9 p__18) p__7 x__21) 0) ((dwC (shF a__8 b__9 p__18) p__7 x__21) 1) 25).2.1 = z := ⟨_, rfl⟩
                  obtain ⟨z9, hze⟩ : ∃ z, (bsF p__18 ((dwC (shF a__8 b__9 p__18) p__7 x__21) 0) ((dwC (shF a__8 b__9 p__18) p__7 x__21) 1) 25).2.2 = z := ⟨_, rfl⟩
                  rw [hxe, hye, hze] at hx9
                  rw [hxe] at hu9
                  rw [hye] at hv9
                  rw [hze] at hge
                  rw [show (selZ (bsC ((fun _ => ((p__7 : Nat) : Int)) 0) ((dwC (shF a__8 b__9 p__18) p__7 x__21) 0) ((fun _ => ((p__7 : Nat) : Int)) 1) ((dwC (shF a__8 b__9 p__18) p__7 x__21) 1) p__18) (bsF p__18 ((dwC (shF a__8 b__9 p__18) p__7 x__21) 0) ((dwC (shF a__8 b__9 p__18) p__7 x__21) 1) 25).1) = x9 from ((selZ_0 hbs).trans hxe)]
                  rw [show (selZ (bsC ((fun _ => ((p__7 : Nat) : Int)) 0) ((dwC (shF a__8 b__9 p__18) p__7 x__21) 0) ((fun _ => ((p__7 : Nat) : Int)) 1) ((dwC (shF a__8 b__9 p__18) p__7 x__21) 1) p__18) (bsF p__18 ((dwC (shF a__8 b__9 p__18) p__7 x__21) 0) ((dwC (shF a__8 b__9 p__18) p__7 x__21) 1) 25).2.1) = y9 from ((selZ_0 hbs).trans hye)]
                  rw [show (selZ (bsC ((fun _ => ((p__7 : Nat) : Int)) 0) ((dwC (shF a__8 b__9 p__18) p__7 x__21) 0) ((fun _ => ((p__7 : Nat) : Int)) 1) ((dwC (shF a__8 b__9 p__18) p__7 x__21) 1) p__18) (bsF p__18 ((dwC (shF a__8 b__9 p__18) p__7 x__21) 0) ((dwC (shF a__8 b__9 p__18) p__7 x__21) 1) 25).2.2) = z9 from ((selZ_0 hbs).trans hze)]
                  rw [show (bsC ((fun _ => ((p__7 : Nat) : Int)) 0) ((dwC (shF a__8 b__9 p__18) p__7 x__21) 0) ((fun _ => ((p__7 : Nat) : Int)) 1) ((dwC (shF a__8 b__9 p__18) p__7 x__21) 1) p__18) = 0 from hbs]
                  refine Wc.region rfl ?_
                  refine Wl.pure (PR.moveI rfl) ?_
                  refine Wl.pure (PR.moveI rfl) ?_
                  refine Wl.pure (PR.neqS (a := 0) rfl rfl) ?_
                  refine Wl.pure (PR.moveB rfl) ?_
                  refine Wl.on rfl rfl ?_
                  refine Wl.pure (PR.moveI rfl) ?_
                  refine Wl.on rfl rfl ?_
                  refine Wl.pure (PR.moveI rfl) ?_
                  refine Wl.on rfl rfl ?_
                  refine Wl.pure (PR.neqS (a := x9) rfl rfl) ?_
                  refine Wl.pure (PR.pickFB rfl rfl) ?_
                  refine Wl.pure (PR.moveB rfl) ?_
                  refine Wl.on rfl rfl ?_
                  refine Wl.pure (PR.moveI rfl) ?_
                  refine Wl.on rfl rfl ?_
                  refine Wl.pure (PR.moveI rfl) ?_
                  refine Wl.on rfl rfl ?_
                  refine Wl.pure (PR.neqS (a := y9) rfl rfl) ?_
                  refine Wl.pure (PR.pickFB rfl rfl) ?_
                  refine Wl.pure (PR.moveB rfl) ?_
                  refine Wl.on rfl rfl ?_
                  refine Wl.pure (PR.moveI rfl) ?_
                  refine Wl.on rfl rfl ?_
                  refine Wl.pure (PR.moveI rfl) ?_
                  refine Wl.on rfl rfl ?_
                  refine Wl.pure (PR.neqS (a := z9) rfl rfl) ?_
                  refine Wl.pure (PR.pickFB rfl rfl) ?_
                  refine Wl.pure (PR.moveB rfl) ?_
                  refine Wl.on rfl rfl ?_
                  refine Wl.pure (PR.moveI rfl) ?_
                  refine Wl.on rfl rfl ?_
                  refine Wl.pure (PR.neqS (a := 0) rfl rfl) ?_
                  refine Wl.on rfl rfl ?_
                  refine Wl.pure (PR.moveB rfl) ?_
                  refine Wl.off rfl rfl rfl ?_
                  refine Wl.off rfl rfl rfl ?_
                  refine Wl.on rfl rfl ?_
                  refine Wl.pure (PR.pickFB rfl rfl) ?_
                  refine Wl.pure (PR.pickFB rfl rfl) ?_
                  refine Wl.nil ?_
                  refine tn ?_
                  refine Wc.condF rfl ?_
                  refine Wc.skip ?_
                  refine tn ?_
                  refine Wc.seq ?_
                  refine Wc.seq ?_
                  refine Wc.region rfl ?_
                  refine Wl.pure (PR.moveI rfl) ?_
                  refine Wl.pure (PR.neqS (a := 0) rfl rfl) ?_
                  refine Wl.nil ?_
                  refine tn ?_
                  refine Wc.condF rfl ?_
                  refine Wc.skip ?_
                  refine tn ?_
                  refine Wc.seq ?_
                  refine Wc.region rfl ?_
                  refine Wl.pure (PR.moveL rfl) ?_
                  refine Wl.pure (PR.idxAddrS (i := 1) tS_37 rfl rfl (by omega)) ?_
                  refine Wl.loadA (i := 6) (vs := layV ((fun _ => ((p__7 : Nat) : Int)) 1) (((dwC (shF a__8 b__9 p__18) p__7 x__21) 1))) st tA_29 rfl rfl (app_sub (recV_sub0 (n := s__6) (i := 1) (layS_row _ _) (by omega)) (recV_tot (n := s__6) (i := 1) (layS_row _ _) (by omega))) layV_len ?_
                  refine Wl.pure (PR.moveI rfl) ?_
                  refine Wl.pure (PR.moveI rfl) ?_
                  refine Wl.callV (c_impl_ShiftLayer (r := (fun _ => ((p__7 : Nat) : Int)) 1) (d := ((dwC (shF a__8 b__9 p__18) p__7 x__21) 1)) (u := x9) (v := y9) (by dsimp only; omega) ((dwC_lt _ _ _) 1) hl1 (by first | assumption | omega) (by first | assumption | omega)) rfl ?_
                  intro w57 hbel
                  replace st := st.call hbel
                  clear hbel
                  refine Wl.pure (PR.moveV (.tuple #[.agg (layV ((fun _ => ((p__7 : Nat) : Int)) 1) ((shC ((dwC (shF a__8 b__9 p__18) p__7 x__21) 1) x9 y9))).toArray, .int .i64 (0)]) rfl) ?_
                  refine Wl.pure (PR.extr (i := 0) (vs := [.agg (layV ((fun _ => ((p__7 : Nat) : Int)) 1) ((shC ((dwC (shF a__8 b__9 p__18) p__7 x__21) 1) x9 y9))).toArray, .int .i64 (0)]) rfl rfl) ?_
                  refine Wl.pure (PR.extr (i := 1) (vs := [.agg (layV ((fun _ => ((p__7 : Nat) : Int)) 1) ((shC ((dwC (shF a__8 b__9 p__18) p__7 x__21) 1) x9 y9))).toArray, .int .i64 (0)]) rfl rfl) ?_
                  refine Wl.alloc st tZ_29 rfl ?_
                  clear st
                  intro b42 w58 st
                  refine Wl.storeA (i := 0) (cs' := layV ((fun _ => ((p__7 : Nat) : Int)) 1) ((shC ((dwC (shF a__8 b__9 p__18) p__7 x__21) 1) x9 y9))) st tA_29 rfl rfl layV_len layV_one rfl (le_of_len layV_len (by omega)) (all_put layV_len) ?_
                  clear st
                  intro w59 st
                  replace st : St [] w w59 [(b42, layV ((fun _ => ((p__7 : Nat) : Int)) 1) ((shC ((dwC (shF a__8 b__9 p__18) p__7 x__21) 1) x9 y9)), 29), (b_o, arrU .u64 s__6 e ++ sp_o, 54), (b115, arrU .i64 (flN (fgQ x__21 (fun _ => ((p__7 : Nat) : Int)) (dwC (shF a__8 b__9 p__18) p__7 x__21) (fun j => markK x__21 ((fun _ => ((p__7 : Nat) : Int)) j) ((dwC (shF a__8 b__9 p__18) p__7 x__21) j) 64)) s__6) (fun j => (fun z => z) (flA (fgQ x__21 (fun _ => ((p__7 : Nat) : Int)) (dwC (shF a__8 b__9 p__18) p__7 x__21) (fun j => markK x__21 ((fun _ => ((p__7 : Nat) : Int)) j) ((dwC (shF a__8 b__9 p__18) p__7 x__21) j) 64)) s__6 j)) ++ sp115, 2), (b108, arrU .i64 (flN (fgQ x__21 (fun _ => ((p__7 : Nat) : Int)) (upd (dwC (shF a__8 b__9 p__18) p__7 x__21) v__29 (upd ((dwC (shF a__8 b__9 p__18) p__7 x__21) v__29) v__33 ((((dwC (shF a__8 b__9 p__18) p__7 x__21) v__29) (v__33)) ^^^ 1))) (fun j => markK x__21 ((fun _ => ((p__7 : Nat) : Int)) j) ((dwC (shF a__8 b__9 p__18) p__7 x__21) j) 64)) s__6) (fun j => (fun z => z) (flA (fgQ x__21 (fun _ => ((p__7 : Nat) : Int)) (upd (dwC (shF a__8 b__9 p__18) p__7 x__21) v__29 (upd ((dwC (shF a__8 b__9 p__18) p__7 x__21) v__29) v__33 ((((dwC (shF a__8 b__9 p__18) p__7 x__21) v__29) (v__33)) ^^^ 1))) (fun j => markK x__21 ((fun _ => ((p__7 : Nat) : Int)) j) ((dwC (shF a__8 b__9 p__18) p__7 x__21) j) 64)) s__6 j)) ++ sp108, 2), (b86, layS s__6 (fun _ => ((p__7 : Nat) : Int)) (upd (dwC (shF a__8 b__9 p__18) p__7 x__21) v__29 (upd ((dwC (shF a__8 b__9 p__18) p__7 x__21) v__29) v__33 ((((dwC (shF a__8 b__9 p__18) p__7 x__21) v__29) (v__33)) ^^^ 1))) ++ sp86, 29), (b81, arrU .u32 s__6 (fun j => markK x__21 ((fun _ => ((p__7 : Nat) : Int)) j) ((dwC (shF a__8 b__9 p__18) p__7 x__21) j) 64) ++ sp81, 26), (b75, arrU .u32 s__6 (fun j => markK x__21 ((fun _ => ((p__7 : Nat) : Int)) j) ((dwC (shF a__8 b__9 p__18) p__7 x__21) j) 64) ++ sp75, 26), (b68, layS s__6 (fun _ => ((p__7 : Nat) : Int)) (dwC (shF a__8 b__9 p__18) p__7 x__21) ++ sp68, 29), (b5, schV ((s__6 : Nat) : Int) ((p__7 : Nat) : Int) (a__8) (b__9), 62)] := st
                  refine Wl.pure (PR.assI rfl) ?_
                  refine Wl.nil ?_
                  refine tn ?_
                  refine Wc.seq ?_
                  have hsl : layAll 2 (fun z_ => [((p__7 : Nat) : Int), ((p__7 : Nat) : Int)].getD z_ 0) (fun z_ => [(dwC (shF a__8 b__9 p__18) p__7 x__21) 0, shC ((dwC (shF a__8 b__9 p__18) p__7 x__21) 1) x9 y9].getD z_ (fun _ => 0)) = true := lay2 hl0 (shC_ok hl1)
                  refine Wc.tree (γ := Nat × Nat) (w0 := w) (X := []) (Ks := [b68, b42]) (S := fun i => i == 4 || i == 5 || i == 9 || i == 10) (fun g => [(4, .bool false), (6, .int .u64 (((p__18 : Nat) : Int))), (8, .slice (some ⟨b68, 0, none⟩) (s__6) (c68)), (40, .int .i64 (z9)), (43, .int .i64 (0)), (44, .pointer (some ⟨g.1, 0, none⟩)), (45, .int .i64 (0))]) (fun g w_ => St [] w w_ [(g.1, layV ((fun z_ => [((fun _ => ((p__7 : Nat) : Int)) 0), ((fun _ => ((p__7 : Nat) : Int)) 1)].getD z_ 0) 0) ((orC (fun z_ => [((dwC (shF a__8 b__9 p__18) p__7 x__21) 0), (shC ((dwC (shF a__8 b__9 p__18) p__7 x__21) 1) x9 y9)].getD z_ (fun _ => 0)) 2)), 29), (g.2, layS 2 (fun z_ => [((fun _ => ((p__7 : Nat) : Int)) 0), ((fun _ => ((p__7 : Nat) : Int)) 1)].getD z_ 0) (fun z_ => [((dwC (shF a__8 b__9 p__18) p__7 x__21) 0), (shC ((dwC (shF a__8 b__9 p__18) p__7 x__21) 1) x9 y9)].getD z_ (fun _ => 0)), 29), (b42, layV ((fun _ => ((p__7 : Nat) : Int)) 1) ((shC ((dwC (shF a__8 b__9 p__18) p__7 x__21) 1) x9 y9)), 29), (b_o, arrU .u64 s__6 e ++ sp_o, 54), (b115, arrU .i64 (flN (fgQ x__21 (fun _ => ((p__7 : Nat) : Int)) (dwC (shF a__8 b__9 p__18) p__7 x__21) (fun j => markK x__21 ((fun _ => ((p__7 : Nat) : Int)) j) ((dwC (shF a__8 b__9 p__18) p__7 x__21) j) 64)) s__6) (fun j => (fun z => z) (flA (fgQ x__21 (fun _ => ((p__7 : Nat) : Int)) (dwC (shF a__8 b__9 p__18) p__7 x__21) (fun j => markK x__21 ((fun _ => ((p__7 : Nat) : Int)) j) ((dwC (shF a__8 b__9 p__18) p__7 x__21) j) 64)) s__6 j)) ++ sp115, 2), (b108, arrU .i64 (flN (fgQ x__21 (fun _ => ((p__7 : Nat) : Int)) (upd (dwC (shF a__8 b__9 p__18) p__7 x__21) v__29 (upd ((dwC (shF a__8 b__9 p__18) p__7 x__21) v__29) v__33 ((((dwC (shF a__8 b__9 p__18) p__7 x__21) v__29) (v__33)) ^^^ 1))) (fun j => markK x__21 ((fun _ => ((p__7 : Nat) : Int)) j) ((dwC (shF a__8 b__9 p__18) p__7 x__21) j) 64)) s__6) (fun j => (fun z => z) (flA (fgQ x__21 (fun _ => ((p__7 : Nat) : Int)) (upd (dwC (shF a__8 b__9 p__18) p__7 x__21) v__29 (upd ((dwC (shF a__8 b__9 p__18) p__7 x__21) v__29) v__33 ((((dwC (shF a__8 b__9 p__18) p__7 x__21) v__29) (v__33)) ^^^ 1))) (fun j => markK x__21 ((fun _ => ((p__7 : Nat) : Int)) j) ((dwC (shF a__8 b__9 p__18) p__7 x__21) j) 64)) s__6 j)) ++ sp108, 2), (b86, layS s__6 (fun _ => ((p__7 : Nat) : Int)) (upd (dwC (shF a__8 b__9 p__18) p__7 x__21) v__29 (upd ((dwC (shF a__8 b__9 p__18) p__7 x__21) v__29) v__33 ((((dwC (shF a__8 b__9 p__18) p__7 x__21) v__29) (v__33)) ^^^ 1))) ++ sp86, 29), (b81, arrU .u32 s__6 (fun j => markK x__21 ((fun _ => ((p__7 : Nat) : Int)) j) ((dwC (shF a__8 b__9 p__18) p__7 x__21) j) 64) ++ sp81, 26), (b75, arrU .u32 s__6 (fun j => markK x__21 ((fun _ => ((p__7 : Nat) : Int)) j) ((dwC (shF a__8 b__9 p__18) p__7 x__21) j) 64) ++ sp75, 26), (b68, layS s__6 (fun _ => ((p__7 : Nat) : Int)) (dwC (shF a__8 b__9 p__18) p__7 x__21) ++ sp68, 29), (b5, schV ((s__6 : Nat) : Int) ((p__7 : Nat) : Int) (a__8) (b__9), 62)]) (.st 0 0 (.st 1 0 (.st 2 3 (.st 3 3 (.alt 4 (.alt 9 (.st 5 2 (.st 6 0 (.st 7 0 (.st 8 0 (.st 10 2 (.st 11 0 PT.nil)))))) (.st 5 2 (.st 6 0 (.st 7 0 (.st 8 0 (.st 9 2 (.st 10 2 (.st 11 0 PT.nil)))))))) (.st 9 2 (.st 4 2 (.st 5 2 (.st 6 0 (.st 7 0 (.st 8 0 (.st 10 2 (.st 11 0 PT.nil))))))))))))) hmix (by kernel_rfl) (by kernel_rfl) rfl rfl ?_ ?_
                  · intro w60 hbel
                    replace st := st.call hbel
                    clear hbel
                    refine WT.pure rfl (PR.moveL rfl) ?_
                    refine WT.pure rfl (PR.idxAddrS (i := 0) tS_37 rfl rfl (by omega)) ?_
                    refine WT.loadA (j := 7) (vs := layV ((fun _ => ((p__7 : Nat) : Int)) 0) (((dwC (shF a__8 b__9 p__18) p__7 x__21) 0))) rfl (by simp) st tA_29 rfl rfl (app_sub (recV_sub0 (n := s__6) (i := 0) (layS_row _ _) (by omega)) (recV_tot (n := s__6) (i := 0) (layS_row _ _) (by omega))) layV_len ?_
                    refine WT.loadA (j := 0) rfl (by simp) st tA_29 rfl rfl (all_sub layV_len) layV_len ?_
                    refine WT.alt ?_ ?_
                    · have st0 := st
                      refine WT.s rfl rfl ?_
                      refine Wl.buildSlice (ps := [(0, .agg (layV ((fun _ => ((p__7 : Nat) : Int)) 0) (((dwC (shF a__8 b__9 p__18) p__7 x__21) 0))).toArray), (1, .agg (layV ((fun _ => ((p__7 : Nat) : Int)) 1) ((shC ((dwC (shF a__8 b__9 p__18) p__7 x__21) 1) x9 y9))).toArray)]) (cs := layS 2 (fun z_ => [((fun _ => ((p__7 : Nat) : Int)) 0), ((fun _ => ((p__7 : Nat) : Int)) 1)].getD z_ 0) (fun z_ => [((dwC (shF a__8 b__9 p__18) p__7 x__21) 0), (shC ((dwC (shF a__8 b__9 p__18) p__7 x__21) 1) x9 y9)].getD z_ (fun _ => 0))) st tS_37 tZ_29 rfl rfl (lit_lays2 _ _ _ _ _) ?_
                      clear st
                      intro b330 w61 st
                      refine Wl.nil ⟨rfl, RK.of st0 st (ksC (i := 7) (j := 8) rfl rfl rfl (ksC (i := 0) (j := 1) rfl rfl rfl ksN)), ?_⟩
                      clear st0
                      refine WT.alt ?_ ?_
                      · have st0 := st
                        refine WT.s rfl rfl ?_
                        refine Wl.alloc st tZ_29 rfl ?_
                        clear st
                        intro b44 w62 st
                        refine Wl.nil ⟨rfl, RK.of st0 st (ksC (i := 8) (j := 9) rfl rfl rfl (ksC (i := 1) (j := 2) rfl rfl rfl ksN)), ?_⟩
                        clear st0
                        have st0 := st
                        refine WT.s rfl rfl ?_
                        refine Wl.callV (c_impl_StackLayers (A := some ⟨b330, 0, none⟩) (n := 2) (cp := 2) (p := (fun z_ => [((fun _ => ((p__7 : Nat) : Int)) 0), ((fun _ => ((p__7 : Nat) : Int)) 1)].getD z_ 0)) (c := (fun z_ => [((dwC (shF a__8 b__9 p__18) p__7 x__21) 0), (shC ((dwC (shF a__8 b__9 p__18) p__7 x__21) 1) x9 y9)].getD z_ (fun _ => 0))) ((st.rdA (i := 1) (n := (2 * 65)) rfl (all_sub (recV_len (s := 65) (layS_row _ _) _))).sl) (lit_p2 (by dsimp only; omega) (by dsimp only; omega)) (lit_lt2 ((dwC_lt _ _ _) 0) (shC_lt ((dwC_lt _ _ _) 1) x9 y9)) (by first | assumption | omega) (by first | assumption | omega) hsl allP2) rfl ?_
                        intro w63 hbel
                        replace st := st.call hbel
                        clear hbel
                        refine Wl.nil ⟨rfl, RK.of st0 st (ksC (i := 9) (j := 9) rfl rfl rfl (ksC (i := 2) (j := 2) rfl rfl rfl ksN)), ?_⟩
                        clear st0
                        refine WT.pure rfl (PR.moveV (.tuple #[.agg (layV ((fun z_ => [((fun _ => ((p__7 : Nat) : Int)) 0), ((fun _ => ((p__7 : Nat) : Int)) 1)].getD z_ 0) 0) ((orC (fun z_ => [((dwC (shF a__8 b__9 p__18) p__7 x__21) 0), (shC ((dwC (shF a__8 b__9 p__18) p__7 x__21) 1) x9 y9)].getD z_ (fun _ => 0)) 2))).toArray, .int .i64 (0)]) rfl) ?_
                        refine WT.pure rfl (PR.extr (i := 0) (vs := [.agg (layV ((fun z_ => [((fun _ => ((p__7 : Nat) : Int)) 0), ((fun _ => ((p__7 : Nat) : Int)) 1)].getD z_ 0) 0) ((orC (fun z_ => [((dwC (shF a__8 b__9 p__18) p__7 x__21) 0), (shC ((dwC (shF a__8 b__9 p__18) p__7 x__21) 1) x9 y9)].getD z_ (fun _ => 0)) 2))).toArray, .int .i64 (0)]) rfl rfl) ?_
                        refine WT.pure rfl (PR.extr (i := 1) (vs := [.agg (layV ((fun z_ => [((fun _ => ((p__7 : Nat) : Int)) 0), ((fun _ => ((p__7 : Nat) : Int)) 1)].getD z_ 0) 0) ((orC (fun z_ => [((dwC (shF a__8 b__9 p__18) p__7 x__21) 0), (shC ((dwC (shF a__8 b__9 p__18) p__7 x__21) 1) x9 y9)].getD z_ (fun _ => 0)) 2))).toArray, .int .i64 (0)]) rfl rfl) ?_
                        have st0 := st
                        refine WT.s rfl rfl ?_
                        refine Wl.storeA (i := 0) (cs' := layV ((fun z_ => [((fun _ => ((p__7 : Nat) : Int)) 0), ((fun _ => ((p__7 : Nat) : Int)) 1)].getD z_ 0) 0) ((orC (fun z_ => [((dwC (shF a__8 b__9 p__18) p__7 x__21) 0), (shC ((dwC (shF a__8 b__9 p__18) p__7 x__21) 1) x9 y9)].getD z_ (fun _ => 0)) 2))) st tA_29 rfl rfl layV_len layV_one rfl (le_of_len layV_len (by omega)) (all_put layV_len) ?_
                        clear st
                        intro w64 st
                        replace st : St [] w w64 [(b44, layV ((fun z_ => [((fun _ => ((p__7 : Nat) : Int)) 0), ((fun _ => ((p__7 : Nat) : Int)) 1)].getD z_ 0) 0) ((orC (fun z_ => [((dwC (shF a__8 b__9 p__18) p__7 x__21) 0), (shC ((dwC (shF a__8 b__9 p__18) p__7 x__21) 1) x9 y9)].getD z_ (fun _ => 0)) 2)), 29), (b330, layS 2 (fun z_ => [((fun _ => ((p__7 : Nat) : Int)) 0), ((fun _ => ((p__7 : Nat) : Int)) 1)].getD z_ 0) (fun z_ => [((dwC (shF a__8 b__9 p__18) p__7 x__21) 0), (shC ((dwC (shF a__8 b__9 p__18) p__7 x__21) 1) x9 y9)].getD z_ (fun _ => 0)), 29), (b42, layV ((fun _ => ((p__7 : Nat) : Int)) 1) ((shC ((dwC (shF a__8 b__9 p__18) p__7 x__21) 1) x9 y9)), 29), (b_o, arrU .u64 s__6 e ++ sp_o, 54), (b115, arrU .i64 (flN (fgQ x__21 (fun _ => ((p__7 : Nat) : Int)) (dwC (shF a__8 b__9 p__18) p__7 x__21) (fun j => markK x__21 ((fun _ => ((p__7 : Nat) : Int)) j) ((dwC (shF a__8 b__9 p__18) p__7 x__21) j) 64)) s__6) (fun j => (fun z => z) (flA (fgQ x__21 (fun _ => ((p__7 : Nat) : Int)) (dwC (shF a__8 b__9 p__18) p__7 x__21) (fun j => markK x__21 ((fun _ => ((p__7 : Nat) : Int)) j) ((dwC (shF a__8 b__9 p__18) p__7 x__21) j) 64)) s__6 j)) ++ sp115, 2), (b108, arrU .i64 (flN (fgQ x__21 (fun _ => ((p__7 : Nat) : Int)) (upd (dwC (shF a__8 b__9 p__18) p__7 x__21) v__29 (upd ((dwC (shF a__8 b__9 p__18) p__7 x__21) v__29) v__33 ((((dwC (shF a__8 b__9 p__18) p__7 x__21) v__29) (v__33)) ^^^ 1))) (fun j => markK x__21 ((fun _ => ((p__7 : Nat) : Int)) j) ((dwC (shF a__8 b__9 p__18) p__7 x__21) j) 64)) s__6) (fun j => (fun z => z) (flA (fgQ x__21 (fun _ => ((p__7 : Nat) : Int)) (upd (dwC (shF a__8 b__9 p__18) p__7 x__21) v__29 (upd ((dwC (shF a__8 b__9 p__18) p__7 x__21) v__29) v__33 ((((dwC (shF a__8 b__9 p__18) p__7 x__21) v__29) (v__33)) ^^^ 1))) (fun j => markK x__21 ((fun _ => ((p__7 : Nat) : Int)) j) ((dwC (shF a__8 b__9 p__18) p__7 x__21) j) 64)) s__6 j)) ++ sp108, 2), (b86, layS s__6 (fun _ => ((p__7 : Nat) : Int)) (upd (dwC (shF a__8 b__9 p__18) p__7 x__21) v__29 (upd ((dwC (shF a__8 b__9 p__18) p__7 x__21) v__29) v__33 ((((dwC (shF a__8 b__9 p__18) p__7 x__21) v__29) (v__33)) ^^^ 1))) ++ sp86, 29), (b81, arrU .u32 s__6 (fun j => markK x__21 ((fun _ => ((p__7 : Nat) : Int)) j) ((dwC (shF a__8 b__9 p__18) p__7 x__21) j) 64) ++ sp81, 26), (b75, arrU .u32 s__6 (fun j => markK x__21 ((fun _ => ((p__7 : Nat) : Int)) j) ((dwC (shF a__8 b__9 p__18) p__7 x__21) j) 64) ++ sp75, 26), (b68, layS s__6 (fun _ => ((p__7 : Nat) : Int)) (dwC (shF a__8 b__9 p__18) p__7 x__21) ++ sp68, 29), (b5, schV ((s__6 : Nat) : Int) ((p__7 : Nat) : Int) (a__8) (b__9), 62)] := st
                        refine Wl.nil ⟨rfl, RK.of st0 st (ksC (i := 9) (j := 9) rfl rfl rfl (ksC (i := 2) (j := 2) rfl rfl rfl ksN)), ?_⟩
                        clear st0
                        refine WT.pure rfl (PR.assI rfl) ?_
                        exact WT.nil ⟨(b44, b330), (.cons rfl (.cons rfl (.cons rfl (.cons rfl (.cons rfl (.cons rfl (.cons rfl (.nil _)))))))), st⟩
                      · have st0 := st
                        refine WT.s rfl rfl ?_
                        refine Wl.callV (c_impl_StackLayers (A := some ⟨b330, 0, none⟩) (n := 2) (cp := 2) (p := (fun z_ => [((fun _ => ((p__7 : Nat) : Int)) 0), ((fun _ => ((p__7 : Nat) : Int)) 1)].getD z_ 0)) (c := (fun z_ => [((dwC (shF a__8 b__9 p__18) p__7 x__21) 0), (shC ((dwC (shF a__8 b__9 p__18) p__7 x__21) 1) x9 y9)].getD z_ (fun _ => 0))) ((st.rdA (i := 0) (n := (2 * 65)) rfl (all_sub (recV_len (s := 65) (layS_row _ _) _))).sl) (lit_p2 (by dsimp only; omega) (by dsimp only; omega)) (lit_lt2 ((dwC_lt _ _ _) 0) (shC_lt ((dwC_lt _ _ _) 1) x9 y9)) (by first | assumption | omega) (by first | assumption | omega) hsl allP2) rfl ?_
                        intro w62 hbel
                        replace st := st.call hbel
                        clear hbel
                        refine Wl.nil ⟨rfl, RK.of st0 st (ksC (i := 8) (j := 8) rfl rfl rfl (ksC (i := 1) (j := 1) rfl rfl rfl ksN)), ?_⟩
                        clear st0
                        refine WT.pure rfl (PR.moveV (.tuple #[.agg (layV ((fun z_ => [((fun _ => ((p__7 : Nat) : Int)) 0), ((fun _ => ((p__7 : Nat) : Int)) 1)].getD z_ 0) 0) ((orC (fun z_ => [((dwC (shF a__8 b__9 p__18) p__7 x__21) 0), (shC ((dwC (shF a__8 b__9 p__18) p__7 x__21) 1) x9 y9)].getD z_ (fun _ => 0)) 2))).toArray, .int .i64 (0)]) rfl) ?_
                        refine WT.pure rfl (PR.extr (i := 0) (vs := [.agg (layV ((fun z_ => [((fun _ => ((p__7 : Nat) : Int)) 0), ((fun _ => ((p__7 : Nat) : Int)) 1)].getD z_ 0) 0) ((orC (fun z_ => [((dwC (shF a__8 b__9 p__18) p__7 x__21) 0), (shC ((dwC (shF a__8 b__9 p__18) p__7 x__21) 1) x9 y9)].getD z_ (fun _ => 0)) 2))).toArray, .int .i64 (0)]) rfl rfl) ?_
                        refine WT.pure rfl (PR.extr (i := 1) (vs := [.agg (layV ((fun z_ => [((fun _ => ((p__7 : Nat) : Int)) 0), ((fun _ => ((p__7 : Nat) : Int)) 1)].getD z_ 0) 0) ((orC (fun z_ => [((dwC (shF a__8 b__9 p__18) p__7 x__21) 0), (shC ((dwC (shF a__8 b__9 p__18) p__7 x__21) 1) x9 y9)].getD z_ (fun _ => 0)) 2))).toArray, .int .i64 (0)]) rfl rfl) ?_
                        have st0 := st
                        refine WT.s rfl rfl ?_
                        refine Wl.alloc st tZ_29 rfl ?_
                        clear st
                        intro b44 w63 st
                        refine Wl.nil ⟨rfl, RK.of st0 st (ksC (i := 8) (j := 9) rfl rfl rfl (ksC (i := 1) (j := 2) rfl rfl rfl ksN)), ?_⟩
                        clear st0
                        have st0 := st
                        refine WT.s rfl rfl ?_
                        refine Wl.storeA (i := 0) (cs' := layV ((fun z_ => [((fun _ => ((p__7 : Nat) : Int)) 0), ((fun _ => ((p__7 : Nat) : Int)) 1)].getD z_ 0) 0) ((orC (fun z_ => [((dwC (shF a__8 b__9 p__18) p__7 x__21) 0), (shC ((dwC (shF a__8 b__9 p__18) p__7 x__21) 1) x9 y9)].getD z_ (fun _ => 0)) 2))) st tA_29 rfl rfl layV_len layV_one rfl (le_of_len layV_len (by omega)) (all_put layV_len) ?_
                        clear st
                        intro w64 st
                        replace st : St [] w w64 [(b44, layV ((fun z_ => [((fun _ => ((p__7 : Nat) : Int)) 0), ((fun _ => ((p__7 : Nat) : Int)) 1)].getD z_ 0) 0) ((orC (fun z_ => [((dwC (shF a__8 b__9 p__18) p__7 x__21) 0), (shC ((dwC (shF a__8 b__9 p__18) p__7 x__21) 1) x9 y9)].getD z_ (fun _ => 0)) 2)), 29), (b330, layS 2 (fun z_ => [((fun _ => ((p__7 : Nat) : Int)) 0), ((fun _ => ((p__7 : Nat) : Int)) 1)].getD z_ 0) (fun z_ => [((dwC (shF a__8 b__9 p__18) p__7 x__21) 0), (shC ((dwC (shF a__8 b__9 p__18) p__7 x__21) 1) x9 y9)].getD z_ (fun _ => 0)), 29), (b42, layV ((fun _ => ((p__7 : Nat) : Int)) 1) ((shC ((dwC (shF a__8 b__9 p__18) p__7 x__21) 1) x9 y9)), 29), (b_o, arrU .u64 s__6 e ++ sp_o, 54), (b115, arrU .i64 (flN (fgQ x__21 (fun _ => ((p__7 : Nat) : Int)) (dwC (shF a__8 b__9 p__18) p__7 x__21) (fun j => markK x__21 ((fun _ => ((p__7 : Nat) : Int)) j) ((dwC (shF a__8 b__9 p__18) p__7 x__21) j) 64)) s__6) (fun j => (fun z => z) (flA (fgQ x__21 (fun _ => ((p__7 : Nat) : Int)) (dwC (shF a__8 b__9 p__18) p__7 x__21) (fun j => markK x__21 ((fun _ => ((p__7 : Nat) : Int)) j) ((dwC (shF a__8 b__9 p__18) p__7 x__21) j) 64)) s__6 j)) ++ sp115, 2), (b108, arrU .i64 (flN (fgQ x__21 (fun _ => ((p__7 : Nat) : Int)) (upd (dwC (shF a__8 b__9 p__18) p__7 x__21) v__29 (upd ((dwC (shF a__8 b__9 p__18) p__7 x__21) v__29) v__33 ((((dwC (shF a__8 b__9 p__18) p__7 x__21) v__29) (v__33)) ^^^ 1))) (fun j => markK x__21 ((fun _ => ((p__7 : Nat) : Int)) j) ((dwC (shF a__8 b__9 p__18) p__7 x__21) j) 64)) s__6) (fun j => (fun z => z) (flA (fgQ x__21 (fun _ => ((p__7 : Nat) : Int)) (upd (dwC (shF a__8 b__9 p__18) p__7 x__21) v__29 (upd ((dwC (shF a__8 b__9 p__18) p__7 x__21) v__29) v__33 ((((dwC (shF a__8 b__9 p__18) p__7 x__21) v__29) (v__33)) ^^^ 1))) (fun j => markK x__21 ((fun _ => ((p__7 : Nat) : Int)) j) ((dwC (shF a__8 b__9 p__18) p__7 x__21) j) 64)) s__6 j)) ++ sp108, 2), (b86, layS s__6 (fun _ => ((p__7 : Nat) : Int)) (upd (dwC (shF a__8 b__9 p__18) p__7 x__21) v__29 (upd ((dwC (shF a__8 b__9 p__18) p__7 x__21) v__29) v__33 ((((dwC (shF a__8 b__9 p__18) p__7 x__21) v__29) (v__33)) ^^^ 1))) ++ sp86, 29), (b81, arrU .u32 s__6 (fun j => markK x__21 ((fun _ => ((p__7 : Nat) : Int)) j) ((dwC (shF a__8 b__9 p__18) p__7 x__21) j) 64) ++ sp81, 26), (b75, arrU .u32 s__6 (fun j => markK x__21 ((fun _ => ((p__7 : Nat) : Int)) j) ((dwC (shF a__8 b__9 p__18) p__7 x__21) j) 64) ++ sp75, 26), (b68, layS s__6 (fun _ => ((p__7 : Nat) : Int)) (dwC (shF a__8 b__9 p__18) p__7 x__21) ++ sp68, 29), (b5, schV ((s__6 : Nat) : Int) ((p__7 : Nat) : Int) (a__8) (b__9), 62)] := st
                        refine Wl.nil ⟨rfl, RK.of st0 st (ksC (i := 9) (j := 9) rfl rfl rfl (ksC (i := 2) (j := 2) rfl rfl rfl ksN)), ?_⟩
                        clear st0
                        refine WT.pure rfl (PR.assI rfl) ?_
                        exact WT.nil ⟨(b44, b330), (.cons rfl (.cons rfl (.cons rfl (.cons rfl (.cons rfl (.cons rfl (.cons rfl (.nil _)))))))), st⟩
                    · have st0 := st
                      refine WT.s rfl rfl ?_
                      refine Wl.alloc st tZ_29 rfl ?_
                      clear st
                      intro b44 w61 st
                      refine Wl.nil ⟨rfl, RK.of st0 st (ksC (i := 7) (j := 8) rfl rfl rfl (ksC (i := 0) (j := 1) rfl rfl rfl ksN)), ?_⟩
                      clear st0
                      have st0 := st
                      refine WT.s rfl rfl ?_
                      refine Wl.buildSlice (ps := [(0, .agg (layV ((fun _ => ((p__7 : Nat) : Int)) 0) (((dwC (shF a__8 b__9 p__18) p__7 x__21) 0))).toArray), (1, .agg (layV ((fun _ => ((p__7 : Nat) : Int)) 1) ((shC ((dwC (shF a__8 b__9 p__18) p__7 x__21) 1) x9 y9))).toArray)]) (cs := layS 2 (fun z_ => [((fun _ => ((p__7 : Nat) : Int)) 0), ((fun _ => ((p__7 : Nat) : Int)) 1)].getD z_ 0) (fun z_ => [((dwC (shF a__8 b__9 p__18) p__7 x__21) 0), (shC ((dwC (shF a__8 b__9 p__18) p__7 x__21) 1) x9 y9)].getD z_ (fun _ => 0))) st tS_37 tZ_29 rfl rfl (lit_lays2 _ _ _ _ _) ?_
                      clear st
                      intro b330 w62 st
                      refine Wl.nil ⟨rfl, RK.of st0 st (ksC (i := 8) (j := 9) rfl rfl rfl (ksC (i := 1) (j := 2) rfl rfl rfl ksN)), ?_⟩
                      clear st0
                      have st0 := st
                      refine WT.s rfl rfl ?_
                      refine Wl.callV (c_impl_StackLayers (A := some ⟨b330, 0, none⟩) (n := 2) (cp := 2) (p := (fun z_ => [((fun _ => ((p__7 : Nat) : Int)) 0), ((fun _ => ((p__7 : Nat) : Int)) 1)].getD z_ 0)) (c := (fun z_ => [((dwC (shF a__8 b__9 p__18) p__7 x__21) 0), (shC ((dwC (shF a__8 b__9 p__18) p__7 x__21) 1) x9 y9)].getD z_ (fun _ => 0))) ((st.rdA (i := 0) (n := (2 * 65)) rfl (all_sub (recV_len (s := 65) (layS_row _ _) _))).sl) (lit_p2 (by dsimp only; omega) (by dsimp only; omega)) (lit_lt2 ((dwC_lt _ _ _) 0) (shC_lt ((dwC_lt _ _ _) 1) x9 y9)) (by first | assumption | omega) (by first | assumption | omega) hsl allP2) rfl ?_
                      intro w63 hbel
                      replace st := st.call hbel
                      clear hbel
                      refine Wl.nil ⟨rfl, RK.of st0 st (ksC (i := 9) (j := 9) rfl rfl rfl (ksC (i := 2) (j := 2) rfl rfl rfl ksN)), ?_⟩
                      clear st0
                      refine WT.pure rfl (PR.moveV (.tuple #[.agg (layV ((fun z_ => [((fun _ => ((p__7 : Nat) : Int)) 0), ((fun _ => ((p__7 : Nat) : Int)) 1)].getD z_ 0) 0) ((orC (fun z_ => [((dwC (shF a__8 b__9 p__18) p__7 x__21) 0), (shC ((dwC (shF a__8 b__9 p__18) p__7 x__21) 1) x9 y9)].getD z_ (fun _ => 0)) 2))).toArray, .int .i64 (0)]) rfl) ?_
                      refine WT.pure rfl (PR.extr (i := 0) (vs := [.agg (layV ((fun z_ => [((fun _ => ((p__7 : Nat) : Int)) 0), ((fun _ => ((p__7 : Nat) : Int)) 1)].getD z_ 0) 0) ((orC (fun z_ => [((dwC (shF a__8 b__9 p__18) p__7 x__21) 0), (shC ((dwC (shF a__8 b__9 p__18) p__7 x__21) 1) x9 y9)].getD z_ (fun _ => 0)) 2))).toArray, .int .i64 (0)]) rfl rfl) ?_
                      refine WT.pure rfl (PR.extr (i := 1) (vs := [.agg (layV ((fun z_ => [((fun _ => ((p__7 : Nat) : Int)) 0), ((fun _ => ((p__7 : Nat) : Int)) 1)].getD z_ 0) 0) ((orC (fun z_ => [((dwC (shF a__8 b__9 p__18) p__7 x__21) 0), (shC ((dwC (shF a__8 b__9 p__18) p__7 x__21) 1) x9 y9)].getD z_ (fun _ => 0)) 2))).toArray, .int .i64 (0)]) rfl rfl) ?_
                      have st0 := st
                      refine WT.s rfl rfl ?_
                      refine Wl.storeA (i := 1) (cs' := layV ((fun z_ => [((fun _ => ((p__7 : Nat) : Int)) 0), ((fun _ => ((p__7 : Nat) : Int)) 1)].getD z_ 0) 0) ((orC (fun z_ => [((dwC (shF a__8 b__9 p__18) p__7 x__21) 0), (shC ((dwC (shF a__8 b__9 p__18) p__7 x__21) 1) x9 y9)].getD z_ (fun _ => 0)) 2))) st tA_29 rfl rfl layV_len layV_one rfl (le_of_len layV_len (by omega)) (all_put layV_len) ?_
                      clear st
                      intro w64 st
                      replace st : St [] w w64 [(b330, layS 2 (fun z_ => [((fun _ => ((p__7 : Nat) : Int)) 0), ((fun _ => ((p__7 : Nat) : Int)) 1)].getD z_ 0) (fun z_ => [((dwC (shF a__8 b__9 p__18) p__7 x__21) 0), (shC ((dwC (shF a__8 b__9 p__18) p__7 x__21) 1) x9 y9)].getD z_ (fun _ => 0)), 29), (b44, layV ((fun z_ => [((fun _ => ((p__7 : Nat) : Int)) 0), ((fun _ => ((p__7 : Nat) : Int)) 1)].getD z_ 0) 0) ((orC (fun z_ => [((dwC (shF a__8 b__9 p__18) p__7 x__21) 0), (shC ((dwC (shF a__8 b__9 p__18) p__7 x__21) 1) x9 y9)].getD z_ (fun _ => 0)) 2)), 29), (b42, layV ((fun _ => ((p__7 : Nat) : Int)) 1) ((shC ((dwC (shF a__8 b__9 p__18) p__7 x__21) 1) x9 y9)), 29), (b_o, arrU .u64 s__6 e ++ sp_o, 54), (b115, arrU .i64 (flN (fgQ x__21 (fun _ => ((p__7 : Nat) : Int)) (dwC (shF a__8 b__9 p__18) p__7 x__21) (fun j => markK x__21 ((fun _ => ((p__7 : Nat) : Int)) j) ((dwC (shF a__8 b__9 p__18) p__7 x__21) j) 64)) s__6) (fun j => (fun z => z) (flA (fgQ x__21 (fun _ => ((p__7 : Nat) : Int)) (dwC (shF a__8 b__9 p__18) p__7 x__21) (fun j => markK x__21 ((fun _ => ((p__7 : Nat) : Int)) j) ((dwC (shF a__8 b__9 p__18) p__7 x__21) j) 64)) s__6 j)) ++ sp115, 2), (b108, arrU .i64 (flN (fgQ x__21 (fun _ => ((p__7 : Nat) : Int)) (upd (dwC (shF a__8 b__9 p__18) p__7 x__21) v__29 (upd ((dwC (shF a__8 b__9 p__18) p__7 x__21) v__29) v__33 ((((dwC (shF a__8 b__9 p__18) p__7 x__21) v__29) (v__33)) ^^^ 1))) (fun j => markK x__21 ((fun _ => ((p__7 : Nat) : Int)) j) ((dwC (shF a__8 b__9 p__18) p__7 x__21) j) 64)) s__6) (fun j => (fun z => z) (flA (fgQ x__21 (fun _ => ((p__7 : Nat) : Int)) (upd (dwC (shF a__8 b__9 p__18) p__7 x__21) v__29 (upd ((dwC (shF a__8 b__9 p__18) p__7 x__21) v__29) v__33 ((((dwC (shF a__8 b__9 p__18) p__7 x__21) v__29) (v__33)) ^^^ 1))) (fun j => markK x__21 ((fun _ => ((p__7 : Nat) : Int)) j) ((dwC (shF a__8 b__9 p__18) p__7 x__21) j) 64)) s__6 j)) ++ sp108, 2), (b86, layS s__6 (fun _ => ((p__7 : Nat) : Int)) (upd (dwC (shF a__8 b__9 p__18) p__7 x__21) v__29 (upd ((dwC (shF a__8 b__9 p__18) p__7 x__21) v__29) v__33 ((((dwC (shF a__8 b__9 p__18) p__7 x__21) v__29) (v__33)) ^^^ 1))) ++ sp86, 29), (b81, arrU .u32 s__6 (fun j => markK x__21 ((fun _ => ((p__7 : Nat) : Int)) j) ((dwC (shF a__8 b__9 p__18) p__7 x__21) j) 64) ++ sp81, 26), (b75, arrU .u32 s__6 (fun j => markK x__21 ((fun _ => ((p__7 : Nat) : Int)) j) ((dwC (shF a__8 b__9 p__18) p__7 x__21) j) 64) ++ sp75, 26), (b68, layS s__6 (fun _ => ((p__7 : Nat) : Int)) (dwC (shF a__8 b__9 p__18) p__7 x__21) ++ sp68, 29), (b5, schV ((s__6 : Nat) : Int) ((p__7 : Nat) : Int) (a__8) (b__9), 62)] := st
                      refine Wl.nil ⟨rfl, RK.of st0 st (ksC (i := 9) (j := 9) rfl rfl rfl (ksC (i := 2) (j := 2) rfl rfl rfl ksN)), ?_⟩
                      clear st0
                      refine WT.pure rfl (PR.assI rfl) ?_
                      replace st : St [] w w64 [(b44, layV ((fun z_ => [((fun _ => ((p__7 : Nat) : Int)) 0), ((fun _ => ((p__7 : Nat) : Int)) 1)].getD z_ 0) 0) ((orC (fun z_ => [((dwC (shF a__8 b__9 p__18) p__7 x__21) 0), (shC ((dwC (shF a__8 b__9 p__18) p__7 x__21) 1) x9 y9)].getD z_ (fun _ => 0)) 2)), 29), (b330, layS 2 (fun z_ => [((fun _ => ((p__7 : Nat) : Int)) 0), ((fun _ => ((p__7 : Nat) : Int)) 1)].getD z_ 0) (fun z_ => [((dwC (shF a__8 b__9 p__18) p__7 x__21) 0), (shC ((dwC (shF a__8 b__9 p__18) p__7 x__21) 1) x9 y9)].getD z_ (fun _ => 0)), 29), (b42, layV ((fun _ => ((p__7 : Nat) : Int)) 1) ((shC ((dwC (shF a__8 b__9 p__18) p__7 x__21) 1) x9 y9)), 29), (b_o, arrU .u64 s__6 e ++ sp_o, 54), (b115, arrU .i64 (flN (fgQ x__21 (fun _ => ((p__7 : Nat) : Int)) (dwC (shF a__8 b__9 p__18) p__7 x__21) (fun j => markK x__21 ((fun _ => ((p__7 : Nat) : Int)) j) ((dwC (shF a__8 b__9 p__18) p__7 x__21) j) 64)) s__6) (fun j => (fun z => z) (flA (fgQ x__21 (fun _ => ((p__7 : Nat) : Int)) (dwC (shF a__8 b__9 p__18) p__7 x__21) (fun j => markK x__21 ((fun _ => ((p__7 : Nat) : Int)) j) ((dwC (shF a__8 b__9 p__18) p__7 x__21) j) 64)) s__6 j)) ++ sp115, 2), (b108, arrU .i64 (flN (fgQ x__21 (fun _ => ((p__7 : Nat) : Int)) (upd (dwC (shF a__8 b__9 p__18) p__7 x__21) v__29 (upd ((dwC (shF a__8 b__9 p__18) p__7 x__21) v__29) v__33 ((((dwC (shF a__8 b__9 p__18) p__7 x__21) v__29) (v__33)) ^^^ 1))) (fun j => markK x__21 ((fun _ => ((p__7 : Nat) : Int)) j) ((dwC (shF a__8 b__9 p__18) p__7 x__21) j) 64)) s__6) (fun j => (fun z => z) (flA (fgQ x__21 (fun _ => ((p__7 : Nat) : Int)) (upd (dwC (shF a__8 b__9 p__18) p__7 x__21) v__29 (upd ((dwC (shF a__8 b__9 p__18) p__7 x__21) v__29) v__33 ((((dwC (shF a__8 b__9 p__18) p__7 x__21) v__29) (v__33)) ^^^ 1))) (fun j => markK x__21 ((fun _ => ((p__7 : Nat) : Int)) j) ((dwC (shF a__8 b__9 p__18) p__7 x__21) j) 64)) s__6 j)) ++ sp108, 2), (b86, layS s__6 (fun _ => ((p__7 : Nat) : Int)) (upd (dwC (shF a__8 b__9 p__18) p__7 x__21) v__29 (upd ((dwC (shF a__8 b__9 p__18) p__7 x__21) v__29) v__33 ((((dwC (shF a__8 b__9 p__18) p__7 x__21) v__29) (v__33)) ^^^ 1))) ++ sp86, 29), (b81, arrU .u32 s__6 (fun j => markK x__21 ((fun _ => ((p__7 : Nat) : Int)) j) ((dwC (shF a__8 b__9 p__18) p__7 x__21) j) 64) ++ sp81, 26), (b75, arrU .u32 s__6 (fun j => markK x__21 ((fun _ => ((p__7 : Nat) : Int)) j) ((dwC (shF a__8 b__9 p__18) p__7 x__21) j) 64) ++ sp75, 26), (b68, layS s__6 (fun _ => ((p__7 : Nat) : Int)) (dwC (shF a__8 b__9 p__18) p__7 x__21) ++ sp68, 29), (b5, schV ((s__6 : Nat) : Int) ((p__7 : Nat) : Int) (a__8) (b__9), 62)] := st.pick [1, 0, 2, 3, 4, 5, 6, 7, 8, 9, 10] (by decide) rfl
                      exact WT.nil ⟨(b44, b330), (.cons rfl (.cons rfl (.cons rfl (.cons rfl (.cons rfl (.cons rfl (.cons rfl (.nil _)))))))), st⟩
                  clear st
                  rintro ⟨b44, b330⟩ w65 st
                  try dsimp only at st ⊢
                  refine tn ?_
                  refine Wc.seq ?_
                  have hok40 : layOk ((p__7 : Nat) : Int) (orC (fun z_ => [(dwC (shF a__8 b__9 p__18) p__7 x__21) 0, shC ((dwC (shF a__8 b__9 p__18) p__7 x__21) 1) x9 y9].getD z_ (fun _ => 0)) 2) = true := layOk_stk hl0 hl1 rfl x9 y9
                  refine Wc.region rfl ?_
                  refine Wl.loadA (i := 0) st tA_29 rfl rfl (all_sub layV_len) layV_len ?_
                  refine Wl.pure (PR.moveI rfl) ?_
                  refine Wl.callV (c_impl_ContrastOf (p := (fun z_ => [((fun _ => ((p__7 : Nat) : Int)) 0), ((fun _ => ((p__7 : Nat) : Int)) 1)].getD z_ 0) 0) (c := (orC (fun z_ => [((dwC (shF a__8 b__9 p__18) p__7 x__21) 0), (shC ((dwC (shF a__8 b__9 p__18) p__7 x__21) 1) x9 y9)].getD z_ (fun _ => 0)) 2)) (q := p__18) (show -128 ≤ ((p__7 : Nat) : Int) ∧ ((p__7 : Nat) : Int) ≤ 127 by omega) (orC_lt (lit_lt2 ((dwC_lt _ _ _) 0) (shC_lt ((dwC_lt _ _ _) 1) x9 y9)) 2) (by first | assumption | omega) hok40 hqg9) rfl ?_
                  intro w66 hbel
                  replace st := st.call hbel
                  clear hbel
                  refine Wl.pure (PR.moveV (.tuple #[.int .i64 (conZ p__18 (orC (fun z_ => [((dwC (shF a__8 b__9 p__18) p__7 x__21) 0), (shC ((dwC (shF a__8 b__9 p__18) p__7 x__21) 1) x9 y9)].getD z_ (fun _ => 0)) 2)), .int .i64 (0)]) rfl) ?_
                  refine Wl.pure (PR.extr (i := 0) (vs := [.int .i64 (conZ p__18 (orC (fun z_ => [((dwC (shF a__8 b__9 p__18) p__7 x__21) 0), (shC ((dwC (shF a__8 b__9 p__18) p__7 x__21) 1) x9 y9)].getD z_ (fun _ => 0)) 2)), .int .i64 (0)]) rfl rfl) ?_
                  refine Wl.pure (PR.extr (i := 1) (vs := [.int .i64 (conZ p__18 (orC (fun z_ => [((dwC (shF a__8 b__9 p__18) p__7 x__21) 0), (shC ((dwC (shF a__8 b__9 p__18) p__7 x__21) 1) x9 y9)].getD z_ (fun _ => 0)) 2)), .int .i64 (0)]) rfl rfl) ?_
                  refine Wl.pure (PR.assI rfl) ?_
                  refine Wl.pure (PR.assI rfl) ?_
                  refine Wl.nil ?_
                  refine tn ?_
                  refine Wc.seq ?_
                  refine Wc.region rfl ?_
                  refine Wl.pure (PR.moveL rfl) ?_
                  refine Wl.pure (PR.sliceTo (h := 2) tS_37 rfl rfl (by omega)) ?_
                  refine Wl.callV (c_impl_StackLayers (A := some ⟨b68, 0, none⟩) (n := 2) (cp := c68) (p := (fun i => (fun _ => ((p__7 : Nat) : Int)) (0 + i))) (c := (fun i => (dwC (shF a__8 b__9 p__18) p__7 x__21) (0 + i))) ((RdA.mid (layS_row _ _) (st.rdA (i := 9) (n := (s__6 * 65)) rfl (app_all (recV_len (s := 65) (layS_row _ _) _))) (lo := 0) (m := 2) (by omega)).sl) (fun i hi => by dsimp only; omega) (fun i => (dwC_lt _ _ _) (0 + i)) (by first | assumption | omega) (by decide) (rows_lay2 hla0 (by omega)) allPc) rfl ?_
                  intro w67 hbel
                  replace st := st.call hbel
                  clear hbel
                  refine Wl.pure (PR.moveV (.tuple #[.agg (layV ((fun i => (fun _ => ((p__7 : Nat) : Int)) (0 + i)) 0) ((orC (fun i => (dwC (shF a__8 b__9 p__18) p__7 x__21) (0 + i)) 2))).toArray, .int .i64 (0)]) rfl) ?_
                  refine Wl.pure (PR.extr (i := 0) (vs := [.agg (layV ((fun i => (fun _ => ((p__7 : Nat) : Int)) (0 + i)) 0) ((orC (fun i => (dwC (shF a__8 b__9 p__18) p__7 x__21) (0 + i)) 2))).toArray, .int .i64 (0)]) rfl rfl) ?_
                  refine Wl.pure (PR.extr (i := 1) (vs := [.agg (layV ((fun i => (fun _ => ((p__7 : Nat) : Int)) (0 + i)) 0) ((orC (fun i => (dwC (shF a__8 b__9 p__18) p__7 x__21) (0 + i)) 2))).toArray, .int .i64 (0)]) rfl rfl) ?_
                  refine Wl.alloc st tZ_29 rfl ?_
                  clear st
                  intro b48 w68 st
                  refine Wl.storeA (i := 0) (cs' := layV ((fun i => (fun _ => ((p__7 : Nat) : Int)) (0 + i)) 0) ((orC (fun i => (dwC (shF a__8 b__9 p__18) p__7 x__21) (0 + i)) 2))) st tA_29 rfl rfl layV_len layV_one rfl (le_of_len layV_len (by omega)) (all_put layV_len) ?_
                  clear st
                  intro w69 st
                  replace st : St [] w w69 [(b48, layV ((fun i => (fun _ => ((p__7 : Nat) : Int)) (0 + i)) 0) ((orC (fun i => (dwC (shF a__8 b__9 p__18) p__7 x__21) (0 + i)) 2)), 29), (b44, layV ((fun z_ => [((fun _ => ((p__7 : Nat) : Int)) 0), ((fun _ => ((p__7 : Nat) : Int)) 1)].getD z_ 0) 0) ((orC (fun z_ => [((dwC (shF a__8 b__9 p__18) p__7 x__21) 0), (shC ((dwC (shF a__8 b__9 p__18) p__7 x__21) 1) x9 y9)].getD z_ (fun _ => 0)) 2)), 29), (b330, layS 2 (fun z_ => [((fun _ => ((p__7 : Nat) : Int)) 0), ((fun _ => ((p__7 : Nat) : Int)) 1)].getD z_ 0) (fun z_ => [((dwC (shF a__8 b__9 p__18) p__7 x__21) 0), (shC ((dwC (shF a__8 b__9 p__18) p__7 x__21) 1) x9 y9)].getD z_ (fun _ => 0)), 29), (b42, layV ((fun _ => ((p__7 : Nat) : Int)) 1) ((shC ((dwC (shF a__8 b__9 p__18) p__7 x__21) 1) x9 y9)), 29), (b_o, arrU .u64 s__6 e ++ sp_o, 54), (b115, arrU .i64 (flN (fgQ x__21 (fun _ => ((p__7 : Nat) : Int)) (dwC (shF a__8 b__9 p__18) p__7 x__21) (fun j => markK x__21 ((fun _ => ((p__7 : Nat) : Int)) j) ((dwC (shF a__8 b__9 p__18) p__7 x__21) j) 64)) s__6) (fun j => (fun z => z) (flA (fgQ x__21 (fun _ => ((p__7 : Nat) : Int)) (dwC (shF a__8 b__9 p__18) p__7 x__21) (fun j => markK x__21 ((fun _ => ((p__7 : Nat) : Int)) j) ((dwC (shF a__8 b__9 p__18) p__7 x__21) j) 64)) s__6 j)) ++ sp115, 2), (b108, arrU .i64 (flN (fgQ x__21 (fun _ => ((p__7 : Nat) : Int)) (upd (dwC (shF a__8 b__9 p__18) p__7 x__21) v__29 (upd ((dwC (shF a__8 b__9 p__18) p__7 x__21) v__29) v__33 ((((dwC (shF a__8 b__9 p__18) p__7 x__21) v__29) (v__33)) ^^^ 1))) (fun j => markK x__21 ((fun _ => ((p__7 : Nat) : Int)) j) ((dwC (shF a__8 b__9 p__18) p__7 x__21) j) 64)) s__6) (fun j => (fun z => z) (flA (fgQ x__21 (fun _ => ((p__7 : Nat) : Int)) (upd (dwC (shF a__8 b__9 p__18) p__7 x__21) v__29 (upd ((dwC (shF a__8 b__9 p__18) p__7 x__21) v__29) v__33 ((((dwC (shF a__8 b__9 p__18) p__7 x__21) v__29) (v__33)) ^^^ 1))) (fun j => markK x__21 ((fun _ => ((p__7 : Nat) : Int)) j) ((dwC (shF a__8 b__9 p__18) p__7 x__21) j) 64)) s__6 j)) ++ sp108, 2), (b86, layS s__6 (fun _ => ((p__7 : Nat) : Int)) (upd (dwC (shF a__8 b__9 p__18) p__7 x__21) v__29 (upd ((dwC (shF a__8 b__9 p__18) p__7 x__21) v__29) v__33 ((((dwC (shF a__8 b__9 p__18) p__7 x__21) v__29) (v__33)) ^^^ 1))) ++ sp86, 29), (b81, arrU .u32 s__6 (fun j => markK x__21 ((fun _ => ((p__7 : Nat) : Int)) j) ((dwC (shF a__8 b__9 p__18) p__7 x__21) j) 64) ++ sp81, 26), (b75, arrU .u32 s__6 (fun j => markK x__21 ((fun _ => ((p__7 : Nat) : Int)) j) ((dwC (shF a__8 b__9 p__18) p__7 x__21) j) 64) ++ sp75, 26), (b68, layS s__6 (fun _ => ((p__7 : Nat) : Int)) (dwC (shF a__8 b__9 p__18) p__7 x__21) ++ sp68, 29), (b5, schV ((s__6 : Nat) : Int) ((p__7 : Nat) : Int) (a__8) (b__9), 62)] := st
                  refine Wl.pure (PR.assI rfl) ?_
                  refine Wl.nil ?_
                  refine tn ?_
                  refine Wc.seq ?_
                  have hok42 : layOk ((p__7 : Nat) : Int) (orC (fun i => (dwC (shF a__8 b__9 p__18) p__7 x__21) (0 + i)) 2) = true := stk_ok hl0 hl1
                  refine Wc.region rfl ?_
                  refine Wl.loadA (i := 0) st tA_29 rfl rfl (all_sub layV_len) layV_len ?_
                  refine Wl.pure (PR.moveI rfl) ?_
                  refine Wl.callV (c_impl_ContrastOf (p := (fun i => (fun _ => ((p__7 : Nat) : Int)) (0 + i)) 0) (c := (orC (fun i => (dwC (shF a__8 b__9 p__18) p__7 x__21) (0 + i)) 2)) (q := p__18) (show -128 ≤ ((p__7 : Nat) : Int) ∧ ((p__7 : Nat) : Int) ≤ 127 by omega) (orC_lt (fun i => (dwC_lt _ _ _) (0 + i)) 2) (by first | assumption | omega) hok42 hqg9) rfl ?_
                  intro w70 hbel
                  replace st := st.call hbel
                  clear hbel
                  refine Wl.pure (PR.moveV (.tuple #[.int .i64 (conZ p__18 (orC (fun i => (dwC (shF a__8 b__9 p__18) p__7 x__21) (0 + i)) 2)), .int .i64 (0)]) rfl) ?_
                  refine Wl.pure (PR.extr (i := 0) (vs := [.int .i64 (conZ p__18 (orC (fun i => (dwC (shF a__8 b__9 p__18) p__7 x__21) (0 + i)) 2)), .int .i64 (0)]) rfl rfl) ?_
                  refine Wl.pure (PR.extr (i := 1) (vs := [.int .i64 (conZ p__18 (orC (fun i => (dwC (shF a__8 b__9 p__18) p__7 x__21) (0 + i)) 2)), .int .i64 (0)]) rfl rfl) ?_
                  refine Wl.pure (PR.assI rfl) ?_
                  refine Wl.pure (PR.assI rfl) ?_
                  refine Wl.nil ?_
                  refine tn ?_
                  refine Wc.seq ?_
                  have hst9 : conZ p__18 (orC (fun i => (dwC (shF a__8 b__9 p__18) p__7 x__21) (0 + i)) 2) ≤ z9 := Int.le_trans (Int.le_of_eq (conZ_congr fun k hk => rfl)) hge
                  rw [show (conZ p__18 (orC (fun z_ => [((dwC (shF a__8 b__9 p__18) p__7 x__21) 0), (shC ((dwC (shF a__8 b__9 p__18) p__7 x__21) 1) x9 y9)].getD z_ (fun _ => 0)) 2)) = z9 from hx9.symm]
                  refine Wc.region rfl ?_
                  refine Wl.pure (PR.moveI rfl) ?_
                  refine Wl.pure (PR.eqlS (a := 0) rfl rfl) ?_
                  refine Wl.pure (PR.moveB rfl) ?_
                  refine Wl.on rfl rfl ?_
                  refine Wl.pure (PR.moveI rfl) ?_
                  refine Wl.on rfl rfl ?_
                  refine Wl.pure (PR.eqlS (a := 0) rfl rfl) ?_
                  refine Wl.pure (PR.pickTB rfl rfl) ?_
                  refine Wl.pure (PR.moveB rfl) ?_
                  refine Wl.on rfl rfl ?_
                  refine Wl.pure (PR.moveI rfl) ?_
                  refine Wl.on rfl rfl ?_
                  refine Wl.pure (PR.eqlS (a := 0) rfl rfl) ?_
                  refine Wl.pure (PR.pickTB rfl rfl) ?_
                  refine Wl.pure (PR.moveB rfl) ?_
                  refine Wl.on rfl rfl ?_
                  refine Wl.pure (PR.moveI rfl) ?_
                  refine Wl.on rfl rfl ?_
                  refine Wl.pure (PR.moveI rfl) ?_
                  refine Wl.on rfl rfl ?_
                  refine Wl.pure (PR.eqlS (a := z9) rfl rfl) ?_
                  refine Wl.pure (PR.pickTB rfl rfl) ?_
                  refine Wl.pure (PR.moveB rfl) ?_
                  refine Wl.on rfl rfl ?_
                  refine Wl.pure (PR.moveI rfl) ?_
                  refine Wl.on rfl rfl ?_
                  refine Wl.pure (PR.eqlS (a := 0) rfl rfl) ?_
                  refine Wl.pure (PR.pickTB rfl rfl) ?_
                  refine Wl.pure (PR.moveB rfl) ?_
                  refine Wl.on rfl rfl ?_
                  refine Wl.pure (PR.moveI rfl) ?_
                  refine Wl.on rfl rfl ?_
                  refine Wl.pure (PR.eqlS (a := 0) rfl rfl) ?_
                  refine Wl.pure (PR.pickTB rfl rfl) ?_
                  refine Wl.pure (PR.moveB rfl) ?_
                  refine Wl.on rfl rfl ?_
                  refine Wl.pure (PR.moveI rfl) ?_
                  refine Wl.on rfl rfl ?_
                  refine Wl.pure (PR.moveI rfl) ?_
                  refine Wl.on rfl rfl ?_
                  refine Wl.pure (PR.geq (a := z9) (b := conZ p__18 (orC (fun i => (dwC (shF a__8 b__9 p__18) p__7 x__21) (0 + i)) 2)) rfl rfl) ?_
                  rw [show (decide (conZ p__18 (orC (fun i => (dwC (shF a__8 b__9 p__18) p__7 x__21) (0 + i)) 2) ≤ z9)) = true from (decide_eq_true hst9)]
                  refine Wl.pure (PR.pickTB rfl rfl) ?_
                  refine Wl.pure (PR.assB rfl) ?_
                  refine Wl.nil ?_
                  refine tn ?_
                  refine Wc.ret ?_
                  refine postL.tmp rfl rfl ?_
                  exact RetV.of rfl st.below
                · rw [show (selZ (bsC ((fun _ => ((p__7 : Nat) : Int)) 0) ((dwC (shF a__8 b__9 p__18) p__7 x__21) 0) ((fun _ => ((p__7 : Nat) : Int)) 1) ((dwC (shF a__8 b__9 p__18) p__7 x__21) 1) p__18) (bsF p__18 ((dwC (shF a__8 b__9 p__18) p__7 x__21) 0) ((dwC (shF a__8 b__9 p__18) p__7 x__21) 1) 25).1) = 0 from (selZ_n hbs)]
                  rw [show (selZ (bsC ((fun _ => ((p__7 : Nat) : Int)) 0) ((dwC (shF a__8 b__9 p__18) p__7 x__21) 0) ((fun _ => ((p__7 : Nat) : Int)) 1) ((dwC (shF a__8 b__9 p__18) p__7 x__21) 1) p__18) (bsF p__18 ((dwC (shF a__8 b__9 p__18) p__7 x__21) 0) ((dwC (shF a__8 b__9 p__18) p__7 x__21) 1) 25).2.1) = 0 from (selZ_n hbs)]
                  rw [show (selZ (bsC ((fun _ => ((p__7 : Nat) : Int)) 0) ((dwC (shF a__8 b__9 p__18) p__7 x__21) 0) ((fun _ => ((p__7 : Nat) : Int)) 1) ((dwC (shF a__8 b__9 p__18) p__7 x__21) 1) p__18) (bsF p__18 ((dwC (shF a__8 b__9 p__18) p__7 x__21) 0) ((dwC (shF a__8 b__9 p__18) p__7 x__21) 1) 25).2.2) = 0 from (selZ_n hbs)]
                  rw [show (bsC ((fun _ => ((p__7 : Nat) : Int)) 0) ((dwC (shF a__8 b__9 p__18) p__7 x__21) 0) ((fun _ => ((p__7 : Nat) : Int)) 1) ((dwC (shF a__8 b__9 p__18) p__7 x__21) 1) p__18) = 6 from (bs_6 hl0 hl1 hbs)]
                  refine Wc.region rfl ?_
                  refine Wl.pure (PR.moveI rfl) ?_
                  refine Wl.pure (PR.moveI rfl) ?_
                  refine Wl.pure (PR.neqS (a := 6) rfl rfl) ?_
                  refine Wl.pure (PR.moveB rfl) ?_
                  refine Wl.on rfl rfl ?_
                  refine Wl.pure (PR.moveI rfl) ?_
                  refine Wl.on rfl rfl ?_
                  refine Wl.pure (PR.moveI rfl) ?_
                  refine Wl.on rfl rfl ?_
                  refine Wl.pure (PR.neqS (a := 0) rfl rfl) ?_
                  refine Wl.pure (PR.pickFB rfl rfl) ?_
                  refine Wl.pure (PR.moveB rfl) ?_
                  refine Wl.on rfl rfl ?_
                  refine Wl.pure (PR.moveI rfl) ?_
                  refine Wl.on rfl rfl ?_
                  refine Wl.pure (PR.moveI rfl) ?_
                  refine Wl.on rfl rfl ?_
                  refine Wl.pure (PR.neqS (a := 0) rfl rfl) ?_
                  refine Wl.pure (PR.pickFB rfl rfl) ?_
                  refine Wl.pure (PR.moveB rfl) ?_
                  refine Wl.on rfl rfl ?_
                  refine Wl.pure (PR.moveI rfl) ?_
                  refine Wl.on rfl rfl ?_
                  refine Wl.pure (PR.moveI rfl) ?_
                  refine Wl.on rfl rfl ?_
                  refine Wl.pure (PR.neqS (a := 0) rfl rfl) ?_
                  refine Wl.pure (PR.pickFB rfl rfl) ?_
                  refine Wl.pure (PR.moveB rfl) ?_
                  refine Wl.on rfl rfl ?_
                  refine Wl.pure (PR.moveI rfl) ?_
                  refine Wl.on rfl rfl ?_
                  refine Wl.pure ((show PR _ _ _ (Value.bool true) from PR.neq (a := (6 : Int)) (b := (0 : Int)) rfl rfl)) ?_
                  refine Wl.on rfl rfl ?_
                  refine Wl.pure (PR.moveB rfl) ?_
                  refine Wl.on rfl rfl ?_
                  refine Wl.pure (PR.moveI rfl) ?_
                  refine Wl.on rfl rfl ?_
                  refine Wl.pure (PR.neqS (a := 6) rfl rfl) ?_
                  refine Wl.on rfl rfl ?_
                  refine Wl.pure (PR.pickTB rfl rfl) ?_
                  refine Wl.pure (PR.pickFB rfl rfl) ?_
                  refine Wl.nil ?_
                  refine tn ?_
                  refine Wc.condF rfl ?_
                  refine Wc.skip ?_
                  refine tn ?_
                  refine Wc.seq ?_
                  refine Wc.seq ?_
                  refine Wc.region rfl ?_
                  refine Wl.pure (PR.moveI rfl) ?_
                  refine Wl.pure ((show PR _ _ _ (Value.bool true) from PR.neq (a := (6 : Int)) (b := (0 : Int)) rfl rfl)) ?_
                  refine Wl.nil ?_
                  refine tn ?_
                  refine Wc.condT rfl ?_
                  refine Wc.seq ?_
                  refine Wc.region rfl ?_
                  refine Wl.pure (PR.assB rfl) ?_
                  refine Wl.nil ?_
                  refine tn ?_
                  refine Wc.ret ?_
                  refine tr ?_
                  refine postL.tmp rfl rfl ?_
                  exact RetV.of rfl st.below
            · simp only [Bool.not_eq_true', Bool.not_eq_false', Bool.not_true, Bool.not_false] at h53
              refine Wl.off rfl rfl rfl ?_
              refine Wl.off rfl rfl rfl ?_
              refine Wl.offU rfl rfl ?_
              refine Wl.offU rfl rfl ?_
              refine Wl.off rfl rfl rfl ?_
              refine Wl.pure (PR.pickTB rfl rfl) ?_
              refine Wl.pure (PR.moveB rfl) ?_
              refine Wl.off rfl rfl rfl ?_
              refine Wl.off rfl rfl rfl ?_
              refine Wl.offU rfl rfl ?_
              refine Wl.offU rfl rfl ?_
              refine Wl.offU rfl rfl ?_
              refine Wl.offU rfl rfl ?_
              refine Wl.offU rfl rfl ?_
              refine Wl.offU rfl rfl ?_
              refine Wl.offU rfl rfl ?_
              refine Wl.offU rfl rfl ?_
              refine Wl.offU rfl rfl ?_
              refine Wl.offU rfl rfl ?_
              refine Wl.off rfl rfl rfl ?_
              refine Wl.pure (PR.pickTB rfl rfl) ?_
              refine Wl.nil ?_
              refine tn ?_
              refine Wc.condT rfl ?_
              refine Wc.seq ?_
              refine Wc.region rfl ?_
              refine Wl.pure (PR.assB rfl) ?_
              refine Wl.nil ?_
              refine tn ?_
              refine Wc.ret ?_
              refine tr ?_
              refine postL.tmp rfl rfl ?_
              refine RetV.of ?_ st.below
              refine congrArg Value.bool ?_
              first | rfl | (exfalso; omega) | (simp only [*, decide_true, decide_false, Bool.not_true, Bool.not_false]; done) | (simp; omega) | (rw [Bool.eq_iff_iff]; simp; omega) | simp_all
          · refine Wc.region rfl ?_
            refine Wl.loadA (i := 7) st tA_62 rfl rfl (all_sub schV_len) schV_len ?_
            refine Wl.pure (PR.moveI rfl) ?_
            refine Wl.callV (c_spec_SeesWith (s := ((s__6 : Nat) : Int)) (p := ((p__7 : Nat) : Int)) (a := a__8) (b := b__9) (x := (2 ^ s__6 - 1)) (by first | assumption | omega) (by first | assumption | omega) (by assumption) (by assumption) (show 2 ^ s__6 - 1 < 256 by have := Nat.pow_le_pow_right (n := 2) (by decide) (show s__6 ≤ 6 by omega); omega) (by first | assumption | omega)) rfl ?_
            intro w71 hbel
            replace st := st.call hbel
            clear hbel
            refine Wl.pure (PR.moveV (.tuple #[.bool (decide (rsC ((s__6 : Nat) : Int) a__8 b__9 (2 ^ s__6 - 1) = 0)), .int .i64 (((selN (rsC ((s__6 : Nat) : Int) a__8 b__9 (2 ^ s__6 - 1)) (wt b__9 (2 ^ s__6 - 1)) : Nat) : Int)), .int .i64 (((swC ((s__6 : Nat) : Int) (2 ^ s__6 - 1) : Nat) : Int))]) rfl) ?_
            refine Wl.pure (PR.extr (i := 0) (vs := [.bool (decide (rsC ((s__6 : Nat) : Int) a__8 b__9 (2 ^ s__6 - 1) = 0)), .int .i64 (((selN (rsC ((s__6 : Nat) : Int) a__8 b__9 (2 ^ s__6 - 1)) (wt b__9 (2 ^ s__6 - 1)) : Nat) : Int)), .int .i64 (((swC ((s__6 : Nat) : Int) (2 ^ s__6 - 1) : Nat) : Int))]) rfl rfl) ?_
            refine Wl.pure (PR.extr (i := 1) (vs := [.bool (decide (rsC ((s__6 : Nat) : Int) a__8 b__9 (2 ^ s__6 - 1) = 0)), .int .i64 (((selN (rsC ((s__6 : Nat) : Int) a__8 b__9 (2 ^ s__6 - 1)) (wt b__9 (2 ^ s__6 - 1)) : Nat) : Int)), .int .i64 (((swC ((s__6 : Nat) : Int) (2 ^ s__6 - 1) : Nat) : Int))]) rfl rfl) ?_
            refine Wl.pure (PR.extr (i := 2) (vs := [.bool (decide (rsC ((s__6 : Nat) : Int) a__8 b__9 (2 ^ s__6 - 1) = 0)), .int .i64 (((selN (rsC ((s__6 : Nat) : Int) a__8 b__9 (2 ^ s__6 - 1)) (wt b__9 (2 ^ s__6 - 1)) : Nat) : Int)), .int .i64 (((swC ((s__6 : Nat) : Int) (2 ^ s__6 - 1) : Nat) : Int))]) rfl rfl) ?_
            refine Wl.pure (PR.assB rfl) ?_
            refine Wl.pure (PR.assI rfl) ?_
            refine Wl.pure (PR.assI rfl) ?_
            refine Wl.nil ?_
            refine tn ?_
            refine Wc.seq ?_
            refine Wc.seq ?_
            have hrt : rtC ((s__6 : Nat) : Int) ((p__7 : Nat) : Int) a__8 b__9 s__6 (fun _ => ((p__7 : Nat) : Int)) (dwC (shF a__8 b__9 p__18) p__7 x__21) (2 ^ s__6 - 1) s__6 = rsC ((s__6 : Nat) : Int) a__8 b__9 (2 ^ s__6 - 1) := rt_all hb0 rfl
            rw [show (rtC ((s__6 : Nat) : Int) ((p__7 : Nat) : Int) a__8 b__9 s__6 (fun _ => ((p__7 : Nat) : Int)) (dwC (shF a__8 b__9 p__18) p__7 x__21) (2 ^ s__6 - 1) s__6) = 8 from (hrt.trans (hrs.resolve_left hsee))]
            rw [show (decide (rsC ((s__6 : Nat) : Int) a__8 b__9 (2 ^ s__6 - 1) = 0)) = false from decide_eq_false hsee]
            rw [show (swC ((s__6 : Nat) : Int) (2 ^ s__6 - 1)) = 0 from (swC_0 hso)]
            refine Wc.region rfl ?_
            refine Wl.pure (PR.moveI rfl) ?_
            refine Wl.pure (PR.neqS (a := 0) rfl rfl) ?_
            refine Wl.pure (PR.moveB rfl) ?_
            refine Wl.on rfl rfl ?_
            refine Wl.pure (PR.moveI rfl) ?_
            refine Wl.on rfl rfl ?_
            refine Wl.pure ((show PR _ _ _ (Value.bool false) from PR.eql (a := (8 : Int)) (b := (0 : Int)) rfl rfl)) ?_
            refine Wl.on rfl rfl ?_
            refine Wl.pure (PR.moveB rfl) ?_
            refine Wl.on rfl rfl ?_
            refine Wl.pure (PR.neqB (a := false) (b := false) Try.underlying4 rfl rfl) ?_
            refine Wl.pure (PR.pickFB rfl rfl) ?_
            refine Wl.pure (PR.moveB rfl) ?_
            refine Wl.splitB (b := (!((false == false)))) rfl rfl (fun h72 => ?_) (fun h72 => ?_)
            · simp only [Bool.not_eq_true', Bool.not_eq_false', Bool.not_true, Bool.not_false] at h72
              refine Wl.pure (PR.moveB rfl) ?_
              refine Wl.on rfl rfl ?_
              refine Wl.pure (PR.not_ rfl) ?_
              refine Wl.on rfl rfl ?_
              refine Wl.pure (PR.moveB rfl) ?_
              refine Wl.on rfl rfl ?_
              refine Wl.pure (PR.moveI rfl) ?_
              refine Wl.on rfl rfl ?_
              refine Wl.pure (PR.neqS (a := 8) rfl rfl) ?_
              refine Wl.on rfl rfl ?_
              refine Wl.pure (PR.pickTB rfl rfl) ?_
              refine Wl.pure (PR.pickFB rfl rfl) ?_
              refine Wl.pure (PR.moveB rfl) ?_
              refine Wl.on rfl rfl ?_
              refine Wl.pure (PR.moveB rfl) ?_
              refine Wl.on rfl rfl ?_
              refine Wl.pure (PR.moveB rfl) ?_
              refine Wl.off rfl rfl rfl ?_
              refine Wl.off rfl rfl rfl ?_
              refine Wl.off rfl rfl rfl ?_
              refine Wl.off rfl rfl rfl ?_
              refine Wl.offU rfl rfl ?_
              refine Wl.offU rfl rfl ?_
              refine Wl.offU rfl rfl ?_
              refine Wl.offU rfl rfl ?_
              refine Wl.offU rfl rfl ?_
              refine Wl.off rfl rfl rfl ?_
              refine Wl.on rfl rfl ?_
              refine Wl.pure (PR.pickFB rfl rfl) ?_
              refine Wl.pure (PR.pickFB rfl rfl) ?_
              refine Wl.nil ?_
              refine tn ?_
              refine Wc.condF rfl ?_
              refine Wc.skip ?_
              refine tn ?_
              refine Wc.seq ?_
              refine Wc.seq ?_
              refine Wc.region rfl ?_
              refine Wl.pure (PR.moveL rfl) ?_
              refine Wl.pure (PR.lenL tS_37 rfl) ?_
              refine Wl.pure (PR.lss (a := ((s__6 : Nat) : Int)) (b := 2) rfl rfl) ?_
              refine Wl.nil ?_
              refine tn ?_
              refine Wc.condD (p := ((s__6 : Nat) : Int) < 2) rfl (fun h73 => ?_) (fun h73 => ?_)
              · refine Wc.seq ?_
                refine Wc.region rfl ?_
                refine Wl.pure (PR.assB rfl) ?_
                refine Wl.nil ?_
                refine tn ?_
                refine Wc.ret ?_
                refine tr ?_
                refine postL.tmp rfl rfl ?_
                exact RetV.of rfl st.below
              · refine Wc.skip ?_
                refine tn ?_
                refine Wc.seq ?_
                have hl0 : layOk ((p__7 : Nat) : Int) ((dwC (shF a__8 b__9 p__18) p__7 x__21) 0) = true := layOk_iffN.2 ⟨by omega, hC0 0 (by omega)⟩
                have hl1 : layOk ((p__7 : Nat) : Int) ((dwC (shF a__8 b__9 p__18) p__7 x__21) 1) = true := layOk_iffN.2 ⟨by omega, hC0 1 (by omega)⟩
                refine Wc.quiet hmix (by kernel_rfl) rfl ?_
                refine Wq.pure (PR.moveL rfl) ?_
                refine Wq.pure (PR.idxAddrS (i := 0) tS_37 rfl rfl (by omega)) ?_
                refine Wq.loadA (i := 6) (vs := layV ((fun _ => ((p__7 : Nat) : Int)) 0) (((dwC (shF a__8 b__9 p__18) p__7 x__21) 0))) st tA_29 rfl rfl (app_sub (recV_sub0 (n := s__6) (i := 0) (layS_row _ _) (by omega)) (recV_tot (n := s__6) (i := 0) (layS_row _ _) (by omega))) layV_len ?_
                refine Wq.pure (PR.moveL rfl) ?_
                refine Wq.pure (PR.idxAddrS (i := 1) tS_37 rfl rfl (by omega)) ?_
                refine Wq.loadA (i := 6) (vs := layV ((fun _ => ((p__7 : Nat) : Int)) 1) (((dwC (shF a__8 b__9 p__18) p__7 x__21) 1))) st tA_29 rfl rfl (app_sub (recV_sub0 (n := s__6) (i := 1) (layS_row _ _) (by omega)) (recV_tot (n := s__6) (i := 1) (layS_row _ _) (by omega))) layV_len ?_
                refine Wq.pure (PR.moveI rfl) ?_
                refine Wq.callV (fun _ hbel => c_impl_BestShift (p := (fun _ => ((p__7 : Nat) : Int)) 0) (c := ((dwC (shF a__8 b__9 p__18) p__7 x__21) 0)) (r := (fun _ => ((p__7 : Nat) : Int)) 1) (d := ((dwC (shF a__8 b__9 p__18) p__7 x__21) 1)) (q := p__18) (by dsimp only; omega) ((dwC_lt _ _ _) 0) (by dsimp only; omega) ((dwC_lt _ _ _) 1) (by first | assumption | omega)) rfl ?_
                refine Wq.pure (PR.moveV (.tuple #[.int .i64 (selZ (bsC ((fun _ => ((p__7 : Nat) : Int)) 0) ((dwC (shF a__8 b__9 p__18) p__7 x__21) 0) ((fun _ => ((p__7 : Nat) : Int)) 1) ((dwC (shF a__8 b__9 p__18) p__7 x__21) 1) p__18) (bsF p__18 ((dwC (shF a__8 b__9 p__18) p__7 x__21) 0) ((dwC (shF a__8 b__9 p__18) p__7 x__21) 1) 25).1), .int .i64 (selZ (bsC ((fun _ => ((p__7 : Nat) : Int)) 0) ((dwC (shF a__8 b__9 p__18) p__7 x__21) 0) ((fun _ => ((p__7 : Nat) : Int)) 1) ((dwC (shF a__8 b__9 p__18) p__7 x__21) 1) p__18) (bsF p__18 ((dwC (shF a__8 b__9 p__18) p__7 x__21) 0) ((dwC (shF a__8 b__9 p__18) p__7 x__21) 1) 25).2.1), .int .i64 (selZ (bsC ((fun _ => ((p__7 : Nat) : Int)) 0) ((dwC (shF a__8 b__9 p__18) p__7 x__21) 0) ((fun _ => ((p__7 : Nat) : Int)) 1) ((dwC (shF a__8 b__9 p__18) p__7 x__21) 1) p__18) (bsF p__18 ((dwC (shF a__8 b__9 p__18) p__7 x__21) 0) ((dwC (shF a__8 b__9 p__18) p__7 x__21) 1) 25).2.2), .int .i64 (((bsC ((fun _ => ((p__7 : Nat) : Int)) 0) ((dwC (shF a__8 b__9 p__18) p__7 x__21) 0) ((fun _ => ((p__7 : Nat) : Int)) 1) ((dwC (shF a__8 b__9 p__18) p__7 x__21) 1) p__18 : Nat) : Int))]) rfl) ?_
                refine Wq.pure (PR.extr (i := 0) (vs := [.int .i64 (selZ (bsC ((fun _ => ((p__7 : Nat) : Int)) 0) ((dwC (shF a__8 b__9 p__18) p__7 x__21) 0) ((fun _ => ((p__7 : Nat) : Int)) 1) ((dwC (shF a__8 b__9 p__18) p__7 x__21) 1) p__18) (bsF p__18 ((dwC (shF a__8 b__9 p__18) p__7 x__21) 0) ((dwC (shF a__8 b__9 p__18) p__7 x__21) 1) 25).1), .int .i64 (selZ (bsC ((fun _ => ((p__7 : Nat) : Int)) 0) ((dwC (shF a__8 b__9 p__18) p__7 x__21) 0) ((fun _ => ((p__7 : Nat) : Int)) 1) ((dwC (shF a__8 b__9 p__18) p__7 x__21) 1) p__18) (bsF p__18 ((dwC (shF a__8 b__9 p__18) p__7 x__21) 0) ((dwC (shF a__8 b__9 p__18) p__7 x__21) 1) 25).2.1), .int .i64 (selZ (bsC ((fun _ => ((p__7 : Nat) : Int)) 0) ((dwC (shF a__8 b__9 p__18) p__7 x__21) 0) ((fun _ => ((p__7 : Nat) : Int)) 1) ((dwC (shF a__8 b__9 p__18) p__7 x__21) 1) p__18) (bsF p__18 ((dwC (shF a__8 b__9 p__18) p__7 x__21) 0) ((dwC (shF a__8 b__9 p__18) p__7 x__21) 1) 25).2.2), .int .i64 (((bsC ((fun _ => ((p__7 : Nat) : Int)) 0) ((dwC (shF a__8 b__9 p__18) p__7 x__21) 0) ((fun _ => ((p__7 : Nat) : Int)) 1) ((dwC (shF a__8 b__9 p__18) p__7 x__21) 1) p__18 : Nat) : Int))]) rfl rfl) ?_
                refine Wq.pure (PR.extr (i := 1) (vs := [.int .i64 (selZ (bsC ((fun _ => ((p__7 : Nat) : Int)) 0) ((dwC (shF a__8 b__9 p__18) p__7 x__21) 0) ((fun _ => ((p__7 : Nat) : Int)) 1) ((dwC (shF a__8 b__9 p__18) p__7 x__21) 1) p__18) (bsF p__18 ((dwC (shF a__8 b__9 p__18) p__7 x__21) 0) ((dwC (shF a__8 b__9 p__18) p__7 x__21) 1) 25).1), .int .i64 (selZ (bsC ((fun _ => ((p__7 : Nat) : Int)) 0) ((dwC (shF a__8 b__9 p__18) p__7 x__21) 0) ((fun _ => ((p__7 : Nat) : Int)) 1) ((dwC (shF a__8 b__9 p__18) p__7 x__21) 1) p__18) (bsF p__18 ((dwC (shF a__8 b__9 p__18) p__7 x__21) 0) ((dwC (shF a__8 b__9 p__18) p__7 x__21) 1) 25).2.1), .int .i64 (selZ (bsC ((fun _ => ((p__7 : Nat) : Int)) 0) ((dwC (shF a__8 b__9 p__18) p__7 x__21) 0) ((fun _ => ((p__7 : Nat) : Int)) 1) ((dwC (shF a__8 b__9 p__18) p__7 x__21) 1) p__18) (bsF p__18 ((dwC (shF a__8 b__9 p__18) p__7 x__21) 0) ((dwC (shF a__8 b__9 p__18) p__7 x__21) 1) 25).2.2), .int .i64 (((bsC ((fun _ => ((p__7 : Nat) : Int)) 0) ((dwC (shF a__8 b__9 p__18) p__7 x__21) 0) ((fun _ => ((p__7 : Nat) : Int)) 1) ((dwC (shF a__8 b__9 p__18) p__7 x__21) 1) p__18 : Nat) : Int))]) rfl rfl) ?_
                refine Wq.pure (PR.extr (i := 2) (vs := [.int .i64 (selZ (bsC ((fun _ => ((p__7 : Nat) : Int)) 0) ((dwC (shF a__8 b__9 p__18) p__7 x__21) 0) ((fun _ => ((p__7 : Nat) : Int)) 1) ((dwC (shF a__8 b__9 p__18) p__7 x__21) 1) p__18) (bsF p__18 ((dwC (shF a__8 b__9 p__18) p__7 x__21) 0) ((dwC (shF a__8 b__9 p__18) p__7 x__21) 1) 25).1), .int .i64 (selZ (bsC ((fun _ => ((p__7 : Nat) : Int)) 0) ((dwC (shF a__8 b__9 p__18) p__7 x__21) 0) ((fun _ => ((p__7 : Nat) : Int)) 1) ((dwC (shF a__8 b__9 p__18) p__7 x__21) 1) p__18) (bsF p__18 ((dwC (shF a__8 b__9 p__18) p__7 x__21) 0) ((dwC (shF a__8 b__9 p__18) p__7 x__21) 1) 25).2.1), .int .i64 (selZ (bsC ((fun _ => ((p__7 : Nat) : Int)) 0) ((dwC (shF a__8 b__9 p__18) p__7 x__21) 0) ((fun _ => ((p__7 : Nat) : Int)) 1) ((dwC (shF a__8 b__9 p__18) p__7 x__21) 1) p__18) (bsF p__18 ((dwC (shF a__8 b__9 p__18) p__7 x__21) 0) ((dwC (shF a__8 b__9 p__18) p__7 x__21) 1) 25).2.2), .int .i64 (((bsC ((fun _ => ((p__7 : Nat) : Int)) 0) ((dwC (shF a__8 b__9 p__18) p__7 x__21) 0) ((fun _ => ((p__7 : Nat) : Int)) 1) ((dwC (shF a__8 b__9 p__18) p__7 x__21) 1) p__18 : Nat) : Int))]) rfl rfl) ?_
                refine Wq.pure (PR.extr (i := 3) (vs := [.int .i64 (selZ (bsC ((fun _ => ((p__7 : Nat) : Int)) 0) ((dwC (shF a__8 b__9 p__18) p__7 x__21) 0) ((fun _ => ((p__7 : Nat) : Int)) 1) ((dwC (shF a__8 b__9 p__18) p__7 x__21) 1) p__18) (bsF p__18 ((dwC (shF a__8 b__9 p__18) p__7 x__21) 0) ((dwC (shF a__8 b__9 p__18) p__7 x__21) 1) 25).1), .int .i64 (selZ (bsC ((fun _ => ((p__7 : Nat) : Int)) 0) ((dwC (shF a__8 b__9 p__18) p__7 x__21) 0) ((fun _ => ((p__7 : Nat) : Int)) 1) ((dwC (shF a__8 b__9 p__18) p__7 x__21) 1) p__18) (bsF p__18 ((dwC (shF a__8 b__9 p__18) p__7 x__21) 0) ((dwC (shF a__8 b__9 p__18) p__7 x__21) 1) 25).2.1), .int .i64 (selZ (bsC ((fun _ => ((p__7 : Nat) : Int)) 0) ((dwC (shF a__8 b__9 p__18) p__7 x__21) 0) ((fun _ => ((p__7 : Nat) : Int)) 1) ((dwC (shF a__8 b__9 p__18) p__7 x__21) 1) p__18) (bsF p__18 ((dwC (shF a__8 b__9 p__18) p__7 x__21) 0) ((dwC (shF a__8 b__9 p__18) p__7 x__21) 1) 25).2.2), .int .i64 (((bsC ((fun _ => ((p__7 : Nat) : Int)) 0) ((dwC (shF a__8 b__9 p__18) p__7 x__21) 0) ((fun _ => ((p__7 : Nat) : Int)) 1) ((dwC (shF a__8 b__9 p__18) p__7 x__21) 1) p__18 : Nat) : Int))]) rfl rfl) ?_
                refine Wq.pure (PR.assI rfl) ?_
                refine Wq.pure (PR.assI rfl) ?_
                refine Wq.pure (PR.assI rfl) ?_
                refine Wq.pure (PR.assI rfl) ?_
                refine Wq.nil (fun w74 hbel => ?_)
                replace st := st.call hbel
                clear hbel
                refine tn ?_
                refine Wc.seq ?_
                refine Wc.quiet hmix (by kernel_rfl) rfl ?_
                refine Wq.pure (PR.moveL rfl) ?_
                refine Wq.pure (PR.idxAddrS (i := 0) tS_37 rfl rfl (by omega)) ?_
                refine Wq.loadA (i := 6) (vs := layV ((fun _ => ((p__7 : Nat) : Int)) 0) (((dwC (shF a__8 b__9 p__18) p__7 x__21) 0))) st tA_29 rfl rfl (app_sub (recV_sub0 (n := s__6) (i := 0) (layS_row _ _) (by omega)) (recV_tot (n := s__6) (i := 0) (layS_row _ _) (by omega))) layV_len ?_
                refine Wq.pure (PR.moveL rfl) ?_
                refine Wq.pure (PR.idxAddrS (i := 1) tS_37 rfl rfl (by omega)) ?_
                refine Wq.loadA (i := 6) (vs := layV ((fun _ => ((p__7 : Nat) : Int)) 1) (((dwC (shF a__8 b__9 p__18) p__7 x__21) 1))) st tA_29 rfl rfl (app_sub (recV_sub0 (n := s__6) (i := 1) (layS_row _ _) (by omega)) (recV_tot (n := s__6) (i := 1) (layS_row _ _) (by omega))) layV_len ?_
                refine Wq.pure (PR.moveI rfl) ?_
                refine Wq.callV (fun _ hbel => c_spec_BestShift (p := (fun _ => ((p__7 : Nat) : Int)) 0) (c := ((dwC (shF a__8 b__9 p__18) p__7 x__21) 0)) (r := (fun _ => ((p__7 : Nat) : Int)) 1) (d := ((dwC (shF a__8 b__9 p__18) p__7 x__21) 1)) (q := p__18) (by dsimp only; omega) ((dwC_lt _ _ _) 0) (by dsimp only; omega) ((dwC_lt _ _ _) 1) (by first | assumption | omega)) rfl ?_
                refine Wq.pure (PR.moveV (.tuple #[.int .i64 (selZ (bsC ((fun _ => ((p__7 : Nat) : Int)) 0) ((dwC (shF a__8 b__9 p__18) p__7 x__21) 0) ((fun _ => ((p__7 : Nat) : Int)) 1) ((dwC (shF a__8 b__9 p__18) p__7 x__21) 1) p__18) (bsF p__18 ((dwC (shF a__8 b__9 p__18) p__7 x__21) 0) ((dwC (shF a__8 b__9 p__18) p__7 x__21) 1) 25).1), .int .i64 (selZ (bsC ((fun _ => ((p__7 : Nat) : Int)) 0) ((dwC (shF a__8 b__9 p__18) p__7 x__21) 0) ((fun _ => ((p__7 : Nat) : Int)) 1) ((dwC (shF a__8 b__9 p__18) p__7 x__21) 1) p__18) (bsF p__18 ((dwC (shF a__8 b__9 p__18) p__7 x__21) 0) ((dwC (shF a__8 b__9 p__18) p__7 x__21) 1) 25).2.1), .int .i64 (selZ (bsC ((fun _ => ((p__7 : Nat) : Int)) 0) ((dwC (shF a__8 b__9 p__18) p__7 x__21) 0) ((fun _ => ((p__7 : Nat) : Int)) 1) ((dwC (shF a__8 b__9 p__18) p__7 x__21) 1) p__18) (bsF p__18 ((dwC (shF a__8 b__9 p__18) p__7 x__21) 0) ((dwC (shF a__8 b__9 p__18) p__7 x__21) 1) 25).2.2), .int .i64 (((bsC ((fun _ => ((p__7 : Nat) : Int)) 0) ((dwC (shF a__8 b__9 p__18) p__7 x__21) 0) ((fun _ => ((p__7 : Nat) : Int)) 1) ((dwC (shF a__8 b__9 p__18) p__7 x__21) 1) p__18 : Nat) : Int))]) rfl) ?_
                refine Wq.pure (PR.extr (i := 0) (vs := [.int .i64 (selZ (bsC ((fun _ => ((p__7 : Nat) : Int)) 0) ((dwC (shF a__8 b__9 p__18) p__7 x__21) 0) ((fun _ => ((p__7 : Nat) : Int)) 1) ((dwC (shF a__8 b__9 p__18) p__7 x__21) 1) p__18) (bsF p__18 ((dwC (shF a__8 b__9 p__18) p__7 x__21) 0) ((dwC (shF a__8 b__9 p__18) p__7 x__21) 1) 25).1), .int .i64 (selZ (bsC ((fun _ => ((p__7 : Nat) : Int)) 0) ((dwC (shF a__8 b__9 p__18) p__7 x__21) 0) ((fun _ => ((p__7 : Nat) : Int)) 1) ((dwC (shF a__8 b__9 p__18) p__7 x__21) 1) p__18) (bsF p__18 ((dwC (shF a__8 b__9 p__18) p__7 x__21) 0) ((dwC (shF a__8 b__9 p__18) p__7 x__21) 1) 25).2.1), .int .i64 (selZ (bsC ((fun _ => ((p__7 : Nat) : Int)) 0) ((dwC (shF a__8 b__9 p__18) p__7 x__21) 0) ((fun _ => ((p__7 : Nat) : Int)) 1) ((dwC (shF a__8 b__9 p__18) p__7 x__21) 1) p__18) (bsF p__18 ((dwC (shF a__8 b__9 p__18) p__7 x__21) 0) ((dwC (shF a__8 b__9 p__18) p__7 x__21) 1) 25).2.2), .int .i64 (((bsC ((fun _ => ((p__7 : Nat) : Int)) 0) ((dwC (shF a__8 b__9 p__18) p__7 x__21) 0) ((fun _ => ((p__7 : Nat) : Int)) 1) ((dwC (shF a__8 b__9 p__18) p__7 x__21) 1) p__18 : Nat) : Int))]) rfl rfl) ?_
                refine Wq.pure (PR.extr (i := 1) (vs := [.int .i64 (selZ (bsC ((fun _ => ((p__7 : Nat) : Int)) 0) ((dwC (shF a__8 b__9 p__18) p__7 x__21) 0) ((fun _ => ((p__7 : Nat) : Int)) 1) ((dwC (shF a__8 b__9 p__18) p__7 x__21) 1) p__18) (bsF p__18 ((dwC (shF a__8 b__9 p__18) p__7 x__21) 0) ((dwC (shF a__8 b__9 p__18) p__7 x__21) 1) 25).1), .int .i64 (selZ (bsC ((fun _ => ((p__7 : Nat) : Int)) 0) ((dwC (shF a__8 b__9 p__18) p__7 x__21) 0) ((fun _ => ((p__7 : Nat) : Int)) 1) ((dwC (shF a__8 b__9 p__18) p__7 x__21) 1) p__18) (bsF p__18 ((dwC (shF a__8 b__9 p__18) p__7 x__21) 0) ((dwC (shF a__8 b__9 p__18) p__7 x__21) 1) 25).2.1), .int .i64 (selZ (bsC ((fun _ => ((p__7 : Nat) : Int)) 0) ((dwC (shF a__8 b__9 p__18) p__7 x__21) 0) ((fun _ => ((p__7 : Nat) : Int)) 1) ((dwC (shF a__8 b__9 p__18) p__7 x__21) 1) p__18) (bsF p__18 ((dwC (shF a__8 b__9 p__18) p__7 x__21) 0) ((dwC (shF a__8 b__9 p__18) p__7 x__21) 1) 25).2.2), .int .i64 (((bsC ((fun _ => ((p__7 : Nat) : Int)) 0) ((dwC (shF a__8 b__9 p__18) p__7 x__21) 0) ((fun _ => ((p__7 : Nat) : Int)) 1) ((dwC (shF a__8 b__9 p__18) p__7 x__21) 1) p__18 : Nat) : Int))]) rfl rfl) ?_
                refine Wq.pure (PR.extr (i := 2) (vs := [.int .i64 (selZ (bsC ((fun _ => ((p__7 : Nat) : Int)) 0) ((dwC (shF a__8 b__9 p__18) p__7 x__21) 0) ((fun _ => ((p__7 : Nat) : Int)) 1) ((dwC (shF a__8 b__9 p__18) p__7 x__21) 1) p__18) (bsF p__18 ((dwC (shF a__8 b__9 p__18) p__7 x__21) 0) ((dwC (shF a__8 b__9 p__18) p__7 x__21) 1) 25).1), .int .i64 (selZ (bsC ((fun _ => ((p__7 : Nat) : Int)) 0) ((dwC (shF a__8 b__9 p__18) p__7 x__21) 0) ((fun _ => ((p__7 : Nat) : Int)) 1) ((dwC (shF a__8 b__9 p__18) p__7 x__21) 1) p__18) (bsF p__18 ((dwC (shF a__8 b__9 p__18) p__7 x__21) 0) ((dwC (shF a__8 b__9 p__18) p__7 x__21) 1) 25).2.1), .int .i64 (selZ (bsC ((fun _ => ((p__7 : Nat) : Int)) 0) ((dwC (shF a__8 b__9 p__18) p__7 x__21) 0) ((fun _ => ((p__7 : Nat) : Int)) 1) ((dwC (shF a__8 b__9 p__18) p__7 x__21) 1) p__18) (bsF p__18 ((dwC (shF a__8 b__9 p__18) p__7 x__21) 0) ((dwC (shF a__8 b__9 p__18) p__7 x__21) 1) 25).2.2), .int .i64 (((bsC ((fun _ => ((p__7 : Nat) : Int)) 0) ((dwC (shF a__8 b__9 p__18) p__7 x__21) 0) ((fun _ => ((p__7 : Nat) : Int)) 1) ((dwC (shF a__8 b__9 p__18) p__7 x__21) 1) p__18 : Nat) : Int))]) rfl rfl) ?_
                refine Wq.pure (PR.extr (i := 3) (vs := [.int .i64 (selZ (bsC ((fun _ => ((p__7 : Nat) : Int)) 0) ((dwC (shF a__8 b__9 p__18) p__7 x__21) 0) ((fun _ => ((p__7 : Nat) : Int)) 1) ((dwC (shF a__8 b__9 p__18) p__7 x__21) 1) p__18) (bsF p__18 ((dwC (shF a__8 b__9 p__18) p__7 x__21) 0) ((dwC (shF a__8 b__9 p__18) p__7 x__21) 1) 25).1), .int .i64 (selZ (bsC ((fun _ => ((p__7 : Nat) : Int)) 0) ((dwC (shF a__8 b__9 p__18) p__7 x__21) 0) ((fun _ => ((p__7 : Nat) : Int)) 1) ((dwC (shF a__8 b__9 p__18) p__7 x__21) 1) p__18) (bsF p__18 ((dwC (shF a__8 b__9 p__18) p__7 x__21) 0) ((dwC (shF a__8 b__9 p__18) p__7 x__21) 1) 25).2.1), .int .i64 (selZ (bsC ((fun _ => ((p__7 : Nat) : Int)) 0) ((dwC (shF a__8 b__9 p__18) p__7 x__21) 0) ((fun _ => ((p__7 : Nat) : Int)) 1) ((dwC (shF a__8 b__9 p__18) p__7 x__21) 1) p__18) (bsF p__18 ((dwC (shF a__8 b__9 p__18) p__7 x__21) 0) ((dwC (shF a__8 b__9 p__18) p__7 x__21) 1) 25).2.2), .int .i64 (((bsC ((fun _ => ((p__7 : Nat) : Int)) 0) ((dwC (shF a__8 b__9 p__18) p__7 x__21) 0) ((fun _ => ((p__7 : Nat) : Int)) 1) ((dwC (shF a__8 b__9 p__18) p__7 x__21) 1) p__18 : Nat) : Int))]) rfl rfl) ?_
                refine Wq.pure (PR.assI rfl) ?_
                refine Wq.pure (PR.assI rfl) ?_
                refine Wq.pure (PR.assI rfl) ?_
                refine Wq.pure (PR.assI rfl) ?_
                refine Wq.nil (fun w75 hbel => ?_)
                replace st := st.call hbel
                clear hbel
                refine tn ?_
                refine Wc.seq ?_
                refine Wc.seq ?_
                by_cases hbs : bsC ((fun _ => ((p__7 : Nat) : Int)) 0) ((dwC (shF a__8 b__9 p__18) p__7 x__21) 0) ((fun _ => ((p__7 : Nat) : Int)) 1) ((dwC (shF a__8 b__9 p__18) p__7 x__21) 1) p__18 = 0
                · obtain ⟨hx9, hu9, hv9, hge⟩ := best_all (q := p__18) (hCb 0) (hCb 1)
                  obtain ⟨_, _, _, hqg9⟩ := bsC_spec hbs
                  obtain ⟨x9, hxe⟩ : ∃ z, (bsF p__18 ((dwC (shF a__8 b__9 p__18) p__7 x__21) 0) ((dwC (shF a__8 b__9 p__18) p__7 x__21) 1) 25).1 = z := ⟨_, rfl⟩
                  obtain ⟨y9, hye⟩ : ∃ z, (bsF p__18 ((dwC (shF a__8 b__9 p__18) p__7 x__21) 0) ((dwC (shF a__8 b__9 p__18) p__7 x__21) 1) 25).2.1 = z := ⟨_, rfl⟩
                  obtain ⟨z9, hze⟩ : ∃ z, (bsF p__18 ((dwC (shF a__8 b__9 p__18) p__7 x__21) 0) ((dwC (shF a__8 b__9 p__18) p__7 x__21) 1) 25).2.2 = z := ⟨_, rfl⟩
                  rw [hxe, hye, hze] at hx9
                  rw [hxe] at hu9
                  rw [hye] at hv9
                  rw [hze] at hge
                  rw [show (selZ (bsC ((fun _ => ((p__7 : Nat) : Int)) 0) ((dwC (shF a__8 b__9 p__18) p__7 x__21) 0) ((fun _ => ((p__7 : Nat) : Int)) 1) ((dwC (shF a__8 b__9 p__18) p__7 x__21) 1) p__18) (bsF p__18 ((dwC (shF a__8 b__9 p__18) p__7 x__21) 0) ((dwC (shF a__8 b__9 p__18) p__7 x__21) 1) 25).1) = x9 from ((selZ_0 hbs).trans hxe)]
                  rw [show (selZ (bsC ((fun _ => ((p__7 : Nat) : Int)) 0) ((dwC (shF a__8 b__9 p__18) p__7 x__21) 0) ((fun _ => ((p__7 : Nat) : Int)) 1) ((dwC (shF a__8 b__9 p__18) p__7 x__21) 1) p__18) (bsF p__18 ((dwC (shF a__8 b__9 p__18) p__7 x__21) 0) ((dwC (shF a__8 b__9 p__18) p__7 x__21) 1) 25).2.1) = y9 from ((selZ_0 hbs).trans hye)]
                  rw [show (selZ (bsC ((fun _ => ((p__7 : Nat) : Int)) 0) ((dwC (shF a__8 b__9 p__18) p__7 x__21) 0) ((fun _ => ((p__7 : Nat) : Int)) 1) ((dwC (shF a__8 b__9 p__18) p__7 x__21) 1) p__18) (bsF p__18 ((dwC (shF a__8 b__9 p__18) p__7 x__21) 0) ((dwC (shF a__8 b__9 p__18) p__7 x__21) 1) 25).2.2) = z9 from ((selZ_0 hbs).trans hze)]
                  rw [show (bsC ((fun _ => ((p__7 : Nat) : Int)) 0) ((dwC (shF a__8 b__9 p__18) p__7 x__21) 0) ((fun _ => ((p__7 : Nat) : Int)) 1) ((dwC (shF a__8 b__9 p__18) p__7 x__21) 1) p__18) = 0 from hbs]
                  refine Wc.region rfl ?_
                  refine Wl.pure (PR.moveI rfl) ?_
                  refine Wl.pure (PR.moveI rfl) ?_
                  refine Wl.pure (PR.neqS (a := 0) rfl rfl) ?_
                  refine Wl.pure (PR.moveB rfl) ?_
                  refine Wl.on rfl rfl ?_
                  refine Wl.pure (PR.moveI rfl) ?_
                  refine Wl.on rfl rfl ?_
                  refine Wl.pure (PR.moveI rfl) ?_
                  refine Wl.on rfl rfl ?_
                  refine Wl.pure (PR.neqS (a := x9) rfl rfl) ?_
                  refine Wl.pure (PR.pickFB rfl rfl) ?_
                  refine Wl.pure (PR.moveB rfl) ?_
                  refine Wl.on rfl rfl ?_
                  refine Wl.pure (PR.moveI rfl) ?_
                  refine Wl.on rfl rfl ?_
                  refine Wl.pure (PR.moveI rfl) ?_
                  refine Wl.on rfl rfl ?_
                  refine Wl.pure (PR.neqS (a := y9) rfl rfl) ?_
                  refine Wl.pure (PR.pickFB rfl rfl) ?_
                  refine Wl.pure (PR.moveB rfl) ?_
                  refine Wl.on rfl rfl ?_
                  refine Wl.pure (PR.moveI rfl) ?_
                  refine Wl.on rfl rfl ?_
                  refine Wl.pure (PR.moveI rfl) ?_
                  refine Wl.on rfl rfl ?_
                  refine Wl.pure (PR.neqS (a := z9) rfl rfl) ?_
                  refine Wl.pure (PR.pickFB rfl rfl) ?_
                  refine Wl.pure (PR.moveB rfl) ?_
                  refine Wl.on rfl rfl ?_
                  refine Wl.pure (PR.moveI rfl) ?_
                  refine Wl.on rfl rfl ?_
                  refine Wl.pure (PR.neqS (a := 0) rfl rfl) ?_
                  refine Wl.on rfl rfl ?_
                  refine Wl.pure (PR.moveB rfl) ?_
                  refine Wl.off rfl rfl rfl ?_
                  refine Wl.off rfl rfl rfl ?_
                  refine Wl.on rfl rfl ?_
                  refine Wl.pure (PR.pickFB rfl rfl) ?_
                  refine Wl.pure (PR.pickFB rfl rfl) ?_
                  refine Wl.nil ?_
                  refine tn ?_
                  refine Wc.condF rfl ?_
                  refine Wc.skip ?_
                  refine tn ?_
                  refine Wc.seq ?_
                  refine Wc.seq ?_
                  refine Wc.region rfl ?_
                  refine Wl.pure (PR.moveI rfl) ?_
                  refine Wl.pure (PR.neqS (a := 0) rfl rfl) ?_
                  refine Wl.nil ?_
                  refine tn ?_
                  refine Wc.condF rfl ?_
                  refine Wc.skip ?_
                  refine tn ?_
                  refine Wc.seq ?_
                  refine Wc.region rfl ?_
                  refine Wl.pure (PR.moveL rfl) ?_
                  refine Wl.pure (PR.idxAddrS (i := 1) tS_37 rfl rfl (by omega)) ?_
                  refine Wl.loadA (i := 6) (vs := layV ((fun _ => ((p__7 : Nat) : Int)) 1) (((dwC (shF a__8 b__9 p__18) p__7 x__21) 1))) st tA_29 rfl rfl (app_sub (recV_sub0 (n := s__6) (i := 1) (layS_row _ _) (by omega)) (recV_tot (n := s__6) (i := 1) (layS_row _ _) (by omega))) layV_len ?_
                  refine Wl.pure (PR.moveI rfl) ?_
                  refine Wl.pure (PR.moveI rfl) ?_
                  refine Wl.callV (c_impl_ShiftLayer (r := (fun _ => ((p__7 : Nat) : Int)) 1) (d := ((dwC (shF a__8 b__9 p__18) p__7 x__21) 1)) (u := x9) (v := y9) (by dsimp only; omega) ((dwC_lt _ _ _) 1) hl1 (by first | assumption | omega) (by first | assumption | omega)) rfl ?_
                  intro w76 hbel
                  replace st := st.call hbel
                  clear hbel
                  refine Wl.pure (PR.moveV (.tuple #[.agg (layV ((fun _ => ((p__7 : Nat) : Int)) 1) ((shC ((dwC (shF a__8 b__9 p__18) p__7 x__21) 1) x9 y9))).toArray, .int .i64 (0)]) rfl) ?_
                  refine Wl.pure (PR.extr (i := 0) (vs := [.agg (layV ((fun _ => ((p__7 : Nat) : Int)) 1) ((shC ((dwC (shF a__8 b__9 p__18) p__7 x__21) 1) x9 y9))).toArray, .int .i64 (0)]) rfl rfl) ?_
                  refine Wl.pure (PR.extr (i := 1) (vs := [.agg (layV ((fun _ => ((p__7 : Nat) : Int)) 1) ((shC ((dwC (shF a__8 b__9 p__18) p__7 x__21) 1) x9 y9))).toArray, .int .i64 (0)]) rfl rfl) ?_
                  refine Wl.alloc st tZ_29 rfl ?_
                  clear st
                  intro b42 w77 st
                  refine Wl.storeA (i := 0) (cs' := layV ((fun _ => ((p__7 : Nat) : Int)) 1) ((shC ((dwC (shF a__8 b__9 p__18) p__7 x__21) 1) x9 y9))) st tA_29 rfl rfl layV_len layV_one rfl (le_of_len layV_len (by omega)) (all_put layV_len) ?_
                  clear st
                  intro w78 st
                  replace st : St [] w w78 [(b42, layV ((fun _ => ((p__7 : Nat) : Int)) 1) ((shC ((dwC (shF a__8 b__9 p__18) p__7 x__21) 1) x9 y9)), 29), (b_o, arrU .u64 s__6 e ++ sp_o, 54), (b115, arrU .i64 (flN (fgQ x__21 (fun _ => ((p__7 : Nat) : Int)) (dwC (shF a__8 b__9 p__18) p__7 x__21) (fun j => markK x__21 ((fun _ => ((p__7 : Nat) : Int)) j) ((dwC (shF a__8 b__9 p__18) p__7 x__21) j) 64)) s__6) (fun j => (fun z => z) (flA (fgQ x__21 (fun _ => ((p__7 : Nat) : Int)) (dwC (shF a__8 b__9 p__18) p__7 x__21) (fun j => markK x__21 ((fun _ => ((p__7 : Nat) : Int)) j) ((dwC (shF a__8 b__9 p__18) p__7 x__21) j) 64)) s__6 j)) ++ sp115, 2), (b108, arrU .i64 (flN (fgQ x__21 (fun _ => ((p__7 : Nat) : Int)) (upd (dwC (shF a__8 b__9 p__18) p__7 x__21) v__29 (upd ((dwC (shF a__8 b__9 p__18) p__7 x__21) v__29) v__33 ((((dwC (shF a__8 b__9 p__18) p__7 x__21) v__29) (v__33)) ^^^ 1))) (fun j => markK x__21 ((fun _ => ((p__7 : Nat) : Int)) j) ((dwC (shF a__8 b__9 p__18) p__7 x__21) j) 64)) s__6) (fun j => (fun z => z) (flA (fgQ x__21 (fun _ => ((p__7 : Nat) : Int)) (upd (dwC (shF a__8 b__9 p__18) p__7 x__21) v__29 (upd ((dwC (shF a__8 b__9 p__18) p__7 x__21) v__29) v__33 ((((dwC (shF a__8 b__9 p__18) p__7 x__21) v__29) (v__33)) ^^^ 1))) (fun j => markK x__21 ((fun _ => ((p__7 : Nat) : Int)) j) ((dwC (shF a__8 b__9 p__18) p__7 x__21) j) 64)) s__6 j)) ++ sp108, 2), (b86, layS s__6 (fun _ => ((p__7 : Nat) : Int)) (upd (dwC (shF a__8 b__9 p__18) p__7 x__21) v__29 (upd ((dwC (shF a__8 b__9 p__18) p__7 x__21) v__29) v__33 ((((dwC (shF a__8 b__9 p__18) p__7 x__21) v__29) (v__33)) ^^^ 1))) ++ sp86, 29), (b81, arrU .u32 s__6 (fun j => markK x__21 ((fun _ => ((p__7 : Nat) : Int)) j) ((dwC (shF a__8 b__9 p__18) p__7 x__21) j) 64) ++ sp81, 26), (b75, arrU .u32 s__6 (fun j => markK x__21 ((fun _ => ((p__7 : Nat) : Int)) j) ((dwC (shF a__8 b__9 p__18) p__7 x__21) j) 64) ++ sp75, 26), (b68, layS s__6 (fun _ => ((p__7 : Nat) : Int)) (dwC (shF a__8 b__9 p__18) p__7 x__21) ++ sp68, 29), (b5, schV ((s__6 : Nat) : Int) ((p__7 : Nat) : Int) (a__8) (b__9), 62)] := st
                  refine Wl.pure (PR.assI rfl) ?_
                  refine Wl.nil ?_
                  refine tn ?_
                  refine Wc.seq ?_
                  have hsl : layAll 2 (fun z_ => [((p__7 : Nat) : Int), ((p__7 : Nat) : Int)].getD z_ 0) (fun z_ => [(dwC (shF a__8 b__9 p__18) p__7 x__21) 0, shC ((dwC (shF a__8 b__9 p__18) p__7 x__21) 1) x9 y9].getD z_ (fun _ => 0)) = true := lay2 hl0 (shC_ok hl1)
                  refine Wc.tree (γ := Nat × Nat) (w0 := w) (X := []) (Ks := [b68, b42]) (S := fun i => i == 4 || i == 5 || i == 9 || i == 10) (fun g => [(4, .bool false), (6, .int .u64 (((p__18 : Nat) : Int))), (8, .slice (some ⟨b68, 0, none⟩) (s__6) (c68)), (40, .int .i64 (z9)), (43, .int .i64 (0)), (44, .pointer (some ⟨g.1, 0, none⟩)), (45, .int .i64 (0))]) (fun g w_ => St [] w w_ [(g.1, layV ((fun z_ => [((fun _ => ((p__7 : Nat) : Int)) 0), ((fun _ => ((p__7 : Nat) : Int)) 1)].getD z_ 0) 0) ((orC (fun z_ => [((dwC (shF a__8 b__9 p__18) p__7 x__21) 0), (shC ((dwC (shF a__8 b__9 p__18) p__7 x__21) 1) x9 y9)].getD z_ (fun _ => 0)) 2)), 29), (g.2, layS 2 (fun z_ => [((fun _ => ((p__7 : Nat) : Int)) 0), ((fun _ => ((p__7 : Nat) : Int)) 1)].getD z_ 0) (fun z_ => [((dwC (shF a__8 b__9 p__18) p__7 x__21) 0), (shC ((dwC (shF a__8 b__9 p__18) p__7 x__21) 1) x9 y9)].getD z_ (fun _ => 0)), 29), (b42, layV ((fun _ => ((p__7 : Nat) : Int)) 1) ((shC ((dwC (shF a__8 b__9 p__18) p__7 x__21) 1) x9 y9)), 29), (b_o, arrU .u64 s__6 e ++ sp_o, 54), (b115, arrU .i64 (flN (fgQ x__21 (fun _ => ((p__7 : Nat) : Int)) (dwC (shF a__8 b__9 p__18) p__7 x__21) (fun j => markK x__21 ((fun _ => ((p__7 : Nat) : Int)) j) ((dwC (shF a__8 b__9 p__18) p__7 x__21) j) 64)) s__6) (fun j => (fun z => z) (flA (fgQ x__21 (fun _ => ((p__7 : Nat) : Int)) (dwC (shF a__8 b__9 p__18) p__7 x__21) (fun j => markK x__21 ((fun _ => ((p__7 : Nat) : Int)) j) ((dwC (shF a__8 b__9 p__18) p__7 x__21) j) 64)) s__6 j)) ++ sp115, 2), (b108, arrU .i64 (flN (fgQ x__21 (fun _ => ((p__7 : Nat) : Int)) (upd (dwC (shF a__8 b__9 p__18) p__7 x__21) v__29 (upd ((dwC (shF a__8 b__9 p__18) p__7 x__21) v__29) v__33 ((((dwC (shF a__8 b__9 p__18) p__7 x__21) v__29) (v__33)) ^^^ 1))) (fun j => markK x__21 ((fun _ => ((p__7 : Nat) : Int)) j) ((dwC (shF a__8 b__9 p__18) p__7 x__21) j) 64)) s__6) (fun j => (fun z => z) (flA (fgQ x__21 (fun _ => ((p__7 : Nat) : Int)) (upd (dwC (shF a__8 b__9 p__18) p__7 x__21) v__29 (upd ((dwC (shF a__8 b__9 p__18) p__7 x__21) v__29) v__33 ((((dwC (shF a__8 b__9 p__18) p__7 x__21) v__29) (v__33)) ^^^ 1))) (fun j => markK x__21 ((fun _ => ((p__7 : Nat) : Int)) j) ((dwC (shF a__8 b__9 p__18) p__7 x__21) j) 64)) s__6 j)) ++ sp108, 2), (b86, layS s__6 (fun _ => ((p__7 : Nat) : Int)) (upd (dwC (shF a__8 b__9 p__18) p__7 x__21) v__29 (upd ((dwC (shF a__8 b__9 p__18) p__7 x__21) v__29) v__33 ((((dwC (shF a__8 b__9 p__18) p__7 x__21) v__29) (v__33)) ^^^ 1))) ++ sp86, 29), (b81, arrU .u32 s__6 (fun j => markK x__21 ((fun _ => ((p__7 : Nat) : Int)) j) ((dwC (shF a__8 b__9 p__18) p__7 x__21) j) 64) ++ sp81, 26), (b75, arrU .u32 s__6 (fun j => markK x__21 ((fun _ => ((p__7 : Nat) : Int)) j) ((dwC (shF a__8 b__9 p__18) p__7 x__21) j) 64) ++ sp75, 26), (b68, layS s__6 (fun _ => ((p__7 : Nat) : Int)) (dwC (shF a__8 b__9 p__18) p__7 x__21) ++ sp68, 29), (b5, schV ((s__6 : Nat) : Int) ((p__7 : Nat) : Int) (a__8) (b__9), 62)]) (.st 0 0 (.st 1 0 (.st 2 3 (.st 3 3 (.alt 4 (.alt 9 (.st 5 2 (.st 6 0 (.st 7 0 (.st 8 0 (.st 10 2 (.st 11 0 PT.nil)))))) (.st 5 2 (.st 6 0 (.st 7 0 (.st 8 0 (.st 9 2 (.st 10 2 (.st 11 0 PT.nil)))))))) (.st 9 2 (.st 4 2 (.st 5 2 (.st 6 0 (.st 7 0 (.st 8 0 (.st 10 2 (.st 11 0 PT.nil))))))))))))) hmix (by kernel_rfl) (by kernel_rfl) rfl rfl ?_ ?_
                  · intro w79 hbel
                    replace st := st.call hbel
                    clear hbel
                    refine WT.pure rfl (PR.moveL rfl) ?_
                    refine WT.pure rfl (PR.idxAddrS (i := 0) tS_37 rfl rfl (by omega)) ?_
                    refine WT.loadA (j := 7) (vs := layV ((fun _ => ((p__7 : Nat) : Int)) 0) (((dwC (shF a__8 b__9 p__18) p__7 x__21) 0))) rfl (by simp) st tA_29 rfl rfl (app_sub (recV_sub0 (n := s__6) (i := 0) (layS_row _ _) (by omega)) (recV_tot (n := s__6) (i := 0) (layS_row _ _) (by omega))) layV_len ?_
                    refine WT.loadA (j := 0) rfl (by simp) st tA_29 rfl rfl (all_sub layV_len) layV_len ?_
                    refine WT.alt ?_ ?_
                    · have st0 := st
                      refine WT.s rfl rfl ?_
                      refine Wl.buildSlice (ps := [(0, .agg (layV ((fun _ => ((p__7 : Nat) : Int)) 0) (((dwC (shF a__8 b__9 p__18) p__7 x__21) 0))).toArray), (1, .agg (layV ((fun _ => ((p__7 : Nat) : Int)) 1) ((shC ((dwC (shF a__8 b__9 p__18) p__7 x__21) 1) x9 y9))).toArray)]) (cs := layS 2 (fun z_ => [((fun _ => ((p__7 : Nat) : Int)) 0), ((fun _ => ((p__7 : Nat) : Int)) 1)].getD z_ 0) (fun z_ => [((dwC (shF a__8 b__9 p__18) p__7 x__21) 0), (shC ((dwC (shF a__8 b__9 p__18) p__7 x__21) 1) x9 y9)].getD z_ (fun _ => 0))) st tS_37 tZ_29 rfl rfl (lit_lays2 _ _ _ _ _) ?_
                      clear st
                      intro b330 w80 st
                      refine Wl.nil ⟨rfl, RK.of st0 st (ksC (i := 7) (j := 8) rfl rfl rfl (ksC (i := 0) (j := 1) rfl rfl rfl ksN)), ?_⟩
                      clear st0
                      refine WT.alt ?_ ?_
                      · have st0 := st
                        refine WT.s rfl rfl ?_
                        refine Wl.alloc st tZ_29 rfl ?_
                        clear st
                        intro b44 w81 st
                        refine Wl.nil ⟨rfl, RK.of st0 st (ksC (i := 8) (j := 9) rfl rfl rfl (ksC (i := 1) (j := 2) rfl rfl rfl ksN)), ?_⟩
                        clear st0
                        have st0 := st
                        refine WT.s rfl rfl ?_
                        refine Wl.callV (c_impl_StackLayers (A := some ⟨b330, 0, none⟩) (n := 2) (cp := 2) (p := (fun z_ => [((fun _ => ((p__7 : Nat) : Int)) 0), ((fun _ => ((p__7 : Nat) : Int)) 1)].getD z_ 0)) (c := (fun z_ => [((dwC (shF a__8 b__9 p__18) p__7 x__21) 0), (shC ((dwC (shF a__8 b__9 p__18) p__7 x__21) 1) x9 y9)].getD z_ (fun _ => 0))) ((st.rdA (i := 1) (n := (2 * 65)) rfl (all_sub (recV_len (s := 65) (layS_row _ _) _))).sl) (lit_p2 (by dsimp only; omega) (by dsimp only; omega)) (lit_lt2 ((dwC_lt _ _ _) 0) (shC_lt ((dwC_lt _ _ _) 1) x9 y9)) (by first | assumption | omega) (by first | assumption | omega) hsl allP2) rfl ?_
                        intro w82 hbel
                        replace st := st.call hbel
                        clear hbel
                        refine Wl.nil ⟨rfl, RK.of st0 st (ksC (i := 9) (j := 9) rfl rfl rfl (ksC (i := 2) (j := 2) rfl rfl rfl ksN)), ?_⟩
                        clear st0
                        refine WT.pure rfl (PR.moveV (.tuple #[.agg (layV ((fun z_ => [((fun _ => ((p__7 : Nat) : Int)) 0), ((fun _ => ((p__7 : Nat) : Int)) 1)].getD z_ 0) 0) ((orC (fun z_ => [((dwC (shF a__8 b__9 p__18) p__7 x__21) 0), (shC ((dwC (shF a__8 b__9 p__18) p__7 x__21) 1) x9 y9)].getD z_ (fun _ => 0)) 2))).toArray, .int .i64 (0)]) rfl) ?_
                        refine WT.pure rfl (PR.extr (i := 0) (vs := [.agg (layV ((fun z_ => [((fun _ => ((p__7 : Nat) : Int)) 0), ((fun _ => ((p__7 : Nat) : Int)) 1)].getD z_ 0) 0) ((orC (fun z_ => [((dwC (shF a__8 b__9 p__18) p__7 x__21) 0), (shC ((dwC (shF a__8 b__9 p__18) p__7 x__21) 1) x9 y9)].getD z_ (fun _ => 0)) 2))).toArray, .int .i64 (0)]) rfl rfl) ?_
                        refine WT.pure rfl (PR.extr (i := 1) (vs := [.agg (layV ((fun z_ => [((fun _ => ((p__7 : Nat) : Int)) 0), ((fun _ => ((p__7 : Nat) : Int)) 1)].getD z_ 0) 0) ((orC (fun z_ => [((dwC (shF a__8 b__9 p__18) p__7 x__21) 0), (shC ((dwC (shF a__8 b__9 p__18) p__7 x__21) 1) x9 y9)].getD z_ (fun _ => 0)) 2))).toArray, .int .i64 (0)]) rfl rfl) ?_
                        have st0 := st
                        refine WT.s rfl rfl ?_
                        refine Wl.storeA (i := 0) (cs' := layV ((fun z_ => [((fun _ => ((p__7 : Nat) : Int)) 0), ((fun _ => ((p__7 : Nat) : Int)) 1)].getD z_ 0) 0) ((orC (fun z_ => [((dwC (shF a__8 b__9 p__18) p__7 x__21) 0), (shC ((dwC (shF a__8 b__9 p__18) p__7 x__21) 1) x9 y9)].getD z_ (fun _ => 0)) 2))) st tA_29 rfl rfl layV_len layV_one rfl (le_of_len layV_len (by omega)) (all_put layV_len) ?_
                        clear st
                        intro w83 st
                        replace st : St [] w w83 [(b44, layV ((fun z_ => [((fun _ => ((p__7 : Nat) : Int)) 0), ((fun _ => ((p__7 : Nat) : Int)) 1)].getD z_ 0) 0) ((orC (fun z_ => [((dwC (shF a__8 b__9 p__18) p__7 x__21) 0), (shC ((dwC (shF a__8 b__9 p__18) p__7 x__21) 1) x9 y9)].getD z_ (fun _ => 0)) 2)), 29), (b330, layS 2 (fun z_ => [((fun _ => ((p__7 : Nat) : Int)) 0), ((fun _ => ((p__7 : Nat) : Int)) 1)].getD z_ 0) (fun z_ => [((dwC (shF a__8 b__9 p__18) p__7 x__21) 0), (shC ((dwC (shF a__8 b__9 p__18) p__7 x__21) 1) x9 y9)].getD z_ (fun _ => 0)), 29), (b42, layV ((fun _ => ((p__7 : Nat) : Int)) 1) ((shC ((dwC (shF a__8 b__9 p__18) p__7 x__21) 1) x9 y9)), 29), (b_o, arrU .u64 s__6 e ++ sp_o, 54), (b115, arrU .i64 (flN (fgQ x__21 (fun _ => ((p__7 : Nat) : Int)) (dwC (shF a__8 b__9 p__18) p__7 x__21) (fun j => markK x__21 ((fun _ => ((p__7 : Nat) : Int)) j) ((dwC (shF a__8 b__9 p__18) p__7 x__21) j) 64)) s__6) (fun j => (fun z => z) (flA (fgQ x__21 (fun _ => ((p__7 : Nat) : Int)) (dwC (shF a__8 b__9 p__18) p__7 x__21) (fun j => markK x__21 ((fun _ => ((p__7 : Nat) : Int)) j) ((dwC (shF a__8 b__9 p__18) p__7 x__21) j) 64)) s__6 j)) ++ sp115, 2), (b108, arrU .i64 (flN (fgQ x__21 (fun _ => ((p__7 : Nat) : Int)) (upd (dwC (shF a__8 b__9 p__18) p__7 x__21) v__29 (upd ((dwC (shF a__8 b__9 p__18) p__7 x__21) v__29) v__33 ((((dwC (shF a__8 b__9 p__18) p__7 x__21) v__29) (v__33)) ^^^ 1))) (fun j => markK x__21 ((fun _ => ((p__7 : Nat) : Int)) j) ((dwC (shF a__8 b__9 p__18) p__7 x__21) j) 64)) s__6) (fun j => (fun z => z) (flA (fgQ x__21 (fun _ => ((p__7 : Nat) : Int)) (upd (dwC (shF a__8 b__9 p__18) p__7 x__21) v__29 (upd ((dwC (shF a__8 b__9 p__18) p__7 x__21) v__29) v__33 ((((dwC (shF a__8 b__9 p__18) p__7 x__21) v__29) (v__33)) ^^^ 1))) (fun j => markK x__21 ((fun _ => ((p__7 : Nat) : Int)) j) ((dwC (shF a__8 b__9 p__18) p__7 x__21) j) 64)) s__6 j)) ++ sp108, 2), (b86, layS s__6 (fun _ => ((p__7 : Nat) : Int)) (upd (dwC (shF a__8 b__9 p__18) p__7 x__21) v__29 (upd ((dwC (shF a__8 b__9 p__18) p__7 x__21) v__29) v__33 ((((dwC (shF a__8 b__9 p__18) p__7 x__21) v__29) (v__33)) ^^^ 1))) ++ sp86, 29), (b81, arrU .u32 s__6 (fun j => markK x__21 ((fun _ => ((p__7 : Nat) : Int)) j) ((dwC (shF a__8 b__9 p__18) p__7 x__21) j) 64) ++ sp81, 26), (b75, arrU .u32 s__6 (fun j => markK x__21 ((fun _ => ((p__7 : Nat) : Int)) j) ((dwC (shF a__8 b__9 p__18) p__7 x__21) j) 64) ++ sp75, 26), (b68, layS s__6 (fun _ => ((p__7 : Nat) : Int)) (dwC (shF a__8 b__9 p__18) p__7 x__21) ++ sp68, 29), (b5, schV ((s__6 : Nat) : Int) ((p__7 : Nat) : Int) (a__8) (b__9), 62)] := st
                        refine Wl.nil ⟨rfl, RK.of st0 st (ksC (i := 9) (j := 9) rfl rfl rfl (ksC (i := 2) (j := 2) rfl rfl rfl ksN)), ?_⟩
                        clear st0
                        refine WT.pure rfl (PR.assI rfl) ?_
                        exact WT.nil ⟨(b44, b330), (.cons rfl (.cons rfl (.cons rfl (.cons rfl (.cons rfl (.cons rfl (.cons rfl (.nil _)))))))), st⟩
                      · have st0 := st
                        refine WT.s rfl rfl ?_
                        refine Wl.callV (c_impl_StackLayers (A := some ⟨b330, 0, none⟩) (n := 2) (cp := 2) (p := (fun z_ => [((fun _ => ((p__7 : Nat) : Int)) 0), ((fun _ => ((p__7 : Nat) : Int)) 1)].getD z_ 0)) (c := (fun z_ => [((dwC (shF a__8 b__9 p__18) p__7 x__21) 0), (shC ((dwC (shF a__8 b__9 p__18) p__7 x__21) 1) x9 y9)].getD z_ (fun _ => 0))) ((st.rdA (i := 0) (n := (2 * 65)) rfl (all_sub (recV_len (s := 65) (layS_row _ _) _))).sl) (lit_p2 (by dsimp only; omega) (by dsimp only; omega)) (lit_lt2 ((dwC_lt _ _ _) 0) (shC_lt ((dwC_lt _ _ _) 1) x9 y9)) (by first | assumption | omega) (by first | assumption | omega) hsl allP2) rfl ?_
                        intro w81 hbel
                        replace st := st.call hbel
                        clear hbel
                        refine Wl.nil ⟨rfl, RK.of st0 st (ksC (i := 8) (j := 8) rfl rfl rfl (ksC (i := 1) (j := 1) rfl rfl rfl ksN)), ?_⟩
                        clear st0
                        refine WT.pure rfl (PR.moveV (.tuple #[.agg (layV ((fun z_ => [((fun _ => ((p__7 : Nat) : Int)) 0), ((fun _ => ((p__7 : Nat) : Int)) 1)].getD z_ 0) 0) ((orC (fun z_ => [((dwC (shF a__8 b__9 p__18) p__7 x__21) 0), (shC ((dwC (shF a__8 b__9 p__18) p__7 x__21) 1) x9 y9)].getD z_ (fun _ => 0)) 2))).toArray, .int .i64 (0)]) rfl) ?_
                        refine WT.pure rfl (PR.extr (i := 0) (vs := [.agg (layV ((fun z_ => [((fun _ => ((p__7 : Nat) : Int)) 0), ((fun _ => ((p__7 : Nat) : Int)) 1)].getD z_ 0) 0) ((orC (fun z_ => [((dwC (shF a__8 b__9 p__18) p__7 x__21) 0), (shC ((dwC (shF a__8 b__9 p__18) p__7 x__21) 1) x9 y9)].getD z_ (fun _ => 0)) 2))).toArray, .int .i64 (0)]) rfl rfl) ?_
                        refine WT.pure rfl (PR.extr (i := 1) (vs := [.agg (layV ((fun z_ => [((fun _ => ((p__7 : Nat) : Int)) 0), ((fun _ => ((p__7 : Nat) : Int)) 1)].getD z_ 0) 0) ((orC (fun z_ => [((dwC (shF a__8 b__9 p__18) p__7 x__21) 0), (shC ((dwC (shF a__8 b__9 p__18) p__7 x__21) 1) x9 y9)].getD z_ (fun _ => 0)) 2))).toArray, .int .i64 (0)]) rfl rfl) ?_
                        have st0 := st
                        refine WT.s rfl rfl ?_
                        refine Wl.alloc st tZ_29 rfl ?_
                        clear st
                        intro b44 w82 st
                        refine Wl.nil ⟨rfl, RK.of st0 st (ksC (i := 8) (j := 9) rfl rfl rfl (ksC (i := 1) (j := 2) rfl rfl rfl ksN)), ?_⟩
                        clear st0
                        have st0 := st
                        refine WT.s rfl rfl ?_
                        refine Wl.storeA (i := 0) (cs' := layV ((fun z_ => [((fun _ => ((p__7 : Nat) : Int)) 0), ((fun _ => ((p__7 : Nat) : Int)) 1)].getD z_ 0) 0) ((orC (fun z_ => [((dwC (shF a__8 b__9 p__18) p__7 x__21) 0), (shC ((dwC (shF a__8 b__9 p__18) p__7 x__21) 1) x9 y9)].getD z_ (fun _ => 0)) 2))) st tA_29 rfl rfl layV_len layV_one rfl (le_of_len layV_len (by omega)) (all_put layV_len) ?_
                        clear st
                        intro w83 st
                        replace st : St [] w w83 [(b44, layV ((fun z_ => [((fun _ => ((p__7 : Nat) : Int)) 0), ((fun _ => ((p__7 : Nat) : Int)) 1)].getD z_ 0) 0) ((orC (fun z_ => [((dwC (shF a__8 b__9 p__18) p__7 x__21) 0), (shC ((dwC (shF a__8 b__9 p__18) p__7 x__21) 1) x9 y9)].getD z_ (fun _ => 0)) 2)), 29), (b330, layS 2 (fun z_ => [((fun _ => ((p__7 : Nat) : Int)) 0), ((fun _ => ((p__7 : Nat) : Int)) 1)].getD z_ 0) (fun z_ => [((dwC (shF a__8 b__9 p__18) p__7 x__21) 0), (shC ((dwC (shF a__8 b__9 p__18) p__7 x__21) 1) x9 y9)].getD z_ (fun _ => 0)), 29), (b42, layV ((fun _ => ((p__7 : Nat) : Int)) 1) ((shC ((dwC (shF a__8 b__9 p__18) p__7 x__21) 1) x9 y9)), 29), (b_o, arrU .u64 s__6 e ++ sp_o, 54), (b115, arrU .i64 (flN (fgQ x__21 (fun _ => ((p__7 : Nat) : Int)) (dwC (shF a__8 b__9 p__18) p__7 x__21) (fun j => markK x__21 ((fun _ => ((p__7 : Nat) : Int)) j) ((dwC (shF a__8 b__9 p__18) p__7 x__21) j) 64)) s__6) (fun j => (fun z => z) (flA (fgQ x__21 (fun _ => ((p__7 : Nat) : Int)) (dwC (shF a__8 b__9 p__18) p__7 x__21) (fun j => markK x__21 ((fun _ => ((p__7 : Nat) : Int)) j) ((dwC (shF a__8 b__9 p__18) p__7 x__21) j) 64)) s__6 j)) ++ sp115, 2), (b108, arrU .i64 (flN (fgQ x__21 (fun _ => ((p__7 : Nat) : Int)) (upd (dwC (shF a__8 b__9 p__18) p__7 x__21) v__29 (upd ((dwC (shF a__8 b__9 p__18) p__7 x__21) v__29) v__33 ((((dwC (shF a__8 b__9 p__18) p__7 x__21) v__29) (v__33)) ^^^ 1))) (fun j => markK x__21 ((fun _ => ((p__7 : Nat) : Int)) j) ((dwC (shF a__8 b__9 p__18) p__7 x__21) j) 64)) s__6) (fun j => (fun z => z) (flA (fgQ x__21 (fun _ => ((p__7 : Nat) : Int)) (upd (dwC (shF a__8 b__9 p__18) p__7 x__21) v__29 (upd ((dwC (shF a__8 b__9 p__18) p__7 x__21) v__29) v__33 ((((dwC (shF a__8 b__9 p__18) p__7 x__21) v__29) (v__33)) ^^^ 1))) (fun j => markK x__21 ((fun _ => ((p__7 : Nat) : Int)) j) ((dwC (shF a__8 b__9 p__18) p__7 x__21) j) 64)) s__6 j)) ++ sp108, 2), (b86, layS s__6 (fun _ => ((p__7 : Nat) : Int)) (upd (dwC (shF a__8 b__9 p__18) p__7 x__21) v__29 (upd ((dwC (shF a__8 b__9 p__18) p__7 x__21) v__29) v__33 ((((dwC (shF a__8 b__9 p__18) p__7 x__21) v__29) (v__33)) ^^^ 1))) ++ sp86, 29), (b81, arrU .u32 s__6 (fun j => markK x__21 ((fun _ => ((p__7 : Nat) : Int)) j) ((dwC (shF a__8 b__9 p__18) p__7 x__21) j) 64) ++ sp81, 26), (b75, arrU .u32 s__6 (fun j => markK x__21 ((fun _ => ((p__7 : Nat) : Int)) j) ((dwC (shF a__8 b__9 p__18) p__7 x__21) j) 64) ++ sp75, 26), (b68, layS s__6 (fun _ => ((p__7 : Nat) : Int)) (dwC (shF a__8 b__9 p__18) p__7 x__21) ++ sp68, 29), (b5, schV ((s__6 : Nat) : Int) ((p__7 : Nat) : Int) (a__8) (b__9), 62)] := st
                        refine Wl.nil ⟨rfl, RK.of st0 st (ksC (i := 9) (j := 9) rfl rfl rfl (ksC (i := 2) (j := 2) rfl rfl rfl ksN)), ?_⟩
                        clear st0
                        refine WT.pure rfl (PR.assI rfl) ?_
                        exact WT.nil ⟨(b44, b330), (.cons rfl (.cons rfl (.cons rfl (.cons rfl (.cons rfl (.cons rfl (.cons rfl (.nil _)))))))), st⟩
                    · have st0 := st
                      refine WT.s rfl rfl ?_
                      refine Wl.alloc st tZ_29 rfl ?_
                      clear st
                      intro b44 w80 st
                      refine Wl.nil ⟨rfl, RK.of st0 st (ksC (i := 7) (j := 8) rfl rfl rfl (ksC (i := 0) (j := 1) rfl rfl rfl ksN)), ?_⟩
                      clear st0
                      have st0 := st
                      refine WT.s rfl rfl ?_
                      refine Wl.buildSlice (ps := [(0, .agg (layV ((fun _ => ((p__7 : Nat) : Int)) 0) (((dwC (shF a__8 b__9 p__18) p__7 x__21) 0))).toArray), (1, .agg (layV ((fun _ => ((p__7 : Nat) : Int)) 1) ((shC ((dwC (shF a__8 b__9 p__18) p__7 x__21) 1) x9 y9))).toArray)]) (cs := layS 2 (fun z_ => [((fun _ => ((p__7 : Nat) : Int)) 0), ((fun _ => ((p__7 : Nat) : Int)) 1)].getD z_ 0) (fun z_ => [((dwC (shF a__8 b__9 p__18) p__7 x__21) 0), (shC ((dwC (shF a__8 b__9 p__18) p__7 x__21) 1) x9 y9)].getD z_ (fun _ => 0))) st tS_37 tZ_29 rfl rfl (lit_lays2 _ _ _ _ _) ?_
                      clear st
                      intro b330 w81 st
                      refine Wl.nil ⟨rfl, RK.of st0 st (ksC (i := 8) (j := 9) rfl rfl rfl (ksC (i := 1) (j := 2) rfl rfl rfl ksN)), ?_⟩
                      clear st0
                      have st0 := st
                      refine WT.s rfl rfl ?_
                      refine Wl.callV (c_impl_StackLayers (A := some ⟨b330, 0, none⟩) (n := 2) (cp := 2) (p := (fun z_ => [((fun _ => ((p__7 : Nat) : Int)) 0), ((fun _ => ((p__7 : Nat) : Int)) 1)].getD z_ 0)) (c := (fun z_ => [((dwC (shF a__8 b__9 p__18) p__7 x__21) 0), (shC ((dwC (shF a__8 b__9 p__18) p__7 x__21) 1) x9 y9)].getD z_ (fun _ => 0))) ((st.rdA (i := 0) (n := (2 * 65)) rfl (all_sub (recV_len (s := 65) (layS_row _ _) _))).sl) (lit_p2 (by dsimp only; omega) (by dsimp only; omega)) (lit_lt2 ((dwC_lt _ _ _) 0) (shC_lt ((dwC_lt _ _ _) 1) x9 y9)) (by first | assumption | omega) (by first | assumption | omega) hsl allP2) rfl ?_
                      intro w82 hbel
                      replace st := st.call hbel
                      clear hbel
                      refine Wl.nil ⟨rfl, RK.of st0 st (ksC (i := 9) (j := 9) rfl rfl rfl (ksC (i := 2) (j := 2) rfl rfl rfl ksN)), ?_⟩
                      clear st0
                      refine WT.pure rfl (PR.moveV (.tuple #[.agg (layV ((fun z_ => [((fun _ => ((p__7 : Nat) : Int)) 0), ((fun _ => ((p__7 : Nat) : Int)) 1)].getD z_ 0) 0) ((orC (fun z_ => [((dwC (shF a__8 b__9 p__18) p__7 x__21) 0), (shC ((dwC (shF a__8 b__9 p__18) p__7 x__21) 1) x9 y9)].getD z_ (fun _ => 0)) 2))).toArray, .int .i64 (0)]) rfl) ?_
                      refine WT.pure rfl (PR.extr (i := 0) (vs := [.agg (layV ((fun z_ => [((fun _ => ((p__7 : Nat) : Int)) 0), ((fun _ => ((p__7 : Nat) : Int)) 1)].getD z_ 0) 0) ((orC (fun z_ => [((dwC (shF a__8 b__9 p__18) p__7 x__21) 0), (shC ((dwC (shF a__8 b__9 p__18) p__7 x__21) 1) x9 y9)].getD z_ (fun _ => 0)) 2))).toArray, .int .i64 (0)]) rfl rfl) ?_
                      refine WT.pure rfl (PR.extr (i := 1) (vs := [.agg (layV ((fun z_ => [((fun _ => ((p__7 : Nat) : Int)) 0), ((fun _ => ((p__7 : Nat) : Int)) 1)].getD z_ 0) 0) ((orC (fun z_ => [((dwC (shF a__8 b__9 p__18) p__7 x__21) 0), (shC ((dwC (shF a__8 b__9 p__18) p__7 x__21) 1) x9 y9)].getD z_ (fun _ => 0)) 2))).toArray, .int .i64 (0)]) rfl rfl) ?_
                      have st0 := st
                      refine WT.s rfl rfl ?_
                      refine Wl.storeA (i := 1) (cs' := layV ((fun z_ => [((fun _ => ((p__7 : Nat) : Int)) 0), ((fun _ => ((p__7 : Nat) : Int)) 1)].getD z_ 0) 0) ((orC (fun z_ => [((dwC (shF a__8 b__9 p__18) p__7 x__21) 0), (shC ((dwC (shF a__8 b__9 p__18) p__7 x__21) 1) x9 y9)].getD z_ (fun _ => 0)) 2))) st tA_29 rfl rfl layV_len layV_one rfl (le_of_len layV_len (by omega)) (all_put layV_len) ?_
                      clear st
                      intro w83 st
                      replace st : St [] w w83 [(b330, layS 2 (fun z_ => [((fun _ => ((p__7 : Nat) : Int)) 0), ((fun _ => ((p__7 : Nat) : Int)) 1)].getD z_ 0) (fun z_ => [((dwC (shF a__8 b__9 p__18) p__7 x__21) 0), (shC ((dwC (shF a__8 b__9 p__18) p__7 x__21) 1) x9 y9)].getD z_ (fun _ => 0)), 29), (b44, layV ((fun z_ => [((fun _ => ((p__7 : Nat) : Int)) 0), ((fun _ => ((p__7 : Nat) : Int)) 1)].getD z_ 0) 0) ((orC (fun z_ => [((dwC (shF a__8 b__9 p__18) p__7 x__21) 0), (shC ((dwC (shF a__8 b__9 p__18) p__7 x__21) 1) x9 y9)].getD z_ (fun _ => 0)) 2)), 29), (b42, layV ((fun _ => ((p__7 : Nat) : Int)) 1) ((shC ((dwC (shF a__8 b__9 p__18) p__7 x__21) 1) x9 y9)), 29), (b_o, arrU .u64 s__6 e ++ sp_o, 54), (b115, arrU .i64 (flN (fgQ x__21 (fun _ => ((p__7 : Nat) : Int)) (dwC (shF a__8 b__9 p__18) p__7 x__21) (fun j => markK x__21 ((fun _ => ((p__7 : Nat) : Int)) j) ((dwC (shF a__8 b__9 p__18) p__7 x__21) j) 64)) s__6) (fun j => (fun z => z) (flA (fgQ x__21 (fun _ => ((p__7 : Nat) : Int)) (dwC (shF a__8 b__9 p__18) p__7 x__21) (fun j => markK x__21 ((fun _ => ((p__7 : Nat) : Int)) j) ((dwC (shF a__8 b__9 p__18) p__7 x__21) j) 64)) s__6 j)) ++ sp115, 2), (b108, arrU .i64 (flN (fgQ x__21 (fun _ => ((p__7 : Nat) : Int)) (upd (dwC (shF a__8 b__9 p__18) p__7 x__21) v__29 (upd ((dwC (shF a__8 b__9 p__18) p__7 x__21) v__29) v__33 ((((dwC (shF a__8 b__9 p__18) p__7 x__21) v__29) (v__33)) ^^^ 1))) (fun j => markK x__21 ((fun _ => ((p__7 : Nat) : Int)) j) ((dwC (shF a__8 b__9 p__18) p__7 x__21) j) 64)) s__6) (fun j => (fun z => z) (flA (fgQ x__21 (fun _ => ((p__7 : Nat) : Int)) (upd (dwC (shF a__8 b__9 p__18) p__7 x__21) v__29 (upd ((dwC (shF a__8 b__9 p__18) p__7 x__21) v__29) v__33 ((((dwC (shF a__8 b__9 p__18) p__7 x__21) v__29) (v__33)) ^^^ 1))) (fun j => markK x__21 ((fun _ => ((p__7 : Nat) : Int)) j) ((dwC (shF a__8 b__9 p__18) p__7 x__21) j) 64)) s__6 j)) ++ sp108, 2), (b86, layS s__6 (fun _ => ((p__7 : Nat) : Int)) (upd (dwC (shF a__8 b__9 p__18) p__7 x__21) v__29 (upd ((dwC (shF a__8 b__9 p__18) p__7 x__21) v__29) v__33 ((((dwC (shF a__8 b__9 p__18) p__7 x__21) v__29) (v__33)) ^^^ 1))) ++ sp86, 29), (b81, arrU .u32 s__6 (fun j => markK x__21 ((fun _ => ((p__7 : Nat) : Int)) j) ((dwC (shF a__8 b__9 p__18) p__7 x__21) j) 64) ++ sp81, 26), (b75, arrU .u32 s__6 (fun j => markK x__21 ((fun _ => ((p__7 : Nat) : Int)) j) ((dwC (shF a__8 b__9 p__18) p__7 x__21) j) 64) ++ sp75, 26), (b68, layS s__6 (fun _ => ((p__7 : Nat) : Int)) (dwC (shF a__8 b__9 p__18) p__7 x__21) ++ sp68, 29), (b5, schV ((s__6 : Nat) : Int) ((p__7 : Nat) : Int) (a__8) (b__9), 62)] := st
                      refine Wl.nil ⟨rfl, RK.of st0 st (ksC (i := 9) (j := 9) rfl rfl rfl (ksC (i := 2) (j := 2) rfl rfl rfl ksN)), ?_⟩
                      clear st0
                      refine WT.pure rfl (PR.assI rfl) ?_
                      replace st : St [] w w83 [(b44, layV ((fun z_ => [((fun _ => ((p__7 : Nat) : Int)) 0), ((fun _ => ((p__7 : Nat) : Int)) 1)].getD z_ 0) 0) ((orC (fun z_ => [((dwC (shF a__8 b__9 p__18) p__7 x__21) 0), (shC ((dwC (shF a__8 b__9 p__18) p__7 x__21) 1) x9 y9)].getD z_ (fun _ => 0)) 2)), 29), (b330, layS 2 (fun z_ => [((fun _ => ((p__7 : Nat) : Int)) 0), ((fun _ => ((p__7 : Nat) : Int)) 1)].getD z_ 0) (fun z_ => [((dwC (shF a__8 b__9 p__18) p__7 x__21) 0), (shC ((dwC (shF a__8 b__9 p__18) p__7 x__21) 1) x9 y9)].getD z_ (fun _ => 0)), 29), (b42, layV ((fun _ => ((p__7 : Nat) : Int)) 1) ((shC ((dwC (shF a__8 b__9 p__18) p__7 x__21) 1) x9 y9)), 29), (b_o, arrU .u64 s__6 e ++ sp_o, 54), (b115, arrU .i64 (flN (fgQ x__21 (fun _ => ((p__7 : Nat) : Int)) (dwC (shF a__8 b__9 p__18) p__7 x__21) (fun j => markK x__21 ((fun _ => ((p__7 : Nat) : Int)) j) ((dwC (shF a__8 b__9 p__18) p__7 x__21) j) 64)) s__6) (fun j => (fun z => z) (flA (fgQ x__21 (fun _ => ((p__7 : Nat) : Int)) (dwC (shF a__8 b__9 p__18) p__7 x__21) (fun j => markK x__21 ((fun _ => ((p__7 : Nat) : Int)) j) ((dwC (shF a__8 b__9 p__18) p__7 x__21) j) 64)) s__6 j)) ++ sp115, 2), (b108, arrU .i64 (flN (fgQ x__21 (fun _ => ((p__7 : Nat) : Int)) (upd (dwC (shF a__8 b__9 p__18) p__7 x__21) v__29 (upd ((dwC (shF a__8 b__9 p__18) p__7 x__21) v__29) v__33 ((((dwC (shF a__8 b__9 p__18) p__7 x__21) v__29) (v__33)) ^^^ 1))) (fun j => markK x__21 ((fun _ => ((p__7 : Nat) : Int)) j) ((dwC (shF a__8 b__9 p__18) p__7 x__21) j) 64)) s__6) (fun j => (fun z => z) (flA (fgQ x__21 (fun _ => ((p__7 : Nat) : Int)) (upd (dwC (shF a__8 b__9 p__18) p__7 x__21) v__29 (upd ((dwC (shF a__8 b__9 p__18) p__7 x__21) v__29) v__33 ((((dwC (shF a__8 b__9 p__18) p__7 x__21) v__29) (v__33)) ^^^ 1))) (fun j => markK x__21 ((fun _ => ((p__7 : Nat) : Int)) j) ((dwC (shF a__8 b__9 p__18) p__7 x__21) j) 64)) s__6 j)) ++ sp108, 2), (b86, layS s__6 (fun _ => ((p__7 : Nat) : Int)) (upd (dwC (shF a__8 b__9 p__18) p__7 x__21) v__29 (upd ((dwC (shF a__8 b__9 p__18) p__7 x__21) v__29) v__33 ((((dwC (shF a__8 b__9 p__18) p__7 x__21) v__29) (v__33)) ^^^ 1))) ++ sp86, 29), (b81, arrU .u32 s__6 (fun j => markK x__21 ((fun _ => ((p__7 : Nat) : Int)) j) ((dwC (shF a__8 b__9 p__18) p__7 x__21) j) 64) ++ sp81, 26), (b75, arrU .u32 s__6 (fun j => markK x__21 ((fun _ => ((p__7 : Nat) : Int)) j) ((dwC (shF a__8 b__9 p__18) p__7 x__21) j) 64) ++ sp75, 26), (b68, layS s__6 (fun _ => ((p__7 : Nat) : Int)) (dwC (shF a__8 b__9 p__18) p__7 x__21) ++ sp68, 29), (b5, schV ((s__6 : Nat) : Int) ((p__7 : Nat) : Int) (a__8) (b__9), 62)] := st.pick [1, 0, 2, 3, 4, 5, 6, 7, 8, 9, 10] (by decide) rfl
                      exact WT.nil ⟨(b44, b330), (.cons rfl (.cons rfl (.cons rfl (.cons rfl (.cons rfl (.cons rfl (.cons rfl (.nil _)))))))), st⟩
                  clear st
                  rintro ⟨b44, b330⟩ w84 st
                  try dsimp only at st ⊢
                  refine tn ?_
                  refine Wc.seq ?_
                  have hok40 : layOk ((p__7 : Nat) : Int) (orC (fun z_ => [(dwC (shF a__8 b__9 p__18) p__7 x__21) 0, shC ((dwC (shF a__8 b__9 p__18) p__7 x__21) 1) x9 y9].getD z_ (fun _ => 0)) 2) = true := layOk_stk hl0 hl1 rfl x9 y9
                  refine Wc.region rfl ?_
                  refine Wl.loadA (i := 0) st tA_29 rfl rfl (all_sub layV_len) layV_len ?_
                  refine Wl.pure (PR.moveI rfl) ?_
                  refine Wl.callV (c_impl_ContrastOf (p := (fun z_ => [((fun _ => ((p__7 : Nat) : Int)) 0), ((fun _ => ((p__7 : Nat) : Int)) 1)].getD z_ 0) 0) (c := (orC (fun z_ => [((dwC (shF a__8 b__9 p__18) p__7 x__21) 0), (shC ((dwC (shF a__8 b__9 p__18) p__7 x__21) 1) x9 y9)].getD z_ (fun _ => 0)) 2)) (q := p__18) (show -128 ≤ ((p__7 : Nat) : Int) ∧ ((p__7 : Nat) : Int) ≤ 127 by omega) (orC_lt (lit_lt2 ((dwC_lt _ _ _) 0) (shC_lt ((dwC_lt _ _ _) 1) x9 y9)) 2) (by first | assumption | omega) hok40 hqg9) rfl ?_
                  intro w85 hbel
                  replace st := st.call hbel
                  clear hbel
                  refine Wl.pure (PR.moveV (.tuple #[.int .i64 (conZ p__18 (orC (fun z_ => [((dwC (shF a__8 b__9 p__18) p__7 x__21) 0), (shC ((dwC (shF a__8 b__9 p__18) p__7 x__21) 1) x9 y9)].getD z_ (fun _ => 0)) 2)), .int .i64 (0)]) rfl) ?_
                  refine Wl.pure (PR.extr (i := 0) (vs := [.int .i64 (conZ p__18 (orC (fun z_ => [((dwC (shF a__8 b__9 p__18) p__7 x__21) 0), (shC ((dwC (shF a__8 b__9 p__18) p__7 x__21) 1) x9 y9)].getD z_ (fun _ => 0)) 2)), .int .i64 (0)]) rfl rfl) ?_
                  refine Wl.pure (PR.extr (i := 1) (vs := [.int .i64 (conZ p__18 (orC (fun z_ => [((dwC (shF a__8 b__9 p__18) p__7 x__21) 0), (shC ((dwC (shF a__8 b__9 p__18) p__7 x__21) 1) x9 y9)].getD z_ (fun _ => 0)) 2)), .int .i64 (0)]) rfl rfl) ?_
                  refine Wl.pure (PR.assI rfl) ?_
                  refine Wl.pure (PR.assI rfl) ?_
                  refine Wl.nil ?_
                  refine tn ?_
                  refine Wc.seq ?_
                  refine Wc.region rfl ?_
                  refine Wl.pure (PR.moveL rfl) ?_
                  refine Wl.pure (PR.sliceTo (h := 2) tS_37 rfl rfl (by omega)) ?_
                  refine Wl.callV (c_impl_StackLayers (A := some ⟨b68, 0, none⟩) (n := 2) (cp := c68) (p := (fun i => (fun _ => ((p__7 : Nat) : Int)) (0 + i))) (c := (fun i => (dwC (shF a__8 b__9 p__18) p__7 x__21) (0 + i))) ((RdA.mid (layS_row _ _) (st.rdA (i := 9) (n := (s__6 * 65)) rfl (app_all (recV_len (s := 65) (layS_row _ _) _))) (lo := 0) (m := 2) (by omega)).sl) (fun i hi => by dsimp only; omega) (fun i => (dwC_lt _ _ _) (0 + i)) (by first | assumption | omega) (by decide) (rows_lay2 hla0 (by omega)) allPc) rfl ?_
                  intro w86 hbel
                  replace st := st.call hbel
                  clear hbel
                  refine Wl.pure (PR.moveV (.tuple #[.agg (layV ((fun i => (fun _ => ((p__7 : Nat) : Int)) (0 + i)) 0) ((orC (fun i => (dwC (shF a__8 b__9 p__18) p__7 x__21) (0 + i)) 2))).toArray, .int .i64 (0)]) rfl) ?_
                  refine Wl.pure (PR.extr (i := 0) (vs := [.agg (layV ((fun i => (fun _ => ((p__7 : Nat) : Int)) (0 + i)) 0) ((orC (fun i => (dwC (shF a__8 b__9 p__18) p__7 x__21) (0 + i)) 2))).toArray, .int .i64 (0)]) rfl rfl) ?_
                  refine Wl.pure (PR.extr (i := 1) (vs := [.agg (layV ((fun i => (fun _ => ((p__7 : Nat) : Int)) (0 + i)) 0) ((orC (fun i => (dwC (shF a__8 b__9 p__18) p__7 x__21) (0 + i)) 2))).toArray, .int .i64 (0)]) rfl rfl) ?_
                  refine Wl.alloc st tZ_29 rfl ?_
                  clear st
                  intro b48 w87 st
                  refine Wl.storeA (i := 0) (cs' := layV ((fun i => (fun _ => ((p__7 : Nat) : Int)) (0 + i)) 0) ((orC (fun i => (dwC (shF a__8 b__9 p__18) p__7 x__21) (0 + i)) 2))) st tA_29 rfl rfl layV_len layV_one rfl (le_of_len layV_len (by omega)) (all_put layV_len) ?_
                  clear st
                  intro w88 st
                  replace st : St [] w w88 [(b48, layV ((fun i => (fun _ => ((p__7 : Nat) : Int)) (0 + i)) 0) ((orC (fun i => (dwC (shF a__8 b__9 p__18) p__7 x__21) (0 + i)) 2)), 29), (b44, layV ((fun z_ => [((fun _ => ((p__7 : Nat) : Int)) 0), ((fun _ => ((p__7 : Nat) : Int)) 1)].getD z_ 0) 0) ((orC (fun z_ => [((dwC (shF a__8 b__9 p__18) p__7 x__21) 0), (shC ((dwC (shF a__8 b__9 p__18) p__7 x__21) 1) x9 y9)].getD z_ (fun _ => 0)) 2)), 29), (b330, layS 2 (fun z_ => [((fun _ => ((p__7 : Nat) : Int)) 0), ((fun _ => ((p__7 : Nat) : Int)) 1)].getD z_ 0) (fun z_ => [((dwC (shF a__8 b__9 p__18) p__7 x__21) 0), (shC ((dwC (shF a__8 b__9 p__18) p__7 x__21) 1) x9 y9)].getD z_ (fun _ => 0)), 29), (b42, layV ((fun _ => ((p__7 : Nat) : Int)) 1) ((shC ((dwC (shF a__8 b__9 p__18) p__7 x__21) 1) x9 y9)), 29), (b_o, arrU .u64 s__6 e ++ sp_o, 54), (b115, arrU .i64 (flN (fgQ x__21 (fun _ => ((p__7 : Nat) : Int)) (dwC (shF a__8 b__9 p__18) p__7 x__21) (fun j => markK x__21 ((fun _ => ((p__7 : Nat) : Int)) j) ((dwC (shF a__8 b__9 p__18) p__7 x__21) j) 64)) s__6) (fun j => (fun z => z) (flA (fgQ x__21 (fun _ => ((p__7 : Nat) : Int)) (dwC (shF a__8 b__9 p__18) p__7 x__21) (fun j => markK x__21 ((fun _ => ((p__7 : Nat) : Int)) j) ((dwC (shF a__8 b__9 p__18) p__7 x__21) j) 64)) s__6 j)) ++ sp115, 2), (b108, arrU .i64 (flN (fgQ x__21 (fun _ => ((p__7 : Nat) : Int)) (upd (dwC (shF a__8 b__9 p__18) p__7 x__21) v__29 (upd ((dwC (shF a__8 b__9 p__18) p__7 x__21) v__29) v__33 ((((dwC (shF a__8 b__9 p__18) p__7 x__21) v__29) (v__33)) ^^^ 1))) (fun j => markK x__21 ((fun _ => ((p__7 : Nat) : Int)) j) ((dwC (shF a__8 b__9 p__18) p__7 x__21) j) 64)) s__6) (fun j => (fun z => z) (flA (fgQ x__21 (fun _ => ((p__7 : Nat) : Int)) (upd (dwC (shF a__8 b__9 p__18) p__7 x__21) v__29 (upd ((dwC (shF a__8 b__9 p__18) p__7 x__21) v__29) v__33 ((((dwC (shF a__8 b__9 p__18) p__7 x__21) v__29) (v__33)) ^^^ 1))) (fun j => markK x__21 ((fun _ => ((p__7 : Nat) : Int)) j) ((dwC (shF a__8 b__9 p__18) p__7 x__21) j) 64)) s__6 j)) ++ sp108, 2), (b86, layS s__6 (fun _ => ((p__7 : Nat) : Int)) (upd (dwC (shF a__8 b__9 p__18) p__7 x__21) v__29 (upd ((dwC (shF a__8 b__9 p__18) p__7 x__21) v__29) v__33 ((((dwC (shF a__8 b__9 p__18) p__7 x__21) v__29) (v__33)) ^^^ 1))) ++ sp86, 29), (b81, arrU .u32 s__6 (fun j => markK x__21 ((fun _ => ((p__7 : Nat) : Int)) j) ((dwC (shF a__8 b__9 p__18) p__7 x__21) j) 64) ++ sp81, 26), (b75, arrU .u32 s__6 (fun j => markK x__21 ((fun _ => ((p__7 : Nat) : Int)) j) ((dwC (shF a__8 b__9 p__18) p__7 x__21) j) 64) ++ sp75, 26), (b68, layS s__6 (fun _ => ((p__7 : Nat) : Int)) (dwC (shF a__8 b__9 p__18) p__7 x__21) ++ sp68, 29), (b5, schV ((s__6 : Nat) : Int) ((p__7 : Nat) : Int) (a__8) (b__9), 62)] := st
                  refine Wl.pure (PR.assI rfl) ?_
                  refine Wl.nil ?_
                  refine tn ?_
                  refine Wc.seq ?_
                  have hok42 : layOk ((p__7 : Nat) : Int) (orC (fun i => (dwC (shF a__8 b__9 p__18) p__7 x__21) (0 + i)) 2) = true := stk_ok hl0 hl1
                  refine Wc.region rfl ?_
                  refine Wl.loadA (i := 0) st tA_29 rfl rfl (all_sub layV_len) layV_len ?_
                  refine Wl.pure (PR.moveI rfl) ?_
                  refine Wl.callV (c_impl_ContrastOf (p := (fun i => (fun _ => ((p__7 : Nat) : Int)) (0 + i)) 0) (c := (orC (fun i => (dwC (shF a__8 b__9 p__18) p__7 x__21) (0 + i)) 2)) (q := p__18) (show -128 ≤ ((p__7 : Nat) : Int) ∧ ((p__7 : Nat) : Int) ≤ 127 by omega) (orC_lt (fun i => (dwC_lt _ _ _) (0 + i)) 2) (by first | assumption | omega) hok42 hqg9) rfl ?_
                  intro w89 hbel
                  replace st := st.call hbel
                  clear hbel
                  refine Wl.pure (PR.moveV (.tuple #[.int .i64 (conZ p__18 (orC (fun i => (dwC (shF a__8 b__9 p__18) p__7 x__21) (0 + i)) 2)), .int .i64 (0)]) rfl) ?_
                  refine Wl.pure (PR.extr (i := 0) (vs := [.int .i64 (conZ p__18 (orC (fun i => (dwC (shF a__8 b__9 p__18) p__7 x__21) (0 + i)) 2)), .int .i64 (0)]) rfl rfl) ?_
                  refine Wl.pure (PR.extr (i := 1) (vs := [.int .i64 (conZ p__18 (orC (fun i => (dwC (shF a__8 b__9 p__18) p__7 x__21) (0 + i)) 2)), .int .i64 (0)]) rfl rfl) ?_
                  refine Wl.pure (PR.assI rfl) ?_
                  refine Wl.pure (PR.assI rfl) ?_
                  refine Wl.nil ?_
                  refine tn ?_
                  refine Wc.seq ?_
                  have hst9 : conZ p__18 (orC (fun i => (dwC (shF a__8 b__9 p__18) p__7 x__21) (0 + i)) 2) ≤ z9 := Int.le_trans (Int.le_of_eq (conZ_congr fun k hk => rfl)) hge
                  rw [show (conZ p__18 (orC (fun z_ => [((dwC (shF a__8 b__9 p__18) p__7 x__21) 0), (shC ((dwC (shF a__8 b__9 p__18) p__7 x__21) 1) x9 y9)].getD z_ (fun _ => 0)) 2)) = z9 from hx9.symm]
                  refine Wc.region rfl ?_
                  refine Wl.pure (PR.moveI rfl) ?_
                  refine Wl.pure (PR.eqlS (a := 0) rfl rfl) ?_
                  refine Wl.pure (PR.moveB rfl) ?_
                  refine Wl.on rfl rfl ?_
                  refine Wl.pure (PR.moveI rfl) ?_
                  refine Wl.on rfl rfl ?_
                  refine Wl.pure (PR.eqlS (a := 0) rfl rfl) ?_
                  refine Wl.pure (PR.pickTB rfl rfl) ?_
                  refine Wl.pure (PR.moveB rfl) ?_
                  refine Wl.on rfl rfl ?_
                  refine Wl.pure (PR.moveI rfl) ?_
                  refine Wl.on rfl rfl ?_
                  refine Wl.pure (PR.eqlS (a := 0) rfl rfl) ?_
                  refine Wl.pure (PR.pickTB rfl rfl) ?_
                  refine Wl.pure (PR.moveB rfl) ?_
                  refine Wl.on rfl rfl ?_
                  refine Wl.pure (PR.moveI rfl) ?_
                  refine Wl.on rfl rfl ?_
                  refine Wl.pure (PR.moveI rfl) ?_
                  refine Wl.on rfl rfl ?_
                  refine Wl.pure (PR.eqlS (a := z9) rfl rfl) ?_
                  refine Wl.pure (PR.pickTB rfl rfl) ?_
                  refine Wl.pure (PR.moveB rfl) ?_
                  refine Wl.on rfl rfl ?_
                  refine Wl.pure (PR.moveI rfl) ?_
                  refine Wl.on rfl rfl ?_
                  refine Wl.pure (PR.eqlS (a := 0) rfl rfl) ?_
                  refine Wl.pure (PR.pickTB rfl rfl) ?_
                  refine Wl.pure (PR.moveB rfl) ?_
                  refine Wl.on rfl rfl ?_
                  refine Wl.pure (PR.moveI rfl) ?_
                  refine Wl.on rfl rfl ?_
                  refine Wl.pure (PR.eqlS (a := 0) rfl rfl) ?_
                  refine Wl.pure (PR.pickTB rfl rfl) ?_
                  refine Wl.pure (PR.moveB rfl) ?_
                  refine Wl.on rfl rfl ?_
                  refine Wl.pure (PR.moveI rfl) ?_
                  refine Wl.on rfl rfl ?_
                  refine Wl.pure (PR.moveI rfl) ?_
                  refine Wl.on rfl rfl ?_
                  refine Wl.pure (PR.geq (a := z9) (b := conZ p__18 (orC (fun i => (dwC (shF a__8 b__9 p__18) p__7 x__21) (0 + i)) 2)) rfl rfl) ?_
                  rw [show (decide (conZ p__18 (orC (fun i => (dwC (shF a__8 b__9 p__18) p__7 x__21) (0 + i)) 2) ≤ z9)) = true from (decide_eq_true hst9)]
                  refine Wl.pure (PR.pickTB rfl rfl) ?_
                  refine Wl.pure (PR.assB rfl) ?_
                  refine Wl.nil ?_
                  refine tn ?_
                  refine Wc.ret ?_
                  refine postL.tmp rfl rfl ?_
                  exact RetV.of rfl st.below
                · rw [show (selZ (bsC ((fun _ => ((p__7 : Nat) : Int)) 0) ((dwC (shF a__8 b__9 p__18) p__7 x__21) 0) ((fun _ => ((p__7 : Nat) : Int)) 1) ((dwC (shF a__8 b__9 p__18) p__7 x__21) 1) p__18) (bsF p__18 ((dwC (shF a__8 b__9 p__18) p__7 x__21) 0) ((dwC (shF a__8 b__9 p__18) p__7 x__21) 1) 25).1) = 0 from (selZ_n hbs)]
                  rw [show (selZ (bsC ((fun _ => ((p__7 : Nat) : Int)) 0) ((dwC (shF a__8 b__9 p__18) p__7 x__21) 0) ((fun _ => ((p__7 : Nat) : Int)) 1) ((dwC (shF a__8 b__9 p__18) p__7 x__21) 1) p__18) (bsF p__18 ((dwC (shF a__8 b__9 p__18) p__7 x__21) 0) ((dwC (shF a__8 b__9 p__18) p__7 x__21) 1) 25).2.1) = 0 from (selZ_n hbs)]
                  rw [show (selZ (bsC ((fun _ => ((p__7 : Nat) : Int)) 0) ((dwC (shF a__8 b__9 p__18) p__7 x__21) 0) ((fun _ => ((p__7 : Nat) : Int)) 1) ((dwC (shF a__8 b__9 p__18) p__7 x__21) 1) p__18) (bsF p__18 ((dwC (shF a__8 b__9 p__18) p__7 x__21) 0) ((dwC (shF a__8 b__9 p__18) p__7 x__21) 1) 25).2.2) = 0 from (selZ_n hbs)]
                  rw [show (bsC ((fun _ => ((p__7 : Nat) : Int)) 0) ((dwC (shF a__8 b__9 p__18) p__7 x__21) 0) ((fun _ => ((p__7 : Nat) : Int)) 1) ((dwC (shF a__8 b__9 p__18) p__7 x__21) 1) p__18) = 6 from (bs_6 hl0 hl1 hbs)]
                  refine Wc.region rfl ?_
                  refine Wl.pure (PR.moveI rfl) ?_
                  refine Wl.pure (PR.moveI rfl) ?_
                  refine Wl.pure (PR.neqS (a := 6) rfl rfl) ?_
                  refine Wl.pure (PR.moveB rfl) ?_
                  refine Wl.on rfl rfl ?_
                  refine Wl.pure (PR.moveI rfl) ?_
                  refine Wl.on rfl rfl ?_
                  refine Wl.pure (PR.moveI rfl) ?_
                  refine Wl.on rfl rfl ?_
                  refine Wl.pure (PR.neqS (a := 0) rfl rfl) ?_
                  refine Wl.pure (PR.pickFB rfl rfl) ?_
                  refine Wl.pure (PR.moveB rfl) ?_
                  refine Wl.on rfl rfl ?_
                  refine Wl.pure (PR.moveI rfl) ?_
                  refine Wl.on rfl rfl ?_
                  refine Wl.pure (PR.moveI rfl) ?_
                  refine Wl.on rfl rfl ?_
                  refine Wl.pure (PR.neqS (a := 0) rfl rfl) ?_
                  refine Wl.pure (PR.pickFB rfl rfl) ?_
                  refine Wl.pure (PR.moveB rfl) ?_
                  refine Wl.on rfl rfl ?_
                  refine Wl.pure (PR.moveI rfl) ?_
                  refine Wl.on rfl rfl ?_
                  refine Wl.pure (PR.moveI rfl) ?_
                  refine Wl.on rfl rfl ?_
                  refine Wl.pure (PR.neqS (a := 0) rfl rfl) ?_
                  refine Wl.pure (PR.pickFB rfl rfl) ?_
                  refine Wl.pure (PR.moveB rfl) ?_
                  refine Wl.on rfl rfl ?_
                  refine Wl.pure (PR.moveI rfl) ?_
                  refine Wl.on rfl rfl ?_
                  refine Wl.pure ((show PR _ _ _ (Value.bool true) from PR.neq (a := (6 : Int)) (b := (0 : Int)) rfl rfl)) ?_
                  refine Wl.on rfl rfl ?_
                  refine Wl.pure (PR.moveB rfl) ?_
                  refine Wl.on rfl rfl ?_
                  refine Wl.pure (PR.moveI rfl) ?_
                  refine Wl.on rfl rfl ?_
                  refine Wl.pure (PR.neqS (a := 6) rfl rfl) ?_
                  refine Wl.on rfl rfl ?_
                  refine Wl.pure (PR.pickTB rfl rfl) ?_
                  refine Wl.pure (PR.pickFB rfl rfl) ?_
                  refine Wl.nil ?_
                  refine tn ?_
                  refine Wc.condF rfl ?_
                  refine Wc.skip ?_
                  refine tn ?_
                  refine Wc.seq ?_
                  refine Wc.seq ?_
                  refine Wc.region rfl ?_
                  refine Wl.pure (PR.moveI rfl) ?_
                  refine Wl.pure ((show PR _ _ _ (Value.bool true) from PR.neq (a := (6 : Int)) (b := (0 : Int)) rfl rfl)) ?_
                  refine Wl.nil ?_
                  refine tn ?_
                  refine Wc.condT rfl ?_
                  refine Wc.seq ?_
                  refine Wc.region rfl ?_
                  refine Wl.pure (PR.assB rfl) ?_
                  refine Wl.nil ?_
                  refine tn ?_
                  refine Wc.ret ?_
                  refine tr ?_
                  refine postL.tmp rfl rfl ?_
                  exact RetV.of rfl st.below
            · simp only [Bool.not_eq_true', Bool.not_eq_false', Bool.not_true, Bool.not_false] at h72
              refine Wl.off rfl rfl rfl ?_
              refine Wl.off rfl rfl rfl ?_
              refine Wl.offU rfl rfl ?_
              refine Wl.offU rfl rfl ?_
              refine Wl.off rfl rfl rfl ?_
              refine Wl.pure (PR.pickTB rfl rfl) ?_
              refine Wl.pure (PR.moveB rfl) ?_
              refine Wl.off rfl rfl rfl ?_
              refine Wl.off rfl rfl rfl ?_
              refine Wl.offU rfl rfl ?_
              refine Wl.offU rfl rfl ?_
              refine Wl.offU rfl rfl ?_
              refine Wl.offU rfl rfl ?_
              refine Wl.offU rfl rfl ?_
              refine Wl.offU rfl rfl ?_
              refine Wl.offU rfl rfl ?_
              refine Wl.offU rfl rfl ?_
              refine Wl.offU rfl rfl ?_
              refine Wl.offU rfl rfl ?_
              refine Wl.off rfl rfl rfl ?_
              refine Wl.pure (PR.pickTB rfl rfl) ?_
              refine Wl.nil ?_
              refine tn ?_
              refine Wc.condT rfl ?_
              refine Wc.seq ?_
              refine Wc.region rfl ?_
              refine Wl.pure (PR.assB rfl) ?_
              refine Wl.nil ?_
              refine tn ?_
              refine Wc.ret ?_
              refine tr ?_
              refine postL.tmp rfl rfl ?_
              refine RetV.of ?_ st.below
              refine congrArg Value.bool ?_
              first | rfl | (exfalso; omega) | (simp only [*, decide_true, decide_false, Bool.not_true, Bool.not_false]; done) | (simp; omega) | (rw [Bool.eq_iff_iff]; simp; omega) | simp_all
  · refine Wl.off rfl rfl rfl ?_
    refine Wl.pure (PR.pickTB rfl rfl) ?_
    refine Wl.nil ?_
    refine tn ?_
    refine Wc.condT rfl ?_
    refine Wc.seq ?_
    refine Wc.region rfl ?_
    refine Wl.pure (PR.assB rfl) ?_
    refine Wl.nil ?_
    refine tn ?_
    refine Wc.ret ?_
    refine tr ?_
    refine postL.tmp rfl rfl ?_
    exact RetV.of rfl st.below

end Go.Proofs.Ytagghfllgafmgaa
