/-
  Contracts of functions, printed by a program of ours.
-/
import Derived.Test.YtajkjhjnbfcpfaaCT3
namespace Go.Proofs.Ytajkjhjnbfcpfaa
open Go.RowKit
set_option linter.unusedVariables false
set_option linter.unusedSimpArgs false

set_option maxHeartbeats 400000 in
set_option maxRecDepth 4000 in
theorem c_laws_FnCovers {A0 : Option Addr} {n0 : Nat} {cp0 : Nat} {c0 : Nat → Nat} {A1 : Option Addr} {n1 : Nat} {cp1 : Nat} {c1 : Nat → Nat} {w : World} (hn0 : n0 ≤ 9223372036854775807) (hR0 : RdS w A0 n0 (arrU .u8 n0 c0)) (hc0 : ∀ k, c0 k < 256) (hn1 : n1 ≤ 9223372036854775807) (hR1 : RdS w A1 n1 (arrU .u8 n1 c1)) (hc1 : ∀ k, c1 k < 256) :
    CE Try.prog 14 [.slice (A0) (n0) (cp0), .slice (A1) (n1) (cp1)] w (RetV w (.bool true)) := by
  refine CE.enter 237 [(0, .slice (A0) (n0) (cp0)), (1, .slice (A1) (n1) (cp1))] en_14 Try.func14 rfl rfl (Nat.le_of_ble_eq_true rfl) rfl ?_
  have st := St.start w
  refine Wc.seq ?_
  refine Wc.region rfl ?_
  refine Wl.pure (PR.assB rfl) ?_
  refine Wl.nil ?_
  refine tn ?_
  refine Wc.seq ?_
  refine Wc.seq ?_
  refine Wc.region rfl ?_
  refine Wl.pure (PR.moveL rfl) ?_
  refine Wl.callV (c_laws_f6big (A := A0) (n := n0) (cp := cp0) (by first | assumption | omega)) rfl ?_
  intro w1 hbel
  replace st := st.call hbel
  clear hbel
  refine Wl.pure (PR.moveB rfl) ?_
  refine Wl.splitF (q := (4096 : Int) < ((n0 : Nat) : Int)) rfl rfl (fun h2 => ?_) (fun h2 => ?_)
  · refine Wl.pure (PR.moveL rfl) ?_
    refine Wl.on rfl rfl ?_
    refine Wl.callV (c_laws_f6big (A := A1) (n := n1) (cp := cp1) (by first | assumption | omega)) rfl ?_
    intro w3 hbel
    replace st := st.call hbel
    clear hbel
    refine Wl.pure (PR.pickFB rfl rfl) ?_
    refine Wl.nil ?_
    refine tn ?_
    refine Wc.condD (p := (4096 : Int) < ((n1 : Nat) : Int)) rfl (fun h4 => ?_) (fun h4 => ?_)
    · refine Wc.seq ?_
      refine Wc.region rfl ?_
      refine Wl.pure (PR.assB rfl) ?_
      refine Wl.nil ?_
      refine tn ?_
      refine Wc.ret ?_
      refine tr ?_
      refine postL.tmp rfl rfl ?_
      exact RetV.of rfl st.below
    · refine Wc.skip ?_
      refine tn ?_
      refine Wc.seq ?_
      refine Wc.region rfl ?_
      refine Wl.pure (PR.moveL rfl) ?_
      refine Wl.callXE [] st (c_spec_P6Picture (A := A0) (n := n0) (cp := cp0) (c := c0) (hR0.st st) hc0) rfl rfl ?_
      clear st
      rintro p__6 hx_7 w5 st
      try dsimp only at st hx_7
      replace st : St [] w w5 [] := st
      refine Wl.pure (PR.assI rfl) ?_
      refine Wl.nil ?_
      refine tn ?_
      refine Wc.seq ?_
      refine Wc.region rfl ?_
      refine Wl.pure (PR.moveL rfl) ?_
      refine Wl.callXE [] st (c_spec_P6Picture (A := A1) (n := n1) (cp := cp1) (c := c1) (hR1.st st) hc1) rfl rfl ?_
      clear st
      rintro p__9 hx_10 w8 st
      try dsimp only at st hx_10
      replace st : St [] w w8 [] := st
      refine Wl.pure (PR.assI rfl) ?_
      refine Wl.nil ?_
      refine tn ?_
      refine Wc.seq ?_
      refine Wc.region rfl ?_
      refine Wl.buildSlice (ps := [(0, .int .u8 (3))]) (cs := arrU .u8 1 (fun _ => 3)) st tS_67 tZ_5 rfl rfl rfl ?_
      clear st
      intro b49 w11 st
      refine Wl.pure (PR.moveL rfl) ?_
      replace st : St [] w w11 [(b49, arrU .u8 1 (fun _ => 3) ++ [], 5)] := st.nilat (i := 0) rfl
      refine Wl.append (n := 1) (c := 1) (m := n1) (cs := arrU .u8 1 (fun _ => 3)) (sp := []) (vs := arrU .u8 n1 c1) (i := 0) st tS_67 tZ_5 rfl rfl rfl (by rw [(arrU_len _), Nat.mul_one]) (by simp) (Nat.le_refl _) rfl (Src.ofRdS' (tyS_und tS_67) (hR1.st st) (by rw [(arrU_len _), Nat.mul_one]) (arrU_one _)) (by omega) (by omega) ?_
      clear st
      intro b51 c51 sp51 w12 hc51 hs51 st
      rw [arrU_app] at st
      replace st : St [] w w12 [(b51, arrU .u8 (1 + n1) (apF 1 (fun _ => 3) c1) ++ sp51, 5)] := st
      refine Wl.callXE [] st (c_spec_P6Picture (A := some ⟨b51, 0, none⟩) (n := 1 + n1) (cp := c51) (c := (apF 1 (fun _ => 3) c1)) ((st.rdA (i := 0) (n := (1 + n1)) rfl (app_all (arrU_len _))).sl) (apF_lt (fun _ => by decide) hc1)) rfl rfl ?_
      clear st
      rintro p__14 hx_15 w13 st
      try dsimp only at st hx_15
      replace st : St [] w w13 [(b51, arrU .u8 (1 + n1) (apF 1 (fun _ => 3) c1) ++ sp51, 5)] := st
      refine Wl.pure (PR.assI rfl) ?_
      refine Wl.nil ?_
      refine tn ?_
      refine Wc.seq ?_
      refine Wc.region rfl ?_
      refine Wl.pure (PR.moveL rfl) ?_
      refine Wl.callXE [] st (c_spec_P6Seed (A := A0) (n := n0) (cp := cp0) (c := c0) (hR0.st st) hc0) rfl rfl ?_
      clear st
      rintro x__17 hx_18 w16 st
      try dsimp only at st hx_18
      replace st : St [] w w16 [(b51, arrU .u8 (1 + n1) (apF 1 (fun _ => 3) c1) ++ sp51, 5)] := st
      refine Wl.pure (PR.assI rfl) ?_
      refine Wl.nil ?_
      refine tn ?_
      refine Wc.seq ?_
      refine Wc.region rfl ?_
      refine Wl.pure (PR.moveI rfl) ?_
      refine Wl.pure (PR.moveI rfl) ?_
      refine Wl.pure (PR.moveI rfl) ?_
      refine Wl.pure (PR.moveI rfl) ?_
      refine Wl.callV (c_impl_CoverLayers (p := p__6) (q := p__9) (z := p__14) (x := x__17) (by first | assumption | omega) (by first | assumption | omega) (by first | assumption | omega) (by first | assumption | omega)) rfl ?_
      intro w19 hbel
      replace st := st.call hbel
      clear hbel
      refine Wl.pure (PR.moveV (.tuple #[.agg (layV (4) ((dwC (covF p__6 p__9 p__14) 4 x__17 0))).toArray, .agg (layV (4) ((dwC (covF p__6 p__9 p__14) 4 x__17 1))).toArray, .int .u32 (((sdK 4 x__17 64 : Nat) : Int))]) rfl) ?_
      refine Wl.pure (PR.extr (i := 0) (vs := [.agg (layV (4) ((dwC (covF p__6 p__9 p__14) 4 x__17 0))).toArray, .agg (layV (4) ((dwC (covF p__6 p__9 p__14) 4 x__17 1))).toArray, .int .u32 (((sdK 4 x__17 64 : Nat) : Int))]) rfl rfl) ?_
      refine Wl.pure (PR.extr (i := 1) (vs := [.agg (layV (4) ((dwC (covF p__6 p__9 p__14) 4 x__17 0))).toArray, .agg (layV (4) ((dwC (covF p__6 p__9 p__14) 4 x__17 1))).toArray, .int .u32 (((sdK 4 x__17 64 : Nat) : Int))]) rfl rfl) ?_
      refine Wl.pure (PR.extr (i := 2) (vs := [.agg (layV (4) ((dwC (covF p__6 p__9 p__14) 4 x__17 0))).toArray, .agg (layV (4) ((dwC (covF p__6 p__9 p__14) 4 x__17 1))).toArray, .int .u32 (((sdK 4 x__17 64 : Nat) : Int))]) rfl rfl) ?_
      refine Wl.alloc st tZ_30 rfl ?_
      clear st
      intro b9 w20 st
      refine Wl.alloc st tZ_30 rfl ?_
      clear st
      intro b10 w21 st
      refine Wl.storeA (i := 1) (cs' := layV (4) ((dwC (covF p__6 p__9 p__14) 4 x__17 0))) st tA_30 rfl rfl layV_len layV_one rfl (le_of_len layV_len (by omega)) (all_put layV_len) ?_
      clear st
      intro w22 st
      replace st : St [] w w22 [(b10, layV (0) ((fun _ => 0)), 30), (b9, layV (4) ((dwC (covF p__6 p__9 p__14) 4 x__17 0)), 30), (b51, arrU .u8 (1 + n1) (apF 1 (fun _ => 3) c1) ++ sp51, 5)] := st
      refine Wl.storeA (i := 0) (cs' := layV (4) ((dwC (covF p__6 p__9 p__14) 4 x__17 1))) st tA_30 rfl rfl layV_len layV_one rfl (le_of_len layV_len (by omega)) (all_put layV_len) ?_
      clear st
      intro w23 st
      replace st : St [] w w23 [(b10, layV (4) ((dwC (covF p__6 p__9 p__14) 4 x__17 1)), 30), (b9, layV (4) ((dwC (covF p__6 p__9 p__14) 4 x__17 0)), 30), (b51, arrU .u8 (1 + n1) (apF 1 (fun _ => 3) c1) ++ sp51, 5)] := st
      refine Wl.pure (PR.assI rfl) ?_
      refine Wl.nil ?_
      refine tn ?_
      refine Wc.seq ?_
      refine Wc.region rfl ?_
      refine Wl.pure (PR.moveI rfl) ?_
      refine Wl.pure (PR.moveI rfl) ?_
      refine Wl.pure (PR.moveI rfl) ?_
      refine Wl.pure (PR.moveI rfl) ?_
      refine Wl.callV (c_spec_CoverLayers (p := p__6) (q := p__9) (z := p__14) (x := x__17) (by first | assumption | omega) (by first | assumption | omega) (by first | assumption | omega) (by first | assumption | omega)) rfl ?_
      intro w24 hbel
      replace st := st.call hbel
      clear hbel
      refine Wl.pure (PR.moveV (.tuple #[.agg (layV (4) ((dwC (covF p__6 p__9 p__14) 4 x__17 0))).toArray, .agg (layV (4) ((dwC (covF p__6 p__9 p__14) 4 x__17 1))).toArray, .int .u32 (((sdK 4 x__17 64 : Nat) : Int))]) rfl) ?_
      refine Wl.pure (PR.extr (i := 0) (vs := [.agg (layV (4) ((dwC (covF p__6 p__9 p__14) 4 x__17 0))).toArray, .agg (layV (4) ((dwC (covF p__6 p__9 p__14) 4 x__17 1))).toArray, .int .u32 (((sdK 4 x__17 64 : Nat) : Int))]) rfl rfl) ?_
      refine Wl.pure (PR.extr (i := 1) (vs := [.agg (layV (4) ((dwC (covF p__6 p__9 p__14) 4 x__17 0))).toArray, .agg (layV (4) ((dwC (covF p__6 p__9 p__14) 4 x__17 1))).toArray, .int .u32 (((sdK 4 x__17 64 : Nat) : Int))]) rfl rfl) ?_
      refine Wl.pure (PR.extr (i := 2) (vs := [.agg (layV (4) ((dwC (covF p__6 p__9 p__14) 4 x__17 0))).toArray, .agg (layV (4) ((dwC (covF p__6 p__9 p__14) 4 x__17 1))).toArray, .int .u32 (((sdK 4 x__17 64 : Nat) : Int))]) rfl rfl) ?_
      refine Wl.alloc st tZ_30 rfl ?_
      clear st
      intro b12 w25 st
      refine Wl.alloc st tZ_30 rfl ?_
      clear st
      intro b13 w26 st
      refine Wl.storeA (i := 1) (cs' := layV (4) ((dwC (covF p__6 p__9 p__14) 4 x__17 0))) st tA_30 rfl rfl layV_len layV_one rfl (le_of_len layV_len (by omega)) (all_put layV_len) ?_
      clear st
      intro w27 st
      replace st : St [] w w27 [(b13, layV (0) ((fun _ => 0)), 30), (b12, layV (4) ((dwC (covF p__6 p__9 p__14) 4 x__17 0)), 30), (b10, layV (4) ((dwC (covF p__6 p__9 p__14) 4 x__17 1)), 30), (b9, layV (4) ((dwC (covF p__6 p__9 p__14) 4 x__17 0)), 30), (b51, arrU .u8 (1 + n1) (apF 1 (fun _ => 3) c1) ++ sp51, 5)] := st
      refine Wl.storeA (i := 0) (cs' := layV (4) ((dwC (covF p__6 p__9 p__14) 4 x__17 1))) st tA_30 rfl rfl layV_len layV_one rfl (le_of_len layV_len (by omega)) (all_put layV_len) ?_
      clear st
      intro w28 st
      replace st : St [] w w28 [(b13, layV (4) ((dwC (covF p__6 p__9 p__14) 4 x__17 1)), 30), (b12, layV (4) ((dwC (covF p__6 p__9 p__14) 4 x__17 0)), 30), (b10, layV (4) ((dwC (covF p__6 p__9 p__14) 4 x__17 1)), 30), (b9, layV (4) ((dwC (covF p__6 p__9 p__14) 4 x__17 0)), 30), (b51, arrU .u8 (1 + n1) (apF 1 (fun _ => 3) c1) ++ sp51, 5)] := st
      refine Wl.pure (PR.assI rfl) ?_
      refine Wl.nil ?_
      refine tn ?_
      refine Wc.seq ?_
      refine Wc.seq ?_
      refine Wc.region rfl ?_
      refine Wl.loadA (i := 3) st tA_30 rfl rfl (all_sub layV_len) layV_len ?_
      refine Wl.loadA (i := 1) st tA_30 rfl rfl (all_sub layV_len) layV_len ?_
      refine Wl.pure (PR.neqR tQ_30 rfl rfl (flat_layV (by simp only [fitI]; omega) (dwC_lt _ _ _ _))) ?_
      refine Wl.pure (PR.moveB rfl) ?_
      refine Wl.on rfl rfl ?_
      refine Wl.loadA (i := 2) st tA_30 rfl rfl (all_sub layV_len) layV_len ?_
      refine Wl.on rfl rfl ?_
      refine Wl.loadA (i := 0) st tA_30 rfl rfl (all_sub layV_len) layV_len ?_
      refine Wl.on rfl rfl ?_
      refine Wl.pure (PR.neqR tQ_30 rfl rfl (flat_layV (by simp only [fitI]; omega) (dwC_lt _ _ _ _))) ?_
      refine Wl.pure (PR.pickFB rfl rfl) ?_
      refine Wl.pure (PR.moveB rfl) ?_
      refine Wl.on rfl rfl ?_
      refine Wl.pure (PR.moveI rfl) ?_
      refine Wl.on rfl rfl ?_
      refine Wl.pure (PR.moveI rfl) ?_
      refine Wl.on rfl rfl ?_
      refine Wl.pure (PR.neqS (a := ((sdK 4 x__17 64 : Nat) : Int)) rfl rfl) ?_
      refine Wl.pure (PR.pickFB rfl rfl) ?_
      refine Wl.nil ?_
      refine tn ?_
      refine Wc.condF rfl ?_
      refine Wc.skip ?_
      refine tn ?_
      refine Wc.seq ?_
      refine Wc.region rfl ?_
      refine Wl.loadA (i := 1) st tA_30 rfl rfl (all_sub layV_len) layV_len ?_
      refine Wl.callV (c_impl_CoverShown (p := 4) (c := (dwC (covF p__6 p__9 p__14) 4 x__17 0)) (by first | assumption | omega) (dwC_lt _ _ _ _)) rfl ?_
      intro w29 hbel
      replace st := st.call hbel
      clear hbel
      refine Wl.pure (PR.moveV (.tuple #[.int .u64 (((selN (codeP 1 (fun z_ => [4].getD z_ 0) (fun z_ => [(dwC (covF p__6 p__9 p__14) 4 x__17 0)].getD z_ (fun _ => 0)) 4) (pic (fun r => decide (3 ≤ ((pc ((dwC (covF p__6 p__9 p__14) 4 x__17 0) r) : Nat) : Int)))) : Nat) : Int)), .int .i64 (((codeP 1 (fun z_ => [4].getD z_ 0) (fun z_ => [(dwC (covF p__6 p__9 p__14) 4 x__17 0)].getD z_ (fun _ => 0)) 4 : Nat) : Int))]) rfl) ?_
      refine Wl.pure (PR.extr (i := 0) (vs := [.int .u64 (((selN (codeP 1 (fun z_ => [4].getD z_ 0) (fun z_ => [(dwC (covF p__6 p__9 p__14) 4 x__17 0)].getD z_ (fun _ => 0)) 4) (pic (fun r => decide (3 ≤ ((pc ((dwC (covF p__6 p__9 p__14) 4 x__17 0) r) : Nat) : Int)))) : Nat) : Int)), .int .i64 (((codeP 1 (fun z_ => [4].getD z_ 0) (fun z_ => [(dwC (covF p__6 p__9 p__14) 4 x__17 0)].getD z_ (fun _ => 0)) 4 : Nat) : Int))]) rfl rfl) ?_
      refine Wl.pure (PR.extr (i := 1) (vs := [.int .u64 (((selN (codeP 1 (fun z_ => [4].getD z_ 0) (fun z_ => [(dwC (covF p__6 p__9 p__14) 4 x__17 0)].getD z_ (fun _ => 0)) 4) (pic (fun r => decide (3 ≤ ((pc ((dwC (covF p__6 p__9 p__14) 4 x__17 0) r) : Nat) : Int)))) : Nat) : Int)), .int .i64 (((codeP 1 (fun z_ => [4].getD z_ 0) (fun z_ => [(dwC (covF p__6 p__9 p__14) 4 x__17 0)].getD z_ (fun _ => 0)) 4 : Nat) : Int))]) rfl rfl) ?_
      refine Wl.pure (PR.assI rfl) ?_
      refine Wl.pure (PR.assI rfl) ?_
      refine Wl.nil ?_
      refine tn ?_
      refine Wc.seq ?_
      refine Wc.region rfl ?_
      refine Wl.loadA (i := 0) st tA_30 rfl rfl (all_sub layV_len) layV_len ?_
      refine Wl.callV (c_impl_CoverShown (p := 4) (c := (dwC (covF p__6 p__9 p__14) 4 x__17 1)) (by first | assumption | omega) (dwC_lt _ _ _ _)) rfl ?_
      intro w30 hbel
      replace st := st.call hbel
      clear hbel
      refine Wl.pure (PR.moveV (.tuple #[.int .u64 (((selN (codeP 1 (fun z_ => [4].getD z_ 0) (fun z_ => [(dwC (covF p__6 p__9 p__14) 4 x__17 1)].getD z_ (fun _ => 0)) 4) (pic (fun r => decide (3 ≤ ((pc ((dwC (covF p__6 p__9 p__14) 4 x__17 1) r) : Nat) : Int)))) : Nat) : Int)), .int .i64 (((codeP 1 (fun z_ => [4].getD z_ 0) (fun z_ => [(dwC (covF p__6 p__9 p__14) 4 x__17 1)].getD z_ (fun _ => 0)) 4 : Nat) : Int))]) rfl) ?_
      refine Wl.pure (PR.extr (i := 0) (vs := [.int .u64 (((selN (codeP 1 (fun z_ => [4].getD z_ 0) (fun z_ => [(dwC (covF p__6 p__9 p__14) 4 x__17 1)].getD z_ (fun _ => 0)) 4) (pic (fun r => decide (3 ≤ ((pc ((dwC (covF p__6 p__9 p__14) 4 x__17 1) r) : Nat) : Int)))) : Nat) : Int)), .int .i64 (((codeP 1 (fun z_ => [4].getD z_ 0) (fun z_ => [(dwC (covF p__6 p__9 p__14) 4 x__17 1)].getD z_ (fun _ => 0)) 4 : Nat) : Int))]) rfl rfl) ?_
      refine Wl.pure (PR.extr (i := 1) (vs := [.int .u64 (((selN (codeP 1 (fun z_ => [4].getD z_ 0) (fun z_ => [(dwC (covF p__6 p__9 p__14) 4 x__17 1)].getD z_ (fun _ => 0)) 4) (pic (fun r => decide (3 ≤ ((pc ((dwC (covF p__6 p__9 p__14) 4 x__17 1) r) : Nat) : Int)))) : Nat) : Int)), .int .i64 (((codeP 1 (fun z_ => [4].getD z_ 0) (fun z_ => [(dwC (covF p__6 p__9 p__14) 4 x__17 1)].getD z_ (fun _ => 0)) 4 : Nat) : Int))]) rfl rfl) ?_
      refine Wl.pure (PR.assI rfl) ?_
      refine Wl.pure (PR.assI rfl) ?_
      refine Wl.nil ?_
      refine tn ?_
      refine Wc.seq ?_
      refine Wc.region rfl ?_
      refine Wl.loadA (i := 1) st tA_30 rfl rfl (all_sub layV_len) layV_len ?_
      refine Wl.loadA (i := 0) st tA_30 rfl rfl (all_sub layV_len) layV_len ?_
      refine Wl.callV (c_impl_SecretShown (p := 4) (c := (dwC (covF p__6 p__9 p__14) 4 x__17 0)) (r := 4) (d := (dwC (covF p__6 p__9 p__14) 4 x__17 1)) (by first | assumption | omega) (dwC_lt _ _ _ _) (by first | assumption | omega) (dwC_lt _ _ _ _)) rfl ?_
      intro w31 hbel
      replace st := st.call hbel
      clear hbel
      refine Wl.pure (PR.moveV (.tuple #[.int .u64 (((selN (codeP 2 (fun i => [4, 4].getD i 0) (fun i => [(dwC (covF p__6 p__9 p__14) 4 x__17 0), (dwC (covF p__6 p__9 p__14) 4 x__17 1)].getD i (fun _ => 0)) 4) (pic (fun r => decide (4 ≤ ((pc ((orC (fun i => [(dwC (covF p__6 p__9 p__14) 4 x__17 0), (dwC (covF p__6 p__9 p__14) 4 x__17 1)].getD i (fun _ => 0)) 2) r) : Nat) : Int)))) : Nat) : Int)), .int .i64 (((codeP 2 (fun i => [4, 4].getD i 0) (fun i => [(dwC (covF p__6 p__9 p__14) 4 x__17 0), (dwC (covF p__6 p__9 p__14) 4 x__17 1)].getD i (fun _ => 0)) 4 : Nat) : Int))]) rfl) ?_
      refine Wl.pure (PR.extr (i := 0) (vs := [.int .u64 (((selN (codeP 2 (fun i => [4, 4].getD i 0) (fun i => [(dwC (covF p__6 p__9 p__14) 4 x__17 0), (dwC (covF p__6 p__9 p__14) 4 x__17 1)].getD i (fun _ => 0)) 4) (pic (fun r => decide (4 ≤ ((pc ((orC (fun i => [(dwC (covF p__6 p__9 p__14) 4 x__17 0), (dwC (covF p__6 p__9 p__14) 4 x__17 1)].getD i (fun _ => 0)) 2) r) : Nat) : Int)))) : Nat) : Int)), .int .i64 (((codeP 2 (fun i => [4, 4].getD i 0) (fun i => [(dwC (covF p__6 p__9 p__14) 4 x__17 0), (dwC (covF p__6 p__9 p__14) 4 x__17 1)].getD i (fun _ => 0)) 4 : Nat) : Int))]) rfl rfl) ?_
      refine Wl.pure (PR.extr (i := 1) (vs := [.int .u64 (((selN (codeP 2 (fun i => [4, 4].getD i 0) (fun i => [(dwC (covF p__6 p__9 p__14) 4 x__17 0), (dwC (covF p__6 p__9 p__14) 4 x__17 1)].getD i (fun _ => 0)) 4) (pic (fun r => decide (4 ≤ ((pc ((orC (fun i => [(dwC (covF p__6 p__9 p__14) 4 x__17 0), (dwC (covF p__6 p__9 p__14) 4 x__17 1)].getD i (fun _ => 0)) 2) r) : Nat) : Int)))) : Nat) : Int)), .int .i64 (((codeP 2 (fun i => [4, 4].getD i 0) (fun i => [(dwC (covF p__6 p__9 p__14) 4 x__17 0), (dwC (covF p__6 p__9 p__14) 4 x__17 1)].getD i (fun _ => 0)) 4 : Nat) : Int))]) rfl rfl) ?_
      refine Wl.pure (PR.assI rfl) ?_
      refine Wl.pure (PR.assI rfl) ?_
      refine Wl.nil ?_
      refine tn ?_
      refine Wc.seq ?_
      refine Wc.region rfl ?_
      refine Wl.loadA (i := 1) st tA_30 rfl rfl (all_sub layV_len) layV_len ?_
      refine Wl.loadA (i := 0) st tA_30 rfl rfl (all_sub layV_len) layV_len ?_
      refine Wl.callV (c_impl_CheckCovers (p := 4) (c := (dwC (covF p__6 p__9 p__14) 4 x__17 0)) (r := 4) (d := (dwC (covF p__6 p__9 p__14) 4 x__17 1)) (by first | assumption | omega) (dwC_lt _ _ _ _) (by first | assumption | omega) (dwC_lt _ _ _ _)) rfl ?_
      intro w32 hbel
      replace st := st.call hbel
      clear hbel
      refine Wl.pure (PR.moveV (.tuple #[.int .u64 (((selN (chC (codeP 2 (fun i => [4, 4].getD i 0) (fun i => [(dwC (covF p__6 p__9 p__14) 4 x__17 0), (dwC (covF p__6 p__9 p__14) 4 x__17 1)].getD i (fun _ => 0)) 4) (dwC (covF p__6 p__9 p__14) 4 x__17 0) (dwC (covF p__6 p__9 p__14) 4 x__17 1)) (pic (fun r => decide (3 ≤ ((pc ((dwC (covF p__6 p__9 p__14) 4 x__17 0) r) : Nat) : Int)))) : Nat) : Int)), .int .u64 (((selN (chC (codeP 2 (fun i => [4, 4].getD i 0) (fun i => [(dwC (covF p__6 p__9 p__14) 4 x__17 0), (dwC (covF p__6 p__9 p__14) 4 x__17 1)].getD i (fun _ => 0)) 4) (dwC (covF p__6 p__9 p__14) 4 x__17 0) (dwC (covF p__6 p__9 p__14) 4 x__17 1)) (pic (fun r => decide (3 ≤ ((pc ((dwC (covF p__6 p__9 p__14) 4 x__17 1) r) : Nat) : Int)))) : Nat) : Int)), .int .u64 (((selN (chC (codeP 2 (fun i => [4, 4].getD i 0) (fun i => [(dwC (covF p__6 p__9 p__14) 4 x__17 0), (dwC (covF p__6 p__9 p__14) 4 x__17 1)].getD i (fun _ => 0)) 4) (dwC (covF p__6 p__9 p__14) 4 x__17 0) (dwC (covF p__6 p__9 p__14) 4 x__17 1)) (pic (fun r => decide (4 ≤ ((pc ((orC (fun i => [(dwC (covF p__6 p__9 p__14) 4 x__17 0), (dwC (covF p__6 p__9 p__14) 4 x__17 1)].getD i (fun _ => 0)) 2) r) : Nat) : Int)))) : Nat) : Int)), .int .i64 ((((chC (codeP 2 (fun i => [4, 4].getD i 0) (fun i => [(dwC (covF p__6 p__9 p__14) 4 x__17 0), (dwC (covF p__6 p__9 p__14) 4 x__17 1)].getD i (fun _ => 0)) 4) (dwC (covF p__6 p__9 p__14) 4 x__17 0) (dwC (covF p__6 p__9 p__14) 4 x__17 1)) : Nat) : Int))]) rfl) ?_
      refine Wl.pure (PR.extr (i := 0) (vs := [.int .u64 (((selN (chC (codeP 2 (fun i => [4, 4].getD i 0) (fun i => [(dwC (covF p__6 p__9 p__14) 4 x__17 0), (dwC (covF p__6 p__9 p__14) 4 x__17 1)].getD i (fun _ => 0)) 4) (dwC (covF p__6 p__9 p__14) 4 x__17 0) (dwC (covF p__6 p__9 p__14) 4 x__17 1)) (pic (fun r => decide (3 ≤ ((pc ((dwC (covF p__6 p__9 p__14) 4 x__17 0) r) : Nat) : Int)))) : Nat) : Int)), .int .u64 (((selN (chC (codeP 2 (fun i => [4, 4].getD i 0) (fun i => [(dwC (covF p__6 p__9 p__14) 4 x__17 0), (dwC (covF p__6 p__9 p__14) 4 x__17 1)].getD i (fun _ => 0)) 4) (dwC (covF p__6 p__9 p__14) 4 x__17 0) (dwC (covF p__6 p__9 p__14) 4 x__17 1)) (pic (fun r => decide (3 ≤ ((pc ((dwC (covF p__6 p__9 p__14) 4 x__17 1) r) : Nat) : Int)))) : Nat) : Int)), .int .u64 (((selN (chC (codeP 2 (fun i => [4, 4].getD i 0) (fun i => [(dwC (covF p__6 p__9 p__14) 4 x__17 0), (dwC (covF p__6 p__9 p__14) 4 x__17 1)].getD i (fun _ => 0)) 4) (dwC (covF p__6 p__9 p__14) 4 x__17 0) (dwC (covF p__6 p__9 p__14) 4 x__17 1)) (pic (fun r => decide (4 ≤ ((pc ((orC (fun i => [(dwC (covF p__6 p__9 p__14) 4 x__17 0), (dwC (covF p__6 p__9 p__14) 4 x__17 1)].getD i (fun _ => 0)) 2) r) : Nat) : Int)))) : Nat) : Int)), .int .i64 ((((chC (codeP 2 (fun i => [4, 4].getD i 0) (fun i => [(dwC (covF p__6 p__9 p__14) 4 x__17 0), (dwC (covF p__6 p__9 p__14) 4 x__17 1)].getD i (fun _ => 0)) 4) (dwC (covF p__6 p__9 p__14) 4 x__17 0) (dwC (covF p__6 p__9 p__14) 4 x__17 1)) : Nat) : Int))]) rfl rfl) ?_
      refine Wl.pure (PR.extr (i := 1) (vs := [.int .u64 (((selN (chC (codeP 2 (fun i => [4, 4].getD i 0) (fun i => [(dwC (covF p__6 p__9 p__14) 4 x__17 0), (dwC (covF p__6 p__9 p__14) 4 x__17 1)].getD i (fun _ => 0)) 4) (dwC (covF p__6 p__9 p__14) 4 x__17 0) (dwC (covF p__6 p__9 p__14) 4 x__17 1)) (pic (fun r => decide (3 ≤ ((pc ((dwC (covF p__6 p__9 p__14) 4 x__17 0) r) : Nat) : Int)))) : Nat) : Int)), .int .u64 (((selN (chC (codeP 2 (fun i => [4, 4].getD i 0) (fun i => [(dwC (covF p__6 p__9 p__14) 4 x__17 0), (dwC (covF p__6 p__9 p__14) 4 x__17 1)].getD i (fun _ => 0)) 4) (dwC (covF p__6 p__9 p__14) 4 x__17 0) (dwC (covF p__6 p__9 p__14) 4 x__17 1)) (pic (fun r => decide (3 ≤ ((pc ((dwC (covF p__6 p__9 p__14) 4 x__17 1) r) : Nat) : Int)))) : Nat) : Int)), .int .u64 (((selN (chC (codeP 2 (fun i => [4, 4].getD i 0) (fun i => [(dwC (covF p__6 p__9 p__14) 4 x__17 0), (dwC (covF p__6 p__9 p__14) 4 x__17 1)].getD i (fun _ => 0)) 4) (dwC (covF p__6 p__9 p__14) 4 x__17 0) (dwC (covF p__6 p__9 p__14) 4 x__17 1)) (pic (fun r => decide (4 ≤ ((pc ((orC (fun i => [(dwC (covF p__6 p__9 p__14) 4 x__17 0), (dwC (covF p__6 p__9 p__14) 4 x__17 1)].getD i (fun _ => 0)) 2) r) : Nat) : Int)))) : Nat) : Int)), .int .i64 ((((chC (codeP 2 (fun i => [4, 4].getD i 0) (fun i => [(dwC (covF p__6 p__9 p__14) 4 x__17 0), (dwC (covF p__6 p__9 p__14) 4 x__17 1)].getD i (fun _ => 0)) 4) (dwC (covF p__6 p__9 p__14) 4 x__17 0) (dwC (covF p__6 p__9 p__14) 4 x__17 1)) : Nat) : Int))]) rfl rfl) ?_
      refine Wl.pure (PR.extr (i := 2) (vs := [.int .u64 (((selN (chC (codeP 2 (fun i => [4, 4].getD i 0) (fun i => [(dwC (covF p__6 p__9 p__14) 4 x__17 0), (dwC (covF p__6 p__9 p__14) 4 x__17 1)].getD i (fun _ => 0)) 4) (dwC (covF p__6 p__9 p__14) 4 x__17 0) (dwC (covF p__6 p__9 p__14) 4 x__17 1)) (pic (fun r => decide (3 ≤ ((pc ((dwC (covF p__6 p__9 p__14) 4 x__17 0) r) : Nat) : Int)))) : Nat) : Int)), .int .u64 (((selN (chC (codeP 2 (fun i => [4, 4].getD i 0) (fun i => [(dwC (covF p__6 p__9 p__14) 4 x__17 0), (dwC (covF p__6 p__9 p__14) 4 x__17 1)].getD i (fun _ => 0)) 4) (dwC (covF p__6 p__9 p__14) 4 x__17 0) (dwC (covF p__6 p__9 p__14) 4 x__17 1)) (pic (fun r => decide (3 ≤ ((pc ((dwC (covF p__6 p__9 p__14) 4 x__17 1) r) : Nat) : Int)))) : Nat) : Int)), .int .u64 (((selN (chC (codeP 2 (fun i => [4, 4].getD i 0) (fun i => [(dwC (covF p__6 p__9 p__14) 4 x__17 0), (dwC (covF p__6 p__9 p__14) 4 x__17 1)].getD i (fun _ => 0)) 4) (dwC (covF p__6 p__9 p__14) 4 x__17 0) (dwC (covF p__6 p__9 p__14) 4 x__17 1)) (pic (fun r => decide (4 ≤ ((pc ((orC (fun i => [(dwC (covF p__6 p__9 p__14) 4 x__17 0), (dwC (covF p__6 p__9 p__14) 4 x__17 1)].getD i (fun _ => 0)) 2) r) : Nat) : Int)))) : Nat) : Int)), .int .i64 ((((chC (codeP 2 (fun i => [4, 4].getD i 0) (fun i => [(dwC (covF p__6 p__9 p__14) 4 x__17 0), (dwC (covF p__6 p__9 p__14) 4 x__17 1)].getD i (fun _ => 0)) 4) (dwC (covF p__6 p__9 p__14) 4 x__17 0) (dwC (covF p__6 p__9 p__14) 4 x__17 1)) : Nat) : Int))]) rfl rfl) ?_
      refine Wl.pure (PR.extr (i := 3) (vs := [.int .u64 (((selN (chC (codeP 2 (fun i => [4, 4].getD i 0) (fun i => [(dwC (covF p__6 p__9 p__14) 4 x__17 0), (dwC (covF p__6 p__9 p__14) 4 x__17 1)].getD i (fun _ => 0)) 4) (dwC (covF p__6 p__9 p__14) 4 x__17 0) (dwC (covF p__6 p__9 p__14) 4 x__17 1)) (pic (fun r => decide (3 ≤ ((pc ((dwC (covF p__6 p__9 p__14) 4 x__17 0) r) : Nat) : Int)))) : Nat) : Int)), .int .u64 (((selN (chC (codeP 2 (fun i => [4, 4].getD i 0) (fun i => [(dwC (covF p__6 p__9 p__14) 4 x__17 0), (dwC (covF p__6 p__9 p__14) 4 x__17 1)].getD i (fun _ => 0)) 4) (dwC (covF p__6 p__9 p__14) 4 x__17 0) (dwC (covF p__6 p__9 p__14) 4 x__17 1)) (pic (fun r => decide (3 ≤ ((pc ((dwC (covF p__6 p__9 p__14) 4 x__17 1) r) : Nat) : Int)))) : Nat) : Int)), .int .u64 (((selN (chC (codeP 2 (fun i => [4, 4].getD i 0) (fun i => [(dwC (covF p__6 p__9 p__14) 4 x__17 0), (dwC (covF p__6 p__9 p__14) 4 x__17 1)].getD i (fun _ => 0)) 4) (dwC (covF p__6 p__9 p__14) 4 x__17 0) (dwC (covF p__6 p__9 p__14) 4 x__17 1)) (pic (fun r => decide (4 ≤ ((pc ((orC (fun i => [(dwC (covF p__6 p__9 p__14) 4 x__17 0), (dwC (covF p__6 p__9 p__14) 4 x__17 1)].getD i (fun _ => 0)) 2) r) : Nat) : Int)))) : Nat) : Int)), .int .i64 ((((chC (codeP 2 (fun i => [4, 4].getD i 0) (fun i => [(dwC (covF p__6 p__9 p__14) 4 x__17 0), (dwC (covF p__6 p__9 p__14) 4 x__17 1)].getD i (fun _ => 0)) 4) (dwC (covF p__6 p__9 p__14) 4 x__17 0) (dwC (covF p__6 p__9 p__14) 4 x__17 1)) : Nat) : Int))]) rfl rfl) ?_
      refine Wl.pure (PR.assI rfl) ?_
      refine Wl.pure (PR.assI rfl) ?_
      refine Wl.pure (PR.assI rfl) ?_
      refine Wl.pure (PR.assI rfl) ?_
      refine Wl.nil ?_
      refine tn ?_
      refine Wc.seq ?_
      refine Wc.seq ?_
      rw [show (selN (codeP 1 (fun z_ => [4].getD z_ 0) (fun z_ => [(dwC (covF p__6 p__9 p__14) 4 x__17 0)].getD z_ (fun _ => 0)) 4) (pic (fun r => decide (3 ≤ ((pc ((dwC (covF p__6 p__9 p__14) 4 x__17 0) r) : Nat) : Int))))) = p__6 from cov_v1a (show p__6 < 18446744073709551616 by assumption)]
      rw [show (selN (codeP 1 (fun z_ => [4].getD z_ 0) (fun z_ => [(dwC (covF p__6 p__9 p__14) 4 x__17 1)].getD z_ (fun _ => 0)) 4) (pic (fun r => decide (3 ≤ ((pc ((dwC (covF p__6 p__9 p__14) 4 x__17 1) r) : Nat) : Int))))) = p__9 from cov_v1b (show p__9 < 18446744073709551616 by assumption)]
      rw [show (selN (codeP 2 (fun i => [4, 4].getD i 0) (fun i => [(dwC (covF p__6 p__9 p__14) 4 x__17 0), (dwC (covF p__6 p__9 p__14) 4 x__17 1)].getD i (fun _ => 0)) 4) (pic (fun r => decide (4 ≤ ((pc ((orC (fun i => [(dwC (covF p__6 p__9 p__14) 4 x__17 0), (dwC (covF p__6 p__9 p__14) 4 x__17 1)].getD i (fun _ => 0)) 2) r) : Nat) : Int))))) = p__14 from cov_v2 (show p__14 < 18446744073709551616 by assumption)]
      rw [show (selN (chC (codeP 2 (fun i => [4, 4].getD i 0) (fun i => [(dwC (covF p__6 p__9 p__14) 4 x__17 0), (dwC (covF p__6 p__9 p__14) 4 x__17 1)].getD i (fun _ => 0)) 4) (dwC (covF p__6 p__9 p__14) 4 x__17 0) (dwC (covF p__6 p__9 p__14) 4 x__17 1)) (pic (fun r => decide (3 ≤ ((pc ((dwC (covF p__6 p__9 p__14) 4 x__17 0) r) : Nat) : Int))))) = p__6 from cov_c1 (show p__6 < 18446744073709551616 by assumption)]
      rw [show (selN (chC (codeP 2 (fun i => [4, 4].getD i 0) (fun i => [(dwC (covF p__6 p__9 p__14) 4 x__17 0), (dwC (covF p__6 p__9 p__14) 4 x__17 1)].getD i (fun _ => 0)) 4) (dwC (covF p__6 p__9 p__14) 4 x__17 0) (dwC (covF p__6 p__9 p__14) 4 x__17 1)) (pic (fun r => decide (3 ≤ ((pc ((dwC (covF p__6 p__9 p__14) 4 x__17 1) r) : Nat) : Int))))) = p__9 from cov_c2 (show p__9 < 18446744073709551616 by assumption)]
      rw [show (selN (chC (codeP 2 (fun i => [4, 4].getD i 0) (fun i => [(dwC (covF p__6 p__9 p__14) 4 x__17 0), (dwC (covF p__6 p__9 p__14) 4 x__17 1)].getD i (fun _ => 0)) 4) (dwC (covF p__6 p__9 p__14) 4 x__17 0) (dwC (covF p__6 p__9 p__14) 4 x__17 1)) (pic (fun r => decide (4 ≤ ((pc ((orC (fun i => [(dwC (covF p__6 p__9 p__14) 4 x__17 0), (dwC (covF p__6 p__9 p__14) 4 x__17 1)].getD i (fun _ => 0)) 2) r) : Nat) : Int))))) = p__14 from cov_c3 (show p__14 < 18446744073709551616 by assumption)]
      rw [show ((chC (codeP 2 (fun i => [4, 4].getD i 0) (fun i => [(dwC (covF p__6 p__9 p__14) 4 x__17 0), (dwC (covF p__6 p__9 p__14) 4 x__17 1)].getD i (fun _ => 0)) 4) (dwC (covF p__6 p__9 p__14) 4 x__17 0) (dwC (covF p__6 p__9 p__14) 4 x__17 1))) = 0 from cov_ch]
      rw [show (codeP 2 (fun i => [4, 4].getD i 0) (fun i => [(dwC (covF p__6 p__9 p__14) 4 x__17 0), (dwC (covF p__6 p__9 p__14) 4 x__17 1)].getD i (fun _ => 0)) 4) = 0 from cov_k2']
      rw [show (codeP 1 (fun z_ => [4].getD z_ 0) (fun z_ => [(dwC (covF p__6 p__9 p__14) 4 x__17 1)].getD z_ (fun _ => 0)) 4) = 0 from cov_k1]
      rw [show (codeP 1 (fun z_ => [4].getD z_ 0) (fun z_ => [(dwC (covF p__6 p__9 p__14) 4 x__17 0)].getD z_ (fun _ => 0)) 4) = 0 from cov_k1]
      refine Wc.region rfl ?_
      refine Wl.pure (PR.moveI rfl) ?_
      refine Wl.pure (PR.neqS (a := 0) rfl rfl) ?_
      refine Wl.pure (PR.moveB rfl) ?_
      refine Wl.on rfl rfl ?_
      refine Wl.pure (PR.moveI rfl) ?_
      refine Wl.on rfl rfl ?_
      refine Wl.pure (PR.moveI rfl) ?_
      refine Wl.on rfl rfl ?_
      refine Wl.pure (PR.neqS (a := ((p__6 : Nat) : Int)) rfl rfl) ?_
      refine Wl.pure (PR.pickFB rfl rfl) ?_
      refine Wl.pure (PR.moveB rfl) ?_
      refine Wl.on rfl rfl ?_
      refine Wl.pure (PR.moveI rfl) ?_
      refine Wl.on rfl rfl ?_
      refine Wl.pure (PR.neqS (a := 0) rfl rfl) ?_
      refine Wl.pure (PR.pickFB rfl rfl) ?_
      refine Wl.pure (PR.moveB rfl) ?_
      refine Wl.on rfl rfl ?_
      refine Wl.pure (PR.moveI rfl) ?_
      refine Wl.on rfl rfl ?_
      refine Wl.pure (PR.moveI rfl) ?_
      refine Wl.on rfl rfl ?_
      refine Wl.pure (PR.neqS (a := ((p__9 : Nat) : Int)) rfl rfl) ?_
      refine Wl.pure (PR.pickFB rfl rfl) ?_
      refine Wl.pure (PR.moveB rfl) ?_
      refine Wl.on rfl rfl ?_
      refine Wl.pure (PR.moveI rfl) ?_
      refine Wl.on rfl rfl ?_
      refine Wl.pure (PR.neqS (a := 0) rfl rfl) ?_
      refine Wl.pure (PR.pickFB rfl rfl) ?_
      refine Wl.pure (PR.moveB rfl) ?_
      refine Wl.on rfl rfl ?_
      refine Wl.pure (PR.moveI rfl) ?_
      refine Wl.on rfl rfl ?_
      refine Wl.pure (PR.moveI rfl) ?_
      refine Wl.on rfl rfl ?_
      refine Wl.pure (PR.neqS (a := ((p__14 : Nat) : Int)) rfl rfl) ?_
      refine Wl.pure (PR.pickFB rfl rfl) ?_
      refine Wl.pure (PR.moveB rfl) ?_
      refine Wl.on rfl rfl ?_
      refine Wl.pure (PR.moveI rfl) ?_
      refine Wl.on rfl rfl ?_
      refine Wl.pure (PR.neqS (a := 0) rfl rfl) ?_
      refine Wl.pure (PR.pickFB rfl rfl) ?_
      refine Wl.pure (PR.moveB rfl) ?_
      refine Wl.on rfl rfl ?_
      refine Wl.pure (PR.moveI rfl) ?_
      refine Wl.on rfl rfl ?_
      refine Wl.pure (PR.moveI rfl) ?_
      refine Wl.on rfl rfl ?_
      refine Wl.pure (PR.neqS (a := ((p__6 : Nat) : Int)) rfl rfl) ?_
      refine Wl.pure (PR.pickFB rfl rfl) ?_
      refine Wl.pure (PR.moveB rfl) ?_
      refine Wl.on rfl rfl ?_
      refine Wl.pure (PR.moveI rfl) ?_
      refine Wl.on rfl rfl ?_
      refine Wl.pure (PR.moveI rfl) ?_
      refine Wl.on rfl rfl ?_
      refine Wl.pure (PR.neqS (a := ((p__9 : Nat) : Int)) rfl rfl) ?_
      refine Wl.pure (PR.pickFB rfl rfl) ?_
      refine Wl.pure (PR.moveB rfl) ?_
      refine Wl.on rfl rfl ?_
      refine Wl.pure (PR.moveI rfl) ?_
      refine Wl.on rfl rfl ?_
      refine Wl.pure (PR.moveI rfl) ?_
      refine Wl.on rfl rfl ?_
      refine Wl.pure (PR.neqS (a := ((p__14 : Nat) : Int)) rfl rfl) ?_
      refine Wl.pure (PR.pickFB rfl rfl) ?_
      refine Wl.nil ?_
      refine tn ?_
      refine Wc.condF rfl ?_
      refine Wc.skip ?_
      refine tn ?_
      refine Wc.seq ?_
      refine Wc.region rfl ?_
      refine Wl.pure (PR.moveI rfl) ?_
      refine Wl.pure (PR.moveI rfl) ?_
      refine Wl.pure (PR.moveI rfl) ?_
      refine Wl.pure (PR.compl (n := p__14) rfl (by decide) (by first | assumption | omega)) ?_
      refine Wl.pure (PR.moveI rfl) ?_
      refine Wl.callV (c_spec_CoverLayers (p := p__6) (q := p__9) (z := (18446744073709551615 - (p__14))) (x := x__17) (by first | assumption | omega) (by first | assumption | omega) (by omega) (by first | assumption | omega)) rfl ?_
      intro w33 hbel
      replace st := st.call hbel
      clear hbel
      refine Wl.pure (PR.moveV (.tuple #[.agg (layV (4) ((dwC (covF p__6 p__9 (18446744073709551615 - (p__14))) 4 x__17 0))).toArray, .agg (layV (4) ((dwC (covF p__6 p__9 (18446744073709551615 - (p__14))) 4 x__17 1))).toArray, .int .u32 (((sdK 4 x__17 64 : Nat) : Int))]) rfl) ?_
      refine Wl.pure (PR.extr (i := 0) (vs := [.agg (layV (4) ((dwC (covF p__6 p__9 (18446744073709551615 - (p__14))) 4 x__17 0))).toArray, .agg (layV (4) ((dwC (covF p__6 p__9 (18446744073709551615 - (p__14))) 4 x__17 1))).toArray, .int .u32 (((sdK 4 x__17 64 : Nat) : Int))]) rfl rfl) ?_
      refine Wl.pure (PR.extr (i := 1) (vs := [.agg (layV (4) ((dwC (covF p__6 p__9 (18446744073709551615 - (p__14))) 4 x__17 0))).toArray, .agg (layV (4) ((dwC (covF p__6 p__9 (18446744073709551615 - (p__14))) 4 x__17 1))).toArray, .int .u32 (((sdK 4 x__17 64 : Nat) : Int))]) rfl rfl) ?_
      refine Wl.pure (PR.extr (i := 2) (vs := [.agg (layV (4) ((dwC (covF p__6 p__9 (18446744073709551615 - (p__14))) 4 x__17 0))).toArray, .agg (layV (4) ((dwC (covF p__6 p__9 (18446744073709551615 - (p__14))) 4 x__17 1))).toArray, .int .u32 (((sdK 4 x__17 64 : Nat) : Int))]) rfl rfl) ?_
      refine Wl.alloc st tZ_30 rfl ?_
      clear st
      intro b25 w34 st
      refine Wl.alloc st tZ_30 rfl ?_
      clear st
      intro b26 w35 st
      refine Wl.storeA (i := 1) (cs' := layV (4) ((dwC (covF p__6 p__9 (18446744073709551615 - (p__14))) 4 x__17 0))) st tA_30 rfl rfl layV_len layV_one rfl (le_of_len layV_len (by omega)) (all_put layV_len) ?_
      clear st
      intro w36 st
      replace st : St [] w w36 [(b26, layV (0) ((fun _ => 0)), 30), (b25, layV (4) ((dwC (covF p__6 p__9 (18446744073709551615 - (p__14))) 4 x__17 0)), 30), (b13, layV (4) ((dwC (covF p__6 p__9 p__14) 4 x__17 1)), 30), (b12, layV (4) ((dwC (covF p__6 p__9 p__14) 4 x__17 0)), 30), (b10, layV (4) ((dwC (covF p__6 p__9 p__14) 4 x__17 1)), 30), (b9, layV (4) ((dwC (covF p__6 p__9 p__14) 4 x__17 0)), 30), (b51, arrU .u8 (1 + n1) (apF 1 (fun _ => 3) c1) ++ sp51, 5)] := st
      refine Wl.storeA (i := 0) (cs' := layV (4) ((dwC (covF p__6 p__9 (18446744073709551615 - (p__14))) 4 x__17 1))) st tA_30 rfl rfl layV_len layV_one rfl (le_of_len layV_len (by omega)) (all_put layV_len) ?_
      clear st
      intro w37 st
      replace st : St [] w w37 [(b26, layV (4) ((dwC (covF p__6 p__9 (18446744073709551615 - (p__14))) 4 x__17 1)), 30), (b25, layV (4) ((dwC (covF p__6 p__9 (18446744073709551615 - (p__14))) 4 x__17 0)), 30), (b13, layV (4) ((dwC (covF p__6 p__9 p__14) 4 x__17 1)), 30), (b12, layV (4) ((dwC (covF p__6 p__9 p__14) 4 x__17 0)), 30), (b10, layV (4) ((dwC (covF p__6 p__9 p__14) 4 x__17 1)), 30), (b9, layV (4) ((dwC (covF p__6 p__9 p__14) 4 x__17 0)), 30), (b51, arrU .u8 (1 + n1) (apF 1 (fun _ => 3) c1) ++ sp51, 5)] := st
      refine Wl.pure (PR.assI rfl) ?_
      refine Wl.nil ?_
      refine tn ?_
      refine Wc.seq ?_
      refine Wc.region rfl ?_
      refine Wl.loadA (i := 3) st tA_30 rfl rfl (all_sub layV_len) layV_len ?_
      refine Wl.callV (c_impl_CountsOf (p := 4) (c := (dwC (covF p__6 p__9 p__14) 4 x__17 0)) (by first | assumption | omega) (dwC_lt _ _ _ _)) rfl ?_
      intro w38 hbel
      replace st := st.call hbel
      clear hbel
      refine Wl.pure (PR.moveV (.tuple #[.agg (arrU .i8 64 (ctF 4 (dwC (covF p__6 p__9 p__14) 4 x__17 0))).toArray, .int .i64 (((hsC 4 (dwC (covF p__6 p__9 p__14) 4 x__17 0) : Nat) : Int))]) rfl) ?_
      refine Wl.pure (PR.extr (i := 0) (vs := [.agg (arrU .i8 64 (ctF 4 (dwC (covF p__6 p__9 p__14) 4 x__17 0))).toArray, .int .i64 (((hsC 4 (dwC (covF p__6 p__9 p__14) 4 x__17 0) : Nat) : Int))]) rfl rfl) ?_
      refine Wl.pure (PR.extr (i := 1) (vs := [.agg (arrU .i8 64 (ctF 4 (dwC (covF p__6 p__9 p__14) 4 x__17 0))).toArray, .int .i64 (((hsC 4 (dwC (covF p__6 p__9 p__14) 4 x__17 0) : Nat) : Int))]) rfl rfl) ?_
      refine Wl.alloc st tZ_75 rfl ?_
      clear st
      intro b28 w39 st
      refine Wl.storeA (i := 0) (cs' := arrU .i8 64 (ctF 4 (dwC (covF p__6 p__9 p__14) 4 x__17 0))) st tA_75 rfl rfl (arrU_len _) (arrU_one _) rfl (le_of_len (arrZ_len _) (by omega)) (all_put (arrZ_len _)) ?_
      clear st
      intro w40 st
      replace st : St [] w w40 [(b28, arrU .i8 64 (ctF 4 (dwC (covF p__6 p__9 p__14) 4 x__17 0)), 75), (b26, layV (4) ((dwC (covF p__6 p__9 (18446744073709551615 - (p__14))) 4 x__17 1)), 30), (b25, layV (4) ((dwC (covF p__6 p__9 (18446744073709551615 - (p__14))) 4 x__17 0)), 30), (b13, layV (4) ((dwC (covF p__6 p__9 p__14) 4 x__17 1)), 30), (b12, layV (4) ((dwC (covF p__6 p__9 p__14) 4 x__17 0)), 30), (b10, layV (4) ((dwC (covF p__6 p__9 p__14) 4 x__17 1)), 30), (b9, layV (4) ((dwC (covF p__6 p__9 p__14) 4 x__17 0)), 30), (b51, arrU .u8 (1 + n1) (apF 1 (fun _ => 3) c1) ++ sp51, 5)] := st
      refine Wl.pure (PR.assI rfl) ?_
      refine Wl.nil ?_
      refine tn ?_
      refine Wc.seq ?_
      refine Wc.region rfl ?_
      refine Wl.loadA (i := 2) st tA_30 rfl rfl (all_sub layV_len) layV_len ?_
      refine Wl.callV (c_impl_CountsOf (p := 4) (c := (dwC (covF p__6 p__9 (18446744073709551615 - (p__14))) 4 x__17 0)) (by first | assumption | omega) (dwC_lt _ _ _ _)) rfl ?_
      intro w41 hbel
      replace st := st.call hbel
      clear hbel
      refine Wl.pure (PR.moveV (.tuple #[.agg (arrU .i8 64 (ctF 4 (dwC (covF p__6 p__9 (18446744073709551615 - (p__14))) 4 x__17 0))).toArray, .int .i64 (((hsC 4 (dwC (covF p__6 p__9 (18446744073709551615 - (p__14))) 4 x__17 0) : Nat) : Int))]) rfl) ?_
      refine Wl.pure (PR.extr (i := 0) (vs := [.agg (arrU .i8 64 (ctF 4 (dwC (covF p__6 p__9 (18446744073709551615 - (p__14))) 4 x__17 0))).toArray, .int .i64 (((hsC 4 (dwC (covF p__6 p__9 (18446744073709551615 - (p__14))) 4 x__17 0) : Nat) : Int))]) rfl rfl) ?_
      refine Wl.pure (PR.extr (i := 1) (vs := [.agg (arrU .i8 64 (ctF 4 (dwC (covF p__6 p__9 (18446744073709551615 - (p__14))) 4 x__17 0))).toArray, .int .i64 (((hsC 4 (dwC (covF p__6 p__9 (18446744073709551615 - (p__14))) 4 x__17 0) : Nat) : Int))]) rfl rfl) ?_
      refine Wl.alloc st tZ_75 rfl ?_
      clear st
      intro b30 w42 st
      refine Wl.storeA (i := 0) (cs' := arrU .i8 64 (ctF 4 (dwC (covF p__6 p__9 (18446744073709551615 - (p__14))) 4 x__17 0))) st tA_75 rfl rfl (arrU_len _) (arrU_one _) rfl (le_of_len (arrZ_len _) (by omega)) (all_put (arrZ_len _)) ?_
      clear st
      intro w43 st
      replace st : St [] w w43 [(b30, arrU .i8 64 (ctF 4 (dwC (covF p__6 p__9 (18446744073709551615 - (p__14))) 4 x__17 0)), 75), (b28, arrU .i8 64 (ctF 4 (dwC (covF p__6 p__9 p__14) 4 x__17 0)), 75), (b26, layV (4) ((dwC (covF p__6 p__9 (18446744073709551615 - (p__14))) 4 x__17 1)), 30), (b25, layV (4) ((dwC (covF p__6 p__9 (18446744073709551615 - (p__14))) 4 x__17 0)), 30), (b13, layV (4) ((dwC (covF p__6 p__9 p__14) 4 x__17 1)), 30), (b12, layV (4) ((dwC (covF p__6 p__9 p__14) 4 x__17 0)), 30), (b10, layV (4) ((dwC (covF p__6 p__9 p__14) 4 x__17 1)), 30), (b9, layV (4) ((dwC (covF p__6 p__9 p__14) 4 x__17 0)), 30), (b51, arrU .u8 (1 + n1) (apF 1 (fun _ => 3) c1) ++ sp51, 5)] := st
      refine Wl.pure (PR.assI rfl) ?_
      refine Wl.nil ?_
      refine tn ?_
      refine Wc.seq ?_
      refine Wc.seq ?_
      rw [show (hsC 4 (dwC (covF p__6 p__9 p__14) 4 x__17 0)) = 0 from cov_hs]
      rw [show (hsC 4 (dwC (covF p__6 p__9 (18446744073709551615 - (p__14))) 4 x__17 0)) = 0 from cov_hs]
      rw [show arrU .i8 64 (ctF 4 (dwC (covF p__6 p__9 p__14) 4 x__17 0)) = arrU .i8 64 (cvN p__6) from cov_ct] at st
      rw [show arrU .i8 64 (ctF 4 (dwC (covF p__6 p__9 (18446744073709551615 - (p__14))) 4 x__17 0)) = arrU .i8 64 (cvN p__6) from cov_ct] at st
      refine Wc.region rfl ?_
      refine Wl.pure (PR.moveI rfl) ?_
      refine Wl.pure (PR.neqS (a := 0) rfl rfl) ?_
      refine Wl.pure (PR.moveB rfl) ?_
      refine Wl.on rfl rfl ?_
      refine Wl.pure (PR.moveI rfl) ?_
      refine Wl.on rfl rfl ?_
      refine Wl.pure (PR.neqS (a := 0) rfl rfl) ?_
      refine Wl.pure (PR.pickFB rfl rfl) ?_
      refine Wl.pure (PR.moveB rfl) ?_
      refine Wl.on rfl rfl ?_
      refine Wl.loadA (i := 1) st tA_75 rfl rfl (all_sub (arrU_len _)) (arrU_len _) ?_
      refine Wl.on rfl rfl ?_
      refine Wl.loadA (i := 0) st tA_75 rfl rfl (all_sub (arrU_len _)) (arrU_len _) ?_
      refine Wl.on rfl rfl ?_
      refine Wl.pure (PR.neqR tQ_75 rfl rfl (flat_natU (cvN_fit _))) ?_
      refine Wl.pure (PR.pickFB rfl rfl) ?_
      refine Wl.nil ?_
      refine tn ?_
      refine Wc.condF rfl ?_
      refine Wc.skip ?_
      refine tn ?_
      refine Wc.seq ?_
      refine Wc.region rfl ?_
      refine Wl.pure (PR.moveL rfl) ?_
      refine Wl.callXE [] st (c_spec_P6Pick (A := A1) (n := n1) (cp := cp1) (c := c1) (m := 64) (hR1.st st) hc1 (by first | assumption | omega)) rfl rfl ?_
      clear st
      rintro v__45 hx_46 w44 st
      try dsimp only at st hx_46
      replace st : St [] w w44 [(b30, arrU .i8 64 (cvN p__6), 75), (b28, arrU .i8 64 (cvN p__6), 75), (b26, layV (4) ((dwC (covF p__6 p__9 (18446744073709551615 - (p__14))) 4 x__17 1)), 30), (b25, layV (4) ((dwC (covF p__6 p__9 (18446744073709551615 - (p__14))) 4 x__17 0)), 30), (b13, layV (4) ((dwC (covF p__6 p__9 p__14) 4 x__17 1)), 30), (b12, layV (4) ((dwC (covF p__6 p__9 p__14) 4 x__17 0)), 30), (b10, layV (4) ((dwC (covF p__6 p__9 p__14) 4 x__17 1)), 30), (b9, layV (4) ((dwC (covF p__6 p__9 p__14) 4 x__17 0)), 30), (b51, arrU .u8 (1 + n1) (apF 1 (fun _ => 3) c1) ++ sp51, 5)] := st
      refine Wl.pure (PR.assI rfl) ?_
      refine Wl.nil ?_
      refine tn ?_
      refine Wc.seq ?_
      refine Wc.region rfl ?_
      refine Wl.pure (PR.moveI rfl) ?_
      refine Wl.pure (PR.moveI rfl) ?_
      refine Wl.callV (c_spec_IsBlack (x := p__6) (k := v__45) (by first | assumption | omega) (by first | assumption | omega)) rfl ?_
      intro w47 hbel
      replace st := st.call hbel
      clear hbel
      refine Wl.pure (PR.moveI rfl) ?_
      refine Wl.pure (PR.moveI rfl) ?_
      refine Wl.callV (c_spec_IsBlack (x := p__9) (k := v__45) (by first | assumption | omega) (by first | assumption | omega)) rfl ?_
      intro w48 hbel
      replace st := st.call hbel
      clear hbel
      refine Wl.pure (PR.moveI rfl) ?_
      refine Wl.pure (PR.moveI rfl) ?_
      refine Wl.callV (c_spec_IsBlack (x := p__14) (k := v__45) (by first | assumption | omega) (by first | assumption | omega)) rfl ?_
      intro w49 hbel
      replace st := st.call hbel
      clear hbel
      refine Wl.callV (c_impl_CoverCell (a := (bitB p__6 v__45)) (b := (bitB p__9 v__45)) (z := (bitB p__14 v__45))) rfl ?_
      intro w50 hbel
      replace st := st.call hbel
      clear hbel
      refine Wl.pure (PR.moveV (.tuple #[.int .u8 (((cvA (bitB p__6 v__45) (bitB p__9 v__45) (bitB p__14 v__45) : Nat) : Int)), .int .u8 (((cvB (bitB p__6 v__45) (bitB p__9 v__45) (bitB p__14 v__45) : Nat) : Int))]) rfl) ?_
      refine Wl.pure (PR.extr (i := 0) (vs := [.int .u8 (((cvA (bitB p__6 v__45) (bitB p__9 v__45) (bitB p__14 v__45) : Nat) : Int)), .int .u8 (((cvB (bitB p__6 v__45) (bitB p__9 v__45) (bitB p__14 v__45) : Nat) : Int))]) rfl rfl) ?_
      refine Wl.pure (PR.extr (i := 1) (vs := [.int .u8 (((cvA (bitB p__6 v__45) (bitB p__9 v__45) (bitB p__14 v__45) : Nat) : Int)), .int .u8 (((cvB (bitB p__6 v__45) (bitB p__9 v__45) (bitB p__14 v__45) : Nat) : Int))]) rfl rfl) ?_
      refine Wl.pure (PR.assI rfl) ?_
      refine Wl.pure (PR.assI rfl) ?_
      refine Wl.nil ?_
      refine tn ?_
      refine Wc.seq ?_
      refine Wc.seq ?_
      have hC9 := cvN_le p__6 v__45
      have hA9 := cov_cell (a := p__6) (b := p__9) (z := p__14) v__45
      have hB9 := cov_both (a := p__6) (b := p__9) (z := p__14) (x := x__17) v__45
      refine Wc.quiet hmix (by kernel_rfl) rfl ?_
      refine Wq.pure (PR.moveI rfl) ?_
      refine Wq.callV (fun _ hbel => c_spec_BitsIn (x := cvA (bitB p__6 v__45) (bitB p__9 v__45) (bitB p__14 v__45)) (cvA_lt _ _ _)) rfl ?_
      refine Wq.pure (PR.moveI rfl) ?_
      refine Wq.pure (PR.idxAddrA1 (i := v__45) tE_75 rfl rfl (by omega)) ?_
      refine Wq.load (i := 1) st tA_22 rfl rfl (arrU_get0 (by omega)) ?_
      refine Wq.pure (PR.conv (n := (((cvN p__6) (v__45) : Nat) : Int)) tI_2 rfl (by simp only [fitI]; omega) Try.underlying22) ?_
      refine Wq.pure (PR.neq (a := ((pc (cvA (bitB p__6 v__45) (bitB p__9 v__45) (bitB p__14 v__45)) : Nat) : Int)) (b := (((cvN p__6) (v__45) : Nat) : Int)) rfl rfl) ?_
      refine Wq.pure (PR.moveB rfl) ?_
      refine Wq.splitB (b := (!decide (((pc (cvA (bitB p__6 v__45) (bitB p__9 v__45) (bitB p__14 v__45)) : Nat) : Int) = (((cvN p__6) (v__45) : Nat) : Int)))) rfl rfl (fun h51 => ?_) (fun h51 => ?_)
      · simp only [Bool.not_eq_true', Bool.not_eq_false', Bool.not_true, Bool.not_false, decide_eq_true_eq, decide_eq_false_iff_not] at h51
        refine Wq.pure (PR.moveI rfl) ?_
        refine Wq.on rfl rfl ?_
        refine Wq.pure (PR.moveI rfl) ?_
        refine Wq.on rfl rfl ?_
        refine Wq.pure (PR.or (a := cvA (bitB p__6 v__45) (bitB p__9 v__45) (bitB p__14 v__45)) (b := cvB (bitB p__6 v__45) (bitB p__9 v__45) (bitB p__14 v__45)) rfl rfl (by decide) (cvA_lt _ _ _) (cvB_lt _ _ _)) ?_
        refine Wq.on rfl rfl ?_
        refine Wq.callV (fun _ hbel => c_spec_BitsIn (x := ((cvA (bitB p__6 v__45) (bitB p__9 v__45) (bitB p__14 v__45)) ||| (cvB (bitB p__6 v__45) (bitB p__9 v__45) (bitB p__14 v__45)))) (or_lt_u8 (cvA_lt _ _ _) (cvB_lt _ _ _))) rfl ?_
        refine Wq.on rfl rfl ?_
        refine Wq.pure (PR.moveI rfl) ?_
        refine Wq.on rfl rfl ?_
        refine Wq.pure (PR.fieldAddr tF_30_1 rfl) ?_
        refine Wq.on rfl rfl ?_
        refine Wq.pure (PR.idxAddrA1 (i := v__45) tE_23 rfl rfl (by omega)) ?_
        refine Wq.on rfl rfl ?_
        refine Wq.load (i := 5) st tA_5 rfl rfl (layV_get_c (by omega)) ?_
        refine Wq.on rfl rfl ?_
        refine Wq.pure (PR.moveI rfl) ?_
        refine Wq.on rfl rfl ?_
        refine Wq.pure (PR.fieldAddr tF_30_1 rfl) ?_
        refine Wq.on rfl rfl ?_
        refine Wq.pure (PR.idxAddrA1 (i := v__45) tE_23 rfl rfl (by omega)) ?_
        refine Wq.on rfl rfl ?_
        refine Wq.load (i := 4) st tA_5 rfl rfl (layV_get_c (by omega)) ?_
        refine Wq.on rfl rfl ?_
        refine Wq.pure (PR.or (a := (dwC (covF p__6 p__9 p__14) 4 x__17 0) (v__45)) (b := (dwC (covF p__6 p__9 p__14) 4 x__17 1) (v__45)) rfl rfl (by decide) ((dwC_lt _ _ _ _) (v__45)) ((dwC_lt _ _ _ _) (v__45))) ?_
        refine Wq.on rfl rfl ?_
        refine Wq.callV (fun _ hbel => c_spec_BitsIn (x := (((dwC (covF p__6 p__9 p__14) 4 x__17 0) (v__45)) ||| ((dwC (covF p__6 p__9 p__14) 4 x__17 1) (v__45)))) (or_lt_u8 ((dwC_lt _ _ _ _) (v__45)) ((dwC_lt _ _ _ _) (v__45)))) rfl ?_
        refine Wq.on rfl rfl ?_
        refine Wq.pure (PR.neq (a := ((pc ((cvA (bitB p__6 v__45) (bitB p__9 v__45) (bitB p__14 v__45)) ||| (cvB (bitB p__6 v__45) (bitB p__9 v__45) (bitB p__14 v__45))) : Nat) : Int)) (b := ((pc (((dwC (covF p__6 p__9 p__14) 4 x__17 0) (v__45)) ||| ((dwC (covF p__6 p__9 p__14) 4 x__17 1) (v__45))) : Nat) : Int)) rfl rfl) ?_
        refine Wq.pure (PR.pickFB rfl rfl) ?_
        refine Wq.nil (fun w52 hbel => ?_)
        replace st := st.call hbel
        clear hbel
        refine tn ?_
        refine Wc.condN (p := ((pc ((cvA (bitB p__6 v__45) (bitB p__9 v__45) (bitB p__14 v__45)) ||| (cvB (bitB p__6 v__45) (bitB p__9 v__45) (bitB p__14 v__45))) : Nat) : Int) = ((pc (((dwC (covF p__6 p__9 p__14) 4 x__17 0) (v__45)) ||| ((dwC (covF p__6 p__9 p__14) 4 x__17 1) (v__45))) : Nat) : Int)) rfl (fun h53 => ?_) (fun h53 => ?_)
        · refine Wc.seq ?_
          exfalso
          omega
        · refine Wc.skip ?_
          refine tn ?_
          refine Wc.seq ?_
          refine Wc.region rfl ?_
          refine Wl.pure (PR.moveI rfl) ?_
          refine Wl.pure (PR.fieldAddr tF_30_1 rfl) ?_
          refine Wl.pure (PR.idxAddrA1 (i := v__45) tE_23 rfl rfl (by omega)) ?_
          refine Wl.store (i := 5) (cs' := layV (4) (upd (dwC (covF p__6 p__9 p__14) 4 x__17 0) (v__45) (0))) st tA_5 rfl rfl rfl rfl (lt_of_len layV_len (by omega)) (layV_set_c) ?_
          clear st
          intro w54 st
          replace st : St [] w w54 [(b30, arrU .i8 64 (cvN p__6), 75), (b28, arrU .i8 64 (cvN p__6), 75), (b26, layV (4) ((dwC (covF p__6 p__9 (18446744073709551615 - (p__14))) 4 x__17 1)), 30), (b25, layV (4) ((dwC (covF p__6 p__9 (18446744073709551615 - (p__14))) 4 x__17 0)), 30), (b13, layV (4) ((dwC (covF p__6 p__9 p__14) 4 x__17 1)), 30), (b12, layV (4) (upd (dwC (covF p__6 p__9 p__14) 4 x__17 0) (v__45) (0)), 30), (b10, layV (4) ((dwC (covF p__6 p__9 p__14) 4 x__17 1)), 30), (b9, layV (4) ((dwC (covF p__6 p__9 p__14) 4 x__17 0)), 30), (b51, arrU .u8 (1 + n1) (apF 1 (fun _ => 3) c1) ++ sp51, 5)] := st
          refine Wl.nil ?_
          refine tn ?_
          refine Wc.seq ?_
          refine Wc.region rfl ?_
          refine Wl.loadA (i := 5) st tA_30 rfl rfl (all_sub layV_len) layV_len ?_
          refine Wl.loadA (i := 4) st tA_30 rfl rfl (all_sub layV_len) layV_len ?_
          refine Wl.callV (c_impl_CheckCovers (p := 4) (c := upd (dwC (covF p__6 p__9 p__14) 4 x__17 0) (v__45) (0)) (r := 4) (d := (dwC (covF p__6 p__9 p__14) 4 x__17 1)) (by first | assumption | omega) (upd_lt (dwC_lt _ _ _ _) (by decide)) (by first | assumption | omega) (dwC_lt _ _ _ _)) rfl ?_
          intro w55 hbel
          replace st := st.call hbel
          clear hbel
          refine Wl.pure (PR.moveV (.tuple #[.int .u64 (((selN (chC (codeP 2 (fun i => [4, 4].getD i 0) (fun i => [upd (dwC (covF p__6 p__9 p__14) 4 x__17 0) (v__45) (0), (dwC (covF p__6 p__9 p__14) 4 x__17 1)].getD i (fun _ => 0)) 4) (upd (dwC (covF p__6 p__9 p__14) 4 x__17 0) (v__45) (0)) (dwC (covF p__6 p__9 p__14) 4 x__17 1)) (pic (fun r => decide (3 ≤ ((pc ((upd (dwC (covF p__6 p__9 p__14) 4 x__17 0) (v__45) (0)) r) : Nat) : Int)))) : Nat) : Int)), .int .u64 (((selN (chC (codeP 2 (fun i => [4, 4].getD i 0) (fun i => [upd (dwC (covF p__6 p__9 p__14) 4 x__17 0) (v__45) (0), (dwC (covF p__6 p__9 p__14) 4 x__17 1)].getD i (fun _ => 0)) 4) (upd (dwC (covF p__6 p__9 p__14) 4 x__17 0) (v__45) (0)) (dwC (covF p__6 p__9 p__14) 4 x__17 1)) (pic (fun r => decide (3 ≤ ((pc ((dwC (covF p__6 p__9 p__14) 4 x__17 1) r) : Nat) : Int)))) : Nat) : Int)), .int .u64 (((selN (chC (codeP 2 (fun i => [4, 4].getD i 0) (fun i => [upd (dwC (covF p__6 p__9 p__14) 4 x__17 0) (v__45) (0), (dwC (covF p__6 p__9 p__14) 4 x__17 1)].getD i (fun _ => 0)) 4) (upd (dwC (covF p__6 p__9 p__14) 4 x__17 0) (v__45) (0)) (dwC (covF p__6 p__9 p__14) 4 x__17 1)) (pic (fun r => decide (4 ≤ ((pc ((orC (fun i => [upd (dwC (covF p__6 p__9 p__14) 4 x__17 0) (v__45) (0), (dwC (covF p__6 p__9 p__14) 4 x__17 1)].getD i (fun _ => 0)) 2) r) : Nat) : Int)))) : Nat) : Int)), .int .i64 ((((chC (codeP 2 (fun i => [4, 4].getD i 0) (fun i => [upd (dwC (covF p__6 p__9 p__14) 4 x__17 0) (v__45) (0), (dwC (covF p__6 p__9 p__14) 4 x__17 1)].getD i (fun _ => 0)) 4) (upd (dwC (covF p__6 p__9 p__14) 4 x__17 0) (v__45) (0)) (dwC (covF p__6 p__9 p__14) 4 x__17 1)) : Nat) : Int))]) rfl) ?_
          refine Wl.pure (PR.extr (i := 0) (vs := [.int .u64 (((selN (chC (codeP 2 (fun i => [4, 4].getD i 0) (fun i => [upd (dwC (covF p__6 p__9 p__14) 4 x__17 0) (v__45) (0), (dwC (covF p__6 p__9 p__14) 4 x__17 1)].getD i (fun _ => 0)) 4) (upd (dwC (covF p__6 p__9 p__14) 4 x__17 0) (v__45) (0)) (dwC (covF p__6 p__9 p__14) 4 x__17 1)) (pic (fun r => decide (3 ≤ ((pc ((upd (dwC (covF p__6 p__9 p__14) 4 x__17 0) (v__45) (0)) r) : Nat) : Int)))) : Nat) : Int)), .int .u64 (((selN (chC (codeP 2 (fun i => [4, 4].getD i 0) (fun i => [upd (dwC (covF p__6 p__9 p__14) 4 x__17 0) (v__45) (0), (dwC (covF p__6 p__9 p__14) 4 x__17 1)].getD i (fun _ => 0)) 4) (upd (dwC (covF p__6 p__9 p__14) 4 x__17 0) (v__45) (0)) (dwC (covF p__6 p__9 p__14) 4 x__17 1)) (pic (fun r => decide (3 ≤ ((pc ((dwC (covF p__6 p__9 p__14) 4 x__17 1) r) : Nat) : Int)))) : Nat) : Int)), .int .u64 (((selN (chC (codeP 2 (fun i => [4, 4].getD i 0) (fun i => [upd (dwC (covF p__6 p__9 p__14) 4 x__17 0) (v__45) (0), (dwC (covF p__6 p__9 p__14) 4 x__17 1)].getD i (fun _ => 0)) 4) (upd (dwC (covF p__6 p__9 p__14) 4 x__17 0) (v__45) (0)) (dwC (covF p__6 p__9 p__14) 4 x__17 1)) (pic (fun r => decide (4 ≤ ((pc ((orC (fun i => [upd (dwC (covF p__6 p__9 p__14) 4 x__17 0) (v__45) (0), (dwC (covF p__6 p__9 p__14) 4 x__17 1)].getD i (fun _ => 0)) 2) r) : Nat) : Int)))) : Nat) : Int)), .int .i64 ((((chC (codeP 2 (fun i => [4, 4].getD i 0) (fun i => [upd (dwC (covF p__6 p__9 p__14) 4 x__17 0) (v__45) (0), (dwC (covF p__6 p__9 p__14) 4 x__17 1)].getD i (fun _ => 0)) 4) (upd (dwC (covF p__6 p__9 p__14) 4 x__17 0) (v__45) (0)) (dwC (covF p__6 p__9 p__14) 4 x__17 1)) : Nat) : Int))]) rfl rfl) ?_
          refine Wl.pure (PR.extr (i := 1) (vs := [.int .u64 (((selN (chC (codeP 2 (fun i => [4, 4].getD i 0) (fun i => [upd (dwC (covF p__6 p__9 p__14) 4 x__17 0) (v__45) (0), (dwC (covF p__6 p__9 p__14) 4 x__17 1)].getD i (fun _ => 0)) 4) (upd (dwC (covF p__6 p__9 p__14) 4 x__17 0) (v__45) (0)) (dwC (covF p__6 p__9 p__14) 4 x__17 1)) (pic (fun r => decide (3 ≤ ((pc ((upd (dwC (covF p__6 p__9 p__14) 4 x__17 0) (v__45) (0)) r) : Nat) : Int)))) : Nat) : Int)), .int .u64 (((selN (chC (codeP 2 (fun i => [4, 4].getD i 0) (fun i => [upd (dwC (covF p__6 p__9 p__14) 4 x__17 0) (v__45) (0), (dwC (covF p__6 p__9 p__14) 4 x__17 1)].getD i (fun _ => 0)) 4) (upd (dwC (covF p__6 p__9 p__14) 4 x__17 0) (v__45) (0)) (dwC (covF p__6 p__9 p__14) 4 x__17 1)) (pic (fun r => decide (3 ≤ ((pc ((dwC (covF p__6 p__9 p__14) 4 x__17 1) r) : Nat) : Int)))) : Nat) : Int)), .int .u64 (((selN (chC (codeP 2 (fun i => [4, 4].getD i 0) (fun i => [upd (dwC (covF p__6 p__9 p__14) 4 x__17 0) (v__45) (0), (dwC (covF p__6 p__9 p__14) 4 x__17 1)].getD i (fun _ => 0)) 4) (upd (dwC (covF p__6 p__9 p__14) 4 x__17 0) (v__45) (0)) (dwC (covF p__6 p__9 p__14) 4 x__17 1)) (pic (fun r => decide (4 ≤ ((pc ((orC (fun i => [upd (dwC (covF p__6 p__9 p__14) 4 x__17 0) (v__45) (0), (dwC (covF p__6 p__9 p__14) 4 x__17 1)].getD i (fun _ => 0)) 2) r) : Nat) : Int)))) : Nat) : Int)), .int .i64 ((((chC (codeP 2 (fun i => [4, 4].getD i 0) (fun i => [upd (dwC (covF p__6 p__9 p__14) 4 x__17 0) (v__45) (0), (dwC (covF p__6 p__9 p__14) 4 x__17 1)].getD i (fun _ => 0)) 4) (upd (dwC (covF p__6 p__9 p__14) 4 x__17 0) (v__45) (0)) (dwC (covF p__6 p__9 p__14) 4 x__17 1)) : Nat) : Int))]) rfl rfl) ?_
          refine Wl.pure (PR.extr (i := 2) (vs := [.int .u64 (((selN (chC (codeP 2 (fun i => [4, 4].getD i 0) (fun i => [upd (dwC (covF p__6 p__9 p__14) 4 x__17 0) (v__45) (0), (dwC (covF p__6 p__9 p__14) 4 x__17 1)].getD i (fun _ => 0)) 4) (upd (dwC (covF p__6 p__9 p__14) 4 x__17 0) (v__45) (0)) (dwC (covF p__6 p__9 p__14) 4 x__17 1)) (pic (fun r => decide (3 ≤ ((pc ((upd (dwC (covF p__6 p__9 p__14) 4 x__17 0) (v__45) (0)) r) : Nat) : Int)))) : Nat) : Int)), .int .u64 (((selN (chC (codeP 2 (fun i => [4, 4].getD i 0) (fun i => [upd (dwC (covF p__6 p__9 p__14) 4 x__17 0) (v__45) (0), (dwC (covF p__6 p__9 p__14) 4 x__17 1)].getD i (fun _ => 0)) 4) (upd (dwC (covF p__6 p__9 p__14) 4 x__17 0) (v__45) (0)) (dwC (covF p__6 p__9 p__14) 4 x__17 1)) (pic (fun r => decide (3 ≤ ((pc ((dwC (covF p__6 p__9 p__14) 4 x__17 1) r) : Nat) : Int)))) : Nat) : Int)), .int .u64 (((selN (chC (codeP 2 (fun i => [4, 4].getD i 0) (fun i => [upd (dwC (covF p__6 p__9 p__14) 4 x__17 0) (v__45) (0), (dwC (covF p__6 p__9 p__14) 4 x__17 1)].getD i (fun _ => 0)) 4) (upd (dwC (covF p__6 p__9 p__14) 4 x__17 0) (v__45) (0)) (dwC (covF p__6 p__9 p__14) 4 x__17 1)) (pic (fun r => decide (4 ≤ ((pc ((orC (fun i => [upd (dwC (covF p__6 p__9 p__14) 4 x__17 0) (v__45) (0), (dwC (covF p__6 p__9 p__14) 4 x__17 1)].getD i (fun _ => 0)) 2) r) : Nat) : Int)))) : Nat) : Int)), .int .i64 ((((chC (codeP 2 (fun i => [4, 4].getD i 0) (fun i => [upd (dwC (covF p__6 p__9 p__14) 4 x__17 0) (v__45) (0), (dwC (covF p__6 p__9 p__14) 4 x__17 1)].getD i (fun _ => 0)) 4) (upd (dwC (covF p__6 p__9 p__14) 4 x__17 0) (v__45) (0)) (dwC (covF p__6 p__9 p__14) 4 x__17 1)) : Nat) : Int))]) rfl rfl) ?_
          refine Wl.pure (PR.extr (i := 3) (vs := [.int .u64 (((selN (chC (codeP 2 (fun i => [4, 4].getD i 0) (fun i => [upd (dwC (covF p__6 p__9 p__14) 4 x__17 0) (v__45) (0), (dwC (covF p__6 p__9 p__14) 4 x__17 1)].getD i (fun _ => 0)) 4) (upd (dwC (covF p__6 p__9 p__14) 4 x__17 0) (v__45) (0)) (dwC (covF p__6 p__9 p__14) 4 x__17 1)) (pic (fun r => decide (3 ≤ ((pc ((upd (dwC (covF p__6 p__9 p__14) 4 x__17 0) (v__45) (0)) r) : Nat) : Int)))) : Nat) : Int)), .int .u64 (((selN (chC (codeP 2 (fun i => [4, 4].getD i 0) (fun i => [upd (dwC (covF p__6 p__9 p__14) 4 x__17 0) (v__45) (0), (dwC (covF p__6 p__9 p__14) 4 x__17 1)].getD i (fun _ => 0)) 4) (upd (dwC (covF p__6 p__9 p__14) 4 x__17 0) (v__45) (0)) (dwC (covF p__6 p__9 p__14) 4 x__17 1)) (pic (fun r => decide (3 ≤ ((pc ((dwC (covF p__6 p__9 p__14) 4 x__17 1) r) : Nat) : Int)))) : Nat) : Int)), .int .u64 (((selN (chC (codeP 2 (fun i => [4, 4].getD i 0) (fun i => [upd (dwC (covF p__6 p__9 p__14) 4 x__17 0) (v__45) (0), (dwC (covF p__6 p__9 p__14) 4 x__17 1)].getD i (fun _ => 0)) 4) (upd (dwC (covF p__6 p__9 p__14) 4 x__17 0) (v__45) (0)) (dwC (covF p__6 p__9 p__14) 4 x__17 1)) (pic (fun r => decide (4 ≤ ((pc ((orC (fun i => [upd (dwC (covF p__6 p__9 p__14) 4 x__17 0) (v__45) (0), (dwC (covF p__6 p__9 p__14) 4 x__17 1)].getD i (fun _ => 0)) 2) r) : Nat) : Int)))) : Nat) : Int)), .int .i64 ((((chC (codeP 2 (fun i => [4, 4].getD i 0) (fun i => [upd (dwC (covF p__6 p__9 p__14) 4 x__17 0) (v__45) (0), (dwC (covF p__6 p__9 p__14) 4 x__17 1)].getD i (fun _ => 0)) 4) (upd (dwC (covF p__6 p__9 p__14) 4 x__17 0) (v__45) (0)) (dwC (covF p__6 p__9 p__14) 4 x__17 1)) : Nat) : Int))]) rfl rfl) ?_
          refine Wl.pure (PR.assI rfl) ?_
          refine Wl.pure (PR.assI rfl) ?_
          refine Wl.pure (PR.assI rfl) ?_
          refine Wl.pure (PR.assI rfl) ?_
          refine Wl.nil ?_
          refine tn ?_
          refine Wc.seq ?_
          rw [show ((chC (codeP 2 (fun i => [4, 4].getD i 0) (fun i => [upd (dwC (covF p__6 p__9 p__14) 4 x__17 0) (v__45) (0), (dwC (covF p__6 p__9 p__14) 4 x__17 1)].getD i (fun _ => 0)) 4) (upd (dwC (covF p__6 p__9 p__14) 4 x__17 0) (v__45) (0)) (dwC (covF p__6 p__9 p__14) 4 x__17 1))) = 8 from cov_bad (by omega)]
          refine Wc.region rfl ?_
          refine Wl.pure (PR.moveI rfl) ?_
          refine Wl.pure (PR.eqlS (a := 8) rfl rfl) ?_
          refine Wl.pure (PR.assB rfl) ?_
          refine Wl.nil ?_
          refine tn ?_
          refine Wc.ret ?_
          refine postL.tmp rfl rfl ?_
          exact RetV.of rfl st.below
      · simp only [Bool.not_eq_true', Bool.not_eq_false', Bool.not_true, Bool.not_false, decide_eq_true_eq, decide_eq_false_iff_not] at h51
        refine Wq.off rfl rfl rfl ?_
        refine Wq.off rfl rfl rfl ?_
        refine Wq.off rfl rfl rfl ?_
        refine Wq.off rfl rfl rfl ?_
        refine Wq.off rfl rfl rfl ?_
        refine Wq.off rfl rfl rfl ?_
        refine Wq.off rfl rfl rfl ?_
        refine Wq.off rfl rfl rfl ?_
        refine Wq.off rfl rfl rfl ?_
        refine Wq.off rfl rfl rfl ?_
        refine Wq.off rfl rfl rfl ?_
        refine Wq.off rfl rfl rfl ?_
        refine Wq.off rfl rfl rfl ?_
        refine Wq.off rfl rfl rfl ?_
        refine Wq.pure (PR.pickTB rfl rfl) ?_
        refine Wq.nil (fun w56 hbel => ?_)
        replace st := st.call hbel
        clear hbel
        refine tn ?_
        refine Wc.condT rfl ?_
        refine Wc.seq ?_
        exfalso
        omega
  · refine Wl.off rfl rfl rfl ?_
    refine Wl.pure (PR.pickTB rfl rfl) ?_
    refine Wl.nil ?_
    refine tn ?_
    refine Wc.condT rfl ?_
    refine Wc.seq ?_
    refine Wc.region rfl ?_
    refine Wl.pure (PR.assB rfl) ?_
    refine Wl.nil ?_
    refine tn ?_
    refine Wc.ret ?_
    refine tr ?_
    refine postL.tmp rfl rfl ?_
    exact RetV.of rfl st.below

end Go.Proofs.Ytajkjhjnbfcpfaa
