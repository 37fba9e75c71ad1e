/-
  Contracts of functions, printed by a program of ours.
-/
import Derived.Test.YtajkjhjnbfcpfaaCT1
namespace Go.Proofs.Ytajkjhjnbfcpfaa
open Go.RowKit
set_option linter.unusedVariables false
set_option linter.unusedSimpArgs false

set_option maxHeartbeats 400000 in
set_option maxRecDepth 4000 in
theorem c_laws_FnTriples {A0 : Option Addr} {n0 : Nat} {cp0 : Nat} {c0 : Nat → Nat} {A1 : Option Addr} {n1 : Nat} {cp1 : Nat} {c1 : Nat → Nat} {w : World} (hn0 : n0 ≤ 9223372036854775807) (hR0 : RdS w A0 n0 (arrU .u8 n0 c0)) (hc0 : ∀ k, c0 k < 256) (hn1 : n1 ≤ 9223372036854775807) (hR1 : RdS w A1 n1 (arrU .u8 n1 c1)) (hc1 : ∀ k, c1 k < 256) :
    CE Try.prog 13 [.slice (A0) (n0) (cp0), .slice (A1) (n1) (cp1)] w (RetV w (.bool true)) := by
  refine CE.enter 131 [(0, .slice (A0) (n0) (cp0)), (1, .slice (A1) (n1) (cp1))] en_13 Try.func13 rfl rfl (Nat.le_of_ble_eq_true rfl) rfl ?_
  have st := St.start w
  refine Wc.seq ?_
  refine Wc.region rfl ?_
  refine Wl.pure (PR.assB rfl) ?_
  refine Wl.nil ?_
  refine tn ?_
  refine Wc.seq ?_
  refine Wc.seq ?_
  refine Wc.region rfl ?_
  refine Wl.pure (PR.moveL rfl) ?_
  refine Wl.callV (c_laws_f6big (A := A0) (n := n0) (cp := cp0) (by first | assumption | omega)) rfl ?_
  intro w1 hbel
  replace st := st.call hbel
  clear hbel
  refine Wl.pure (PR.moveB rfl) ?_
  refine Wl.splitF (q := (4096 : Int) < ((n0 : Nat) : Int)) rfl rfl (fun h2 => ?_) (fun h2 => ?_)
  · refine Wl.pure (PR.moveL rfl) ?_
    refine Wl.on rfl rfl ?_
    refine Wl.callV (c_laws_f6big (A := A1) (n := n1) (cp := cp1) (by first | assumption | omega)) rfl ?_
    intro w3 hbel
    replace st := st.call hbel
    clear hbel
    refine Wl.pure (PR.pickFB rfl rfl) ?_
    refine Wl.nil ?_
    refine tn ?_
    refine Wc.condD (p := (4096 : Int) < ((n1 : Nat) : Int)) rfl (fun h4 => ?_) (fun h4 => ?_)
    · refine Wc.seq ?_
      refine Wc.region rfl ?_
      refine Wl.pure (PR.assB rfl) ?_
      refine Wl.nil ?_
      refine tn ?_
      refine Wc.ret ?_
      refine tr ?_
      refine postL.tmp rfl rfl ?_
      exact RetV.of rfl st.below
    · refine Wc.skip ?_
      refine tn ?_
      refine Wc.seq ?_
      refine Wc.region rfl ?_
      refine Wl.pure (PR.moveL rfl) ?_
      refine Wl.callXE [] st (c_spec_P6Picture (A := A0) (n := n0) (cp := cp0) (c := c0) (hR0.st st) hc0) rfl rfl ?_
      clear st
      rintro p__6 hx_7 w5 st
      try dsimp only at st hx_7
      replace st : St [] w w5 [] := st
      refine Wl.pure (PR.assI rfl) ?_
      refine Wl.nil ?_
      refine tn ?_
      refine Wc.seq ?_
      refine Wc.region rfl ?_
      refine Wl.pure (PR.moveL rfl) ?_
      refine Wl.callXE [] st (c_spec_P6Picture (A := A1) (n := n1) (cp := cp1) (c := c1) (hR1.st st) hc1) rfl rfl ?_
      clear st
      rintro p__9 hx_10 w8 st
      try dsimp only at st hx_10
      replace st : St [] w w8 [] := st
      refine Wl.pure (PR.assI rfl) ?_
      refine Wl.nil ?_
      refine tn ?_
      refine Wc.seq ?_
      refine Wc.region rfl ?_
      refine Wl.pure (PR.moveL rfl) ?_
      refine Wl.callXE [] st (c_spec_P6Seed (A := A0) (n := n0) (cp := cp0) (c := c0) (hR0.st st) hc0) rfl rfl ?_
      clear st
      rintro x__12 hx_13 w11 st
      try dsimp only at st hx_13
      replace st : St [] w w11 [] := st
      refine Wl.pure (PR.assI rfl) ?_
      refine Wl.nil ?_
      refine tn ?_
      refine Wc.seq ?_
      refine Wc.region rfl ?_
      refine Wl.pure (PR.moveI rfl) ?_
      refine Wl.pure (PR.moveI rfl) ?_
      refine Wl.pure (PR.moveI rfl) ?_
      refine Wl.callV (c_impl_TripleLayers (p := p__6) (q := p__9) (x := x__12) (by first | assumption | omega) (by first | assumption | omega) (by first | assumption | omega)) rfl ?_
      intro w14 hbel
      replace st := st.call hbel
      clear hbel
      refine Wl.pure (PR.moveV (.tuple #[.agg (layV (2) ((dwC (triF p__6 p__9) 2 x__12 0))).toArray, .agg (layV (2) ((dwC (triF p__6 p__9) 2 x__12 1))).toArray, .agg (layV (2) ((dwC (triF p__6 p__9) 2 x__12 2))).toArray, .int .u32 (((sdK 2 x__12 64 : Nat) : Int))]) rfl) ?_
      refine Wl.pure (PR.extr (i := 0) (vs := [.agg (layV (2) ((dwC (triF p__6 p__9) 2 x__12 0))).toArray, .agg (layV (2) ((dwC (triF p__6 p__9) 2 x__12 1))).toArray, .agg (layV (2) ((dwC (triF p__6 p__9) 2 x__12 2))).toArray, .int .u32 (((sdK 2 x__12 64 : Nat) : Int))]) rfl rfl) ?_
      refine Wl.pure (PR.extr (i := 1) (vs := [.agg (layV (2) ((dwC (triF p__6 p__9) 2 x__12 0))).toArray, .agg (layV (2) ((dwC (triF p__6 p__9) 2 x__12 1))).toArray, .agg (layV (2) ((dwC (triF p__6 p__9) 2 x__12 2))).toArray, .int .u32 (((sdK 2 x__12 64 : Nat) : Int))]) rfl rfl) ?_
      refine Wl.pure (PR.extr (i := 2) (vs := [.agg (layV (2) ((dwC (triF p__6 p__9) 2 x__12 0))).toArray, .agg (layV (2) ((dwC (triF p__6 p__9) 2 x__12 1))).toArray, .agg (layV (2) ((dwC (triF p__6 p__9) 2 x__12 2))).toArray, .int .u32 (((sdK 2 x__12 64 : Nat) : Int))]) rfl rfl) ?_
      refine Wl.pure (PR.extr (i := 3) (vs := [.agg (layV (2) ((dwC (triF p__6 p__9) 2 x__12 0))).toArray, .agg (layV (2) ((dwC (triF p__6 p__9) 2 x__12 1))).toArray, .agg (layV (2) ((dwC (triF p__6 p__9) 2 x__12 2))).toArray, .int .u32 (((sdK 2 x__12 64 : Nat) : Int))]) rfl rfl) ?_
      refine Wl.alloc st tZ_30 rfl ?_
      clear st
      intro b8 w15 st
      refine Wl.alloc st tZ_30 rfl ?_
      clear st
      intro b9 w16 st
      refine Wl.alloc st tZ_30 rfl ?_
      clear st
      intro b10 w17 st
      refine Wl.storeA (i := 2) (cs' := layV (2) ((dwC (triF p__6 p__9) 2 x__12 0))) st tA_30 rfl rfl layV_len layV_one rfl (le_of_len layV_len (by omega)) (all_put layV_len) ?_
      clear st
      intro w18 st
      replace st : St [] w w18 [(b10, layV (0) ((fun _ => 0)), 30), (b9, layV (0) ((fun _ => 0)), 30), (b8, layV (2) ((dwC (triF p__6 p__9) 2 x__12 0)), 30)] := st
      refine Wl.storeA (i := 1) (cs' := layV (2) ((dwC (triF p__6 p__9) 2 x__12 1))) st tA_30 rfl rfl layV_len layV_one rfl (le_of_len layV_len (by omega)) (all_put layV_len) ?_
      clear st
      intro w19 st
      replace st : St [] w w19 [(b10, layV (0) ((fun _ => 0)), 30), (b9, layV (2) ((dwC (triF p__6 p__9) 2 x__12 1)), 30), (b8, layV (2) ((dwC (triF p__6 p__9) 2 x__12 0)), 30)] := st
      refine Wl.storeA (i := 0) (cs' := layV (2) ((dwC (triF p__6 p__9) 2 x__12 2))) st tA_30 rfl rfl layV_len layV_one rfl (le_of_len layV_len (by omega)) (all_put layV_len) ?_
      clear st
      intro w20 st
      replace st : St [] w w20 [(b10, layV (2) ((dwC (triF p__6 p__9) 2 x__12 2)), 30), (b9, layV (2) ((dwC (triF p__6 p__9) 2 x__12 1)), 30), (b8, layV (2) ((dwC (triF p__6 p__9) 2 x__12 0)), 30)] := st
      refine Wl.pure (PR.assI rfl) ?_
      refine Wl.nil ?_
      refine tn ?_
      refine Wc.seq ?_
      refine Wc.region rfl ?_
      refine Wl.pure (PR.moveI rfl) ?_
      refine Wl.pure (PR.moveI rfl) ?_
      refine Wl.pure (PR.moveI rfl) ?_
      refine Wl.callV (c_spec_TripleLayers (p := p__6) (q := p__9) (x := x__12) (by first | assumption | omega) (by first | assumption | omega) (by first | assumption | omega)) rfl ?_
      intro w21 hbel
      replace st := st.call hbel
      clear hbel
      refine Wl.pure (PR.moveV (.tuple #[.agg (layV (2) ((dwC (triF p__6 p__9) 2 x__12 0))).toArray, .agg (layV (2) ((dwC (triF p__6 p__9) 2 x__12 1))).toArray, .agg (layV (2) ((dwC (triF p__6 p__9) 2 x__12 2))).toArray, .int .u32 (((sdK 2 x__12 64 : Nat) : Int))]) rfl) ?_
      refine Wl.pure (PR.extr (i := 0) (vs := [.agg (layV (2) ((dwC (triF p__6 p__9) 2 x__12 0))).toArray, .agg (layV (2) ((dwC (triF p__6 p__9) 2 x__12 1))).toArray, .agg (layV (2) ((dwC (triF p__6 p__9) 2 x__12 2))).toArray, .int .u32 (((sdK 2 x__12 64 : Nat) : Int))]) rfl rfl) ?_
      refine Wl.pure (PR.extr (i := 1) (vs := [.agg (layV (2) ((dwC (triF p__6 p__9) 2 x__12 0))).toArray, .agg (layV (2) ((dwC (triF p__6 p__9) 2 x__12 1))).toArray, .agg (layV (2) ((dwC (triF p__6 p__9) 2 x__12 2))).toArray, .int .u32 (((sdK 2 x__12 64 : Nat) : Int))]) rfl rfl) ?_
      refine Wl.pure (PR.extr (i := 2) (vs := [.agg (layV (2) ((dwC (triF p__6 p__9) 2 x__12 0))).toArray, .agg (layV (2) ((dwC (triF p__6 p__9) 2 x__12 1))).toArray, .agg (layV (2) ((dwC (triF p__6 p__9) 2 x__12 2))).toArray, .int .u32 (((sdK 2 x__12 64 : Nat) : Int))]) rfl rfl) ?_
      refine Wl.pure (PR.extr (i := 3) (vs := [.agg (layV (2) ((dwC (triF p__6 p__9) 2 x__12 0))).toArray, .agg (layV (2) ((dwC (triF p__6 p__9) 2 x__12 1))).toArray, .agg (layV (2) ((dwC (triF p__6 p__9) 2 x__12 2))).toArray, .int .u32 (((sdK 2 x__12 64 : Nat) : Int))]) rfl rfl) ?_
      refine Wl.alloc st tZ_30 rfl ?_
      clear st
      intro b12 w22 st
      refine Wl.alloc st tZ_30 rfl ?_
      clear st
      intro b13 w23 st
      refine Wl.alloc st tZ_30 rfl ?_
      clear st
      intro b14 w24 st
      refine Wl.storeA (i := 2) (cs' := layV (2) ((dwC (triF p__6 p__9) 2 x__12 0))) st tA_30 rfl rfl layV_len layV_one rfl (le_of_len layV_len (by omega)) (all_put layV_len) ?_
      clear st
      intro w25 st
      replace st : St [] w w25 [(b14, layV (0) ((fun _ => 0)), 30), (b13, layV (0) ((fun _ => 0)), 30), (b12, layV (2) ((dwC (triF p__6 p__9) 2 x__12 0)), 30), (b10, layV (2) ((dwC (triF p__6 p__9) 2 x__12 2)), 30), (b9, layV (2) ((dwC (triF p__6 p__9) 2 x__12 1)), 30), (b8, layV (2) ((dwC (triF p__6 p__9) 2 x__12 0)), 30)] := st
      refine Wl.storeA (i := 1) (cs' := layV (2) ((dwC (triF p__6 p__9) 2 x__12 1))) st tA_30 rfl rfl layV_len layV_one rfl (le_of_len layV_len (by omega)) (all_put layV_len) ?_
      clear st
      intro w26 st
      replace st : St [] w w26 [(b14, layV (0) ((fun _ => 0)), 30), (b13, layV (2) ((dwC (triF p__6 p__9) 2 x__12 1)), 30), (b12, layV (2) ((dwC (triF p__6 p__9) 2 x__12 0)), 30), (b10, layV (2) ((dwC (triF p__6 p__9) 2 x__12 2)), 30), (b9, layV (2) ((dwC (triF p__6 p__9) 2 x__12 1)), 30), (b8, layV (2) ((dwC (triF p__6 p__9) 2 x__12 0)), 30)] := st
      refine Wl.storeA (i := 0) (cs' := layV (2) ((dwC (triF p__6 p__9) 2 x__12 2))) st tA_30 rfl rfl layV_len layV_one rfl (le_of_len layV_len (by omega)) (all_put layV_len) ?_
      clear st
      intro w27 st
      replace st : St [] w w27 [(b14, layV (2) ((dwC (triF p__6 p__9) 2 x__12 2)), 30), (b13, layV (2) ((dwC (triF p__6 p__9) 2 x__12 1)), 30), (b12, layV (2) ((dwC (triF p__6 p__9) 2 x__12 0)), 30), (b10, layV (2) ((dwC (triF p__6 p__9) 2 x__12 2)), 30), (b9, layV (2) ((dwC (triF p__6 p__9) 2 x__12 1)), 30), (b8, layV (2) ((dwC (triF p__6 p__9) 2 x__12 0)), 30)] := st
      refine Wl.pure (PR.assI rfl) ?_
      refine Wl.nil ?_
      refine tn ?_
      refine Wc.seq ?_
      refine Wc.seq ?_
      refine Wc.region rfl ?_
      refine Wl.loadA (i := 5) st tA_30 rfl rfl (all_sub layV_len) layV_len ?_
      refine Wl.loadA (i := 2) st tA_30 rfl rfl (all_sub layV_len) layV_len ?_
      refine Wl.pure (PR.neqR tQ_30 rfl rfl (flat_layV (by simp only [fitI]; omega) (dwC_lt _ _ _ _))) ?_
      refine Wl.pure (PR.moveB rfl) ?_
      refine Wl.on rfl rfl ?_
      refine Wl.loadA (i := 4) st tA_30 rfl rfl (all_sub layV_len) layV_len ?_
      refine Wl.on rfl rfl ?_
      refine Wl.loadA (i := 1) st tA_30 rfl rfl (all_sub layV_len) layV_len ?_
      refine Wl.on rfl rfl ?_
      refine Wl.pure (PR.neqR tQ_30 rfl rfl (flat_layV (by simp only [fitI]; omega) (dwC_lt _ _ _ _))) ?_
      refine Wl.pure (PR.pickFB rfl rfl) ?_
      refine Wl.pure (PR.moveB rfl) ?_
      refine Wl.on rfl rfl ?_
      refine Wl.loadA (i := 3) st tA_30 rfl rfl (all_sub layV_len) layV_len ?_
      refine Wl.on rfl rfl ?_
      refine Wl.loadA (i := 0) st tA_30 rfl rfl (all_sub layV_len) layV_len ?_
      refine Wl.on rfl rfl ?_
      refine Wl.pure (PR.neqR tQ_30 rfl rfl (flat_layV (by simp only [fitI]; omega) (dwC_lt _ _ _ _))) ?_
      refine Wl.pure (PR.pickFB rfl rfl) ?_
      refine Wl.pure (PR.moveB rfl) ?_
      refine Wl.on rfl rfl ?_
      refine Wl.pure (PR.moveI rfl) ?_
      refine Wl.on rfl rfl ?_
      refine Wl.pure (PR.moveI rfl) ?_
      refine Wl.on rfl rfl ?_
      refine Wl.pure (PR.neqS (a := ((sdK 2 x__12 64 : Nat) : Int)) rfl rfl) ?_
      refine Wl.pure (PR.pickFB rfl rfl) ?_
      refine Wl.nil ?_
      refine tn ?_
      refine Wc.condF rfl ?_
      refine Wc.skip ?_
      refine tn ?_
      refine Wc.seq ?_
      refine Wc.region rfl ?_
      refine Wl.loadA (i := 2) st tA_30 rfl rfl (all_sub layV_len) layV_len ?_
      refine Wl.loadA (i := 1) st tA_30 rfl rfl (all_sub layV_len) layV_len ?_
      refine Wl.callV (c_impl_PairShown (p := 2) (c := (dwC (triF p__6 p__9) 2 x__12 0)) (r := 2) (d := (dwC (triF p__6 p__9) 2 x__12 1)) (by first | assumption | omega) (dwC_lt _ _ _ _) (by first | assumption | omega) (dwC_lt _ _ _ _)) rfl ?_
      intro w28 hbel
      replace st := st.call hbel
      clear hbel
      refine Wl.pure (PR.moveV (.tuple #[.int .u64 (((selN (codeP 2 (fun i => [2, 2].getD i 0) (fun i => [(dwC (triF p__6 p__9) 2 x__12 0), (dwC (triF p__6 p__9) 2 x__12 1)].getD i (fun _ => 0)) 2) (pic (fun r => decide (2 ≤ ((pc ((orC (fun i => [(dwC (triF p__6 p__9) 2 x__12 0), (dwC (triF p__6 p__9) 2 x__12 1)].getD i (fun _ => 0)) 2) r) : Nat) : Int)))) : Nat) : Int)), .int .i64 (((codeP 2 (fun i => [2, 2].getD i 0) (fun i => [(dwC (triF p__6 p__9) 2 x__12 0), (dwC (triF p__6 p__9) 2 x__12 1)].getD i (fun _ => 0)) 2 : Nat) : Int))]) rfl) ?_
      refine Wl.pure (PR.extr (i := 0) (vs := [.int .u64 (((selN (codeP 2 (fun i => [2, 2].getD i 0) (fun i => [(dwC (triF p__6 p__9) 2 x__12 0), (dwC (triF p__6 p__9) 2 x__12 1)].getD i (fun _ => 0)) 2) (pic (fun r => decide (2 ≤ ((pc ((orC (fun i => [(dwC (triF p__6 p__9) 2 x__12 0), (dwC (triF p__6 p__9) 2 x__12 1)].getD i (fun _ => 0)) 2) r) : Nat) : Int)))) : Nat) : Int)), .int .i64 (((codeP 2 (fun i => [2, 2].getD i 0) (fun i => [(dwC (triF p__6 p__9) 2 x__12 0), (dwC (triF p__6 p__9) 2 x__12 1)].getD i (fun _ => 0)) 2 : Nat) : Int))]) rfl rfl) ?_
      refine Wl.pure (PR.extr (i := 1) (vs := [.int .u64 (((selN (codeP 2 (fun i => [2, 2].getD i 0) (fun i => [(dwC (triF p__6 p__9) 2 x__12 0), (dwC (triF p__6 p__9) 2 x__12 1)].getD i (fun _ => 0)) 2) (pic (fun r => decide (2 ≤ ((pc ((orC (fun i => [(dwC (triF p__6 p__9) 2 x__12 0), (dwC (triF p__6 p__9) 2 x__12 1)].getD i (fun _ => 0)) 2) r) : Nat) : Int)))) : Nat) : Int)), .int .i64 (((codeP 2 (fun i => [2, 2].getD i 0) (fun i => [(dwC (triF p__6 p__9) 2 x__12 0), (dwC (triF p__6 p__9) 2 x__12 1)].getD i (fun _ => 0)) 2 : Nat) : Int))]) rfl rfl) ?_
      refine Wl.pure (PR.assI rfl) ?_
      refine Wl.pure (PR.assI rfl) ?_
      refine Wl.nil ?_
      refine tn ?_
      refine Wc.seq ?_
      refine Wc.region rfl ?_
      refine Wl.loadA (i := 2) st tA_30 rfl rfl (all_sub layV_len) layV_len ?_
      refine Wl.loadA (i := 0) st tA_30 rfl rfl (all_sub layV_len) layV_len ?_
      refine Wl.callV (c_impl_PairShown (p := 2) (c := (dwC (triF p__6 p__9) 2 x__12 0)) (r := 2) (d := (dwC (triF p__6 p__9) 2 x__12 2)) (by first | assumption | omega) (dwC_lt _ _ _ _) (by first | assumption | omega) (dwC_lt _ _ _ _)) rfl ?_
      intro w29 hbel
      replace st := st.call hbel
      clear hbel
      refine Wl.pure (PR.moveV (.tuple #[.int .u64 (((selN (codeP 2 (fun i => [2, 2].getD i 0) (fun i => [(dwC (triF p__6 p__9) 2 x__12 0), (dwC (triF p__6 p__9) 2 x__12 2)].getD i (fun _ => 0)) 2) (pic (fun r => decide (2 ≤ ((pc ((orC (fun i => [(dwC (triF p__6 p__9) 2 x__12 0), (dwC (triF p__6 p__9) 2 x__12 2)].getD i (fun _ => 0)) 2) r) : Nat) : Int)))) : Nat) : Int)), .int .i64 (((codeP 2 (fun i => [2, 2].getD i 0) (fun i => [(dwC (triF p__6 p__9) 2 x__12 0), (dwC (triF p__6 p__9) 2 x__12 2)].getD i (fun _ => 0)) 2 : Nat) : Int))]) rfl) ?_
      refine Wl.pure (PR.extr (i := 0) (vs := [.int .u64 (((selN (codeP 2 (fun i => [2, 2].getD i 0) (fun i => [(dwC (triF p__6 p__9) 2 x__12 0), (dwC (triF p__6 p__9) 2 x__12 2)].getD i (fun _ => 0)) 2) (pic (fun r => decide (2 ≤ ((pc ((orC (fun i => [(dwC (triF p__6 p__9) 2 x__12 0), (dwC (triF p__6 p__9) 2 x__12 2)].getD i (fun _ => 0)) 2) r) : Nat) : Int)))) : Nat) : Int)), .int .i64 (((codeP 2 (fun i => [2, 2].getD i 0) (fun i => [(dwC (triF p__6 p__9) 2 x__12 0), (dwC (triF p__6 p__9) 2 x__12 2)].getD i (fun _ => 0)) 2 : Nat) : Int))]) rfl rfl) ?_
      refine Wl.pure (PR.extr (i := 1) (vs := [.int .u64 (((selN (codeP 2 (fun i => [2, 2].getD i 0) (fun i => [(dwC (triF p__6 p__9) 2 x__12 0), (dwC (triF p__6 p__9) 2 x__12 2)].getD i (fun _ => 0)) 2) (pic (fun r => decide (2 ≤ ((pc ((orC (fun i => [(dwC (triF p__6 p__9) 2 x__12 0), (dwC (triF p__6 p__9) 2 x__12 2)].getD i (fun _ => 0)) 2) r) : Nat) : Int)))) : Nat) : Int)), .int .i64 (((codeP 2 (fun i => [2, 2].getD i 0) (fun i => [(dwC (triF p__6 p__9) 2 x__12 0), (dwC (triF p__6 p__9) 2 x__12 2)].getD i (fun _ => 0)) 2 : Nat) : Int))]) rfl rfl) ?_
      refine Wl.pure (PR.assI rfl) ?_
      refine Wl.pure (PR.assI rfl) ?_
      refine Wl.nil ?_
      refine tn ?_
      refine Wc.seq ?_
      refine Wc.region rfl ?_
      refine Wl.loadA (i := 1) st tA_30 rfl rfl (all_sub layV_len) layV_len ?_
      refine Wl.loadA (i := 0) st tA_30 rfl rfl (all_sub layV_len) layV_len ?_
      refine Wl.callV (c_impl_PairShown (p := 2) (c := (dwC (triF p__6 p__9) 2 x__12 1)) (r := 2) (d := (dwC (triF p__6 p__9) 2 x__12 2)) (by first | assumption | omega) (dwC_lt _ _ _ _) (by first | assumption | omega) (dwC_lt _ _ _ _)) rfl ?_
      intro w30 hbel
      replace st := st.call hbel
      clear hbel
      refine Wl.pure (PR.moveV (.tuple #[.int .u64 (((selN (codeP 2 (fun i => [2, 2].getD i 0) (fun i => [(dwC (triF p__6 p__9) 2 x__12 1), (dwC (triF p__6 p__9) 2 x__12 2)].getD i (fun _ => 0)) 2) (pic (fun r => decide (2 ≤ ((pc ((orC (fun i => [(dwC (triF p__6 p__9) 2 x__12 1), (dwC (triF p__6 p__9) 2 x__12 2)].getD i (fun _ => 0)) 2) r) : Nat) : Int)))) : Nat) : Int)), .int .i64 (((codeP 2 (fun i => [2, 2].getD i 0) (fun i => [(dwC (triF p__6 p__9) 2 x__12 1), (dwC (triF p__6 p__9) 2 x__12 2)].getD i (fun _ => 0)) 2 : Nat) : Int))]) rfl) ?_
      refine Wl.pure (PR.extr (i := 0) (vs := [.int .u64 (((selN (codeP 2 (fun i => [2, 2].getD i 0) (fun i => [(dwC (triF p__6 p__9) 2 x__12 1), (dwC (triF p__6 p__9) 2 x__12 2)].getD i (fun _ => 0)) 2) (pic (fun r => decide (2 ≤ ((pc ((orC (fun i => [(dwC (triF p__6 p__9) 2 x__12 1), (dwC (triF p__6 p__9) 2 x__12 2)].getD i (fun _ => 0)) 2) r) : Nat) : Int)))) : Nat) : Int)), .int .i64 (((codeP 2 (fun i => [2, 2].getD i 0) (fun i => [(dwC (triF p__6 p__9) 2 x__12 1), (dwC (triF p__6 p__9) 2 x__12 2)].getD i (fun _ => 0)) 2 : Nat) : Int))]) rfl rfl) ?_
      refine Wl.pure (PR.extr (i := 1) (vs := [.int .u64 (((selN (codeP 2 (fun i => [2, 2].getD i 0) (fun i => [(dwC (triF p__6 p__9) 2 x__12 1), (dwC (triF p__6 p__9) 2 x__12 2)].getD i (fun _ => 0)) 2) (pic (fun r => decide (2 ≤ ((pc ((orC (fun i => [(dwC (triF p__6 p__9) 2 x__12 1), (dwC (triF p__6 p__9) 2 x__12 2)].getD i (fun _ => 0)) 2) r) : Nat) : Int)))) : Nat) : Int)), .int .i64 (((codeP 2 (fun i => [2, 2].getD i 0) (fun i => [(dwC (triF p__6 p__9) 2 x__12 1), (dwC (triF p__6 p__9) 2 x__12 2)].getD i (fun _ => 0)) 2 : Nat) : Int))]) rfl rfl) ?_
      refine Wl.pure (PR.assI rfl) ?_
      refine Wl.pure (PR.assI rfl) ?_
      refine Wl.nil ?_
      refine tn ?_
      refine Wc.seq ?_
      refine Wc.region rfl ?_
      refine Wl.loadA (i := 0) st tA_30 rfl rfl (all_sub layV_len) layV_len ?_
      refine Wl.callV (c_impl_HistogramOf (p := 2) (c := (dwC (triF p__6 p__9) 2 x__12 2)) (by first | assumption | omega) (dwC_lt _ _ _ _)) rfl ?_
      intro w31 hbel
      replace st := st.call hbel
      clear hbel
      refine Wl.pure (PR.moveV (.tuple #[.agg (arrU .i64 9 (hsF 2 (dwC (triF p__6 p__9) 2 x__12 2))).toArray, .int .i64 (((hsC 2 (dwC (triF p__6 p__9) 2 x__12 2) : Nat) : Int))]) rfl) ?_
      refine Wl.pure (PR.extr (i := 0) (vs := [.agg (arrU .i64 9 (hsF 2 (dwC (triF p__6 p__9) 2 x__12 2))).toArray, .int .i64 (((hsC 2 (dwC (triF p__6 p__9) 2 x__12 2) : Nat) : Int))]) rfl rfl) ?_
      refine Wl.pure (PR.extr (i := 1) (vs := [.agg (arrU .i64 9 (hsF 2 (dwC (triF p__6 p__9) 2 x__12 2))).toArray, .int .i64 (((hsC 2 (dwC (triF p__6 p__9) 2 x__12 2) : Nat) : Int))]) rfl rfl) ?_
      refine Wl.alloc st tZ_71 rfl ?_
      clear st
      intro b22 w32 st
      refine Wl.storeA (i := 0) (cs' := arrU .i64 9 (hsF 2 (dwC (triF p__6 p__9) 2 x__12 2))) st tA_71 rfl rfl (arrU_len _) (arrU_one _) rfl (le_of_len (arrZ_len _) (by omega)) (all_put (arrZ_len _)) ?_
      clear st
      intro w33 st
      replace st : St [] w w33 [(b22, arrU .i64 9 (hsF 2 (dwC (triF p__6 p__9) 2 x__12 2)), 71), (b14, layV (2) ((dwC (triF p__6 p__9) 2 x__12 2)), 30), (b13, layV (2) ((dwC (triF p__6 p__9) 2 x__12 1)), 30), (b12, layV (2) ((dwC (triF p__6 p__9) 2 x__12 0)), 30), (b10, layV (2) ((dwC (triF p__6 p__9) 2 x__12 2)), 30), (b9, layV (2) ((dwC (triF p__6 p__9) 2 x__12 1)), 30), (b8, layV (2) ((dwC (triF p__6 p__9) 2 x__12 0)), 30)] := st
      refine Wl.pure (PR.assI rfl) ?_
      refine Wl.nil ?_
      refine tn ?_
      refine Wc.seq ?_
      have hp9 : p__6 < 18446744073709551616 := by assumption
      have hq9 : p__9 < 18446744073709551616 := by assumption
      have hk0 : codeP 2 (fun i => [2, 2].getD i 0) (fun i => [(dwC (triF p__6 p__9) 2 x__12 0), (dwC (triF p__6 p__9) 2 x__12 1)].getD i (fun _ => 0)) 2 = 0 := tri_k
      have hv0 : selN (codeP 2 (fun i => [2, 2].getD i 0) (fun i => [(dwC (triF p__6 p__9) 2 x__12 0), (dwC (triF p__6 p__9) 2 x__12 1)].getD i (fun _ => 0)) 2) (pic (fun r => decide (2 ≤ ((pc ((orC (fun i => [(dwC (triF p__6 p__9) 2 x__12 0), (dwC (triF p__6 p__9) 2 x__12 1)].getD i (fun _ => 0)) 2) r) : Nat) : Int)))) = p__6 := tri_1 hp9
      have hk1 : codeP 2 (fun i => [2, 2].getD i 0) (fun i => [(dwC (triF p__6 p__9) 2 x__12 0), (dwC (triF p__6 p__9) 2 x__12 2)].getD i (fun _ => 0)) 2 = 0 := tri_k
      have hv1 : selN (codeP 2 (fun i => [2, 2].getD i 0) (fun i => [(dwC (triF p__6 p__9) 2 x__12 0), (dwC (triF p__6 p__9) 2 x__12 2)].getD i (fun _ => 0)) 2) (pic (fun r => decide (2 ≤ ((pc ((orC (fun i => [(dwC (triF p__6 p__9) 2 x__12 0), (dwC (triF p__6 p__9) 2 x__12 2)].getD i (fun _ => 0)) 2) r) : Nat) : Int)))) = p__9 := tri_2 hq9
      have hk2 : codeP 2 (fun i => [2, 2].getD i 0) (fun i => [(dwC (triF p__6 p__9) 2 x__12 1), (dwC (triF p__6 p__9) 2 x__12 2)].getD i (fun _ => 0)) 2 = 0 := tri_k
      have hv2 : selN (codeP 2 (fun i => [2, 2].getD i 0) (fun i => [(dwC (triF p__6 p__9) 2 x__12 1), (dwC (triF p__6 p__9) 2 x__12 2)].getD i (fun _ => 0)) 2) (pic (fun r => decide (2 ≤ ((pc ((orC (fun i => [(dwC (triF p__6 p__9) 2 x__12 1), (dwC (triF p__6 p__9) 2 x__12 2)].getD i (fun _ => 0)) 2) r) : Nat) : Int)))) = p__6 ^^^ p__9 := tri_3 hp9 hq9
      have hk3 : hsC 2 (dwC (triF p__6 p__9) 2 x__12 2) = 0 := tri_h0
      have hv3 : (hsF 2 (dwC (triF p__6 p__9) 2 x__12 2)) 1 = 64 := tri_h1
      refine Wc.region rfl ?_
      refine Wl.pure (PR.moveI rfl) ?_
      refine Wl.pure (PR.eql (a := ((codeP 2 (fun i => [2, 2].getD i 0) (fun i => [(dwC (triF p__6 p__9) 2 x__12 0), (dwC (triF p__6 p__9) 2 x__12 1)].getD i (fun _ => 0)) 2 : Nat) : Int)) (b := 0) rfl rfl) ?_
      refine Wl.pure (PR.moveB rfl) ?_
      refine Wl.splitT (q := ((codeP 2 (fun i => [2, 2].getD i 0) (fun i => [(dwC (triF p__6 p__9) 2 x__12 0), (dwC (triF p__6 p__9) 2 x__12 1)].getD i (fun _ => 0)) 2 : Nat) : Int) = 0) rfl rfl (fun h34 => ?_) (fun h34 => ?_)
      · refine Wl.pure (PR.moveI rfl) ?_
        refine Wl.on rfl rfl ?_
        refine Wl.pure (PR.moveI rfl) ?_
        refine Wl.on rfl rfl ?_
        refine Wl.pure (PR.eql (a := ((selN (codeP 2 (fun i => [2, 2].getD i 0) (fun i => [(dwC (triF p__6 p__9) 2 x__12 0), (dwC (triF p__6 p__9) 2 x__12 1)].getD i (fun _ => 0)) 2) (pic (fun r => decide (2 ≤ ((pc ((orC (fun i => [(dwC (triF p__6 p__9) 2 x__12 0), (dwC (triF p__6 p__9) 2 x__12 1)].getD i (fun _ => 0)) 2) r) : Nat) : Int)))) : Nat) : Int)) (b := ((p__6 : Nat) : Int)) rfl rfl) ?_
        refine Wl.pure (PR.pickTB rfl rfl) ?_
        refine Wl.pure (PR.moveB rfl) ?_
        refine Wl.splitT (q := ((selN (codeP 2 (fun i => [2, 2].getD i 0) (fun i => [(dwC (triF p__6 p__9) 2 x__12 0), (dwC (triF p__6 p__9) 2 x__12 1)].getD i (fun _ => 0)) 2) (pic (fun r => decide (2 ≤ ((pc ((orC (fun i => [(dwC (triF p__6 p__9) 2 x__12 0), (dwC (triF p__6 p__9) 2 x__12 1)].getD i (fun _ => 0)) 2) r) : Nat) : Int)))) : Nat) : Int) = ((p__6 : Nat) : Int)) rfl rfl (fun h35 => ?_) (fun h35 => ?_)
        · refine Wl.pure (PR.moveI rfl) ?_
          refine Wl.on rfl rfl ?_
          refine Wl.pure (PR.eql (a := ((codeP 2 (fun i => [2, 2].getD i 0) (fun i => [(dwC (triF p__6 p__9) 2 x__12 0), (dwC (triF p__6 p__9) 2 x__12 2)].getD i (fun _ => 0)) 2 : Nat) : Int)) (b := 0) rfl rfl) ?_
          refine Wl.pure (PR.pickTB rfl rfl) ?_
          refine Wl.pure (PR.moveB rfl) ?_
          refine Wl.splitT (q := ((codeP 2 (fun i => [2, 2].getD i 0) (fun i => [(dwC (triF p__6 p__9) 2 x__12 0), (dwC (triF p__6 p__9) 2 x__12 2)].getD i (fun _ => 0)) 2 : Nat) : Int) = 0) rfl rfl (fun h36 => ?_) (fun h36 => ?_)
          · refine Wl.pure (PR.moveI rfl) ?_
            refine Wl.on rfl rfl ?_
            refine Wl.pure (PR.moveI rfl) ?_
            refine Wl.on rfl rfl ?_
            refine Wl.pure (PR.eql (a := ((selN (codeP 2 (fun i => [2, 2].getD i 0) (fun i => [(dwC (triF p__6 p__9) 2 x__12 0), (dwC (triF p__6 p__9) 2 x__12 2)].getD i (fun _ => 0)) 2) (pic (fun r => decide (2 ≤ ((pc ((orC (fun i => [(dwC (triF p__6 p__9) 2 x__12 0), (dwC (triF p__6 p__9) 2 x__12 2)].getD i (fun _ => 0)) 2) r) : Nat) : Int)))) : Nat) : Int)) (b := ((p__9 : Nat) : Int)) rfl rfl) ?_
            refine Wl.pure (PR.pickTB rfl rfl) ?_
            refine Wl.pure (PR.moveB rfl) ?_
            refine Wl.splitT (q := ((selN (codeP 2 (fun i => [2, 2].getD i 0) (fun i => [(dwC (triF p__6 p__9) 2 x__12 0), (dwC (triF p__6 p__9) 2 x__12 2)].getD i (fun _ => 0)) 2) (pic (fun r => decide (2 ≤ ((pc ((orC (fun i => [(dwC (triF p__6 p__9) 2 x__12 0), (dwC (triF p__6 p__9) 2 x__12 2)].getD i (fun _ => 0)) 2) r) : Nat) : Int)))) : Nat) : Int) = ((p__9 : Nat) : Int)) rfl rfl (fun h37 => ?_) (fun h37 => ?_)
            · refine Wl.pure (PR.moveI rfl) ?_
              refine Wl.on rfl rfl ?_
              refine Wl.pure (PR.eql (a := ((codeP 2 (fun i => [2, 2].getD i 0) (fun i => [(dwC (triF p__6 p__9) 2 x__12 1), (dwC (triF p__6 p__9) 2 x__12 2)].getD i (fun _ => 0)) 2 : Nat) : Int)) (b := 0) rfl rfl) ?_
              refine Wl.pure (PR.pickTB rfl rfl) ?_
              refine Wl.pure (PR.moveB rfl) ?_
              refine Wl.splitT (q := ((codeP 2 (fun i => [2, 2].getD i 0) (fun i => [(dwC (triF p__6 p__9) 2 x__12 1), (dwC (triF p__6 p__9) 2 x__12 2)].getD i (fun _ => 0)) 2 : Nat) : Int) = 0) rfl rfl (fun h38 => ?_) (fun h38 => ?_)
              · refine Wl.pure (PR.moveI rfl) ?_
                refine Wl.on rfl rfl ?_
                refine Wl.pure (PR.moveI rfl) ?_
                refine Wl.on rfl rfl ?_
                refine Wl.pure (PR.moveI rfl) ?_
                refine Wl.on rfl rfl ?_
                refine Wl.pure (PR.xor (a := p__6) (b := p__9) rfl rfl (by decide) (by first | assumption | omega) (by first | assumption | omega)) ?_
                refine Wl.on rfl rfl ?_
                refine Wl.pure (PR.eql (a := ((selN (codeP 2 (fun i => [2, 2].getD i 0) (fun i => [(dwC (triF p__6 p__9) 2 x__12 1), (dwC (triF p__6 p__9) 2 x__12 2)].getD i (fun _ => 0)) 2) (pic (fun r => decide (2 ≤ ((pc ((orC (fun i => [(dwC (triF p__6 p__9) 2 x__12 1), (dwC (triF p__6 p__9) 2 x__12 2)].getD i (fun _ => 0)) 2) r) : Nat) : Int)))) : Nat) : Int)) (b := (((p__6 ^^^ p__9) : Nat) : Int)) rfl rfl) ?_
                refine Wl.pure (PR.pickTB rfl rfl) ?_
                refine Wl.pure (PR.moveB rfl) ?_
                refine Wl.splitT (q := ((selN (codeP 2 (fun i => [2, 2].getD i 0) (fun i => [(dwC (triF p__6 p__9) 2 x__12 1), (dwC (triF p__6 p__9) 2 x__12 2)].getD i (fun _ => 0)) 2) (pic (fun r => decide (2 ≤ ((pc ((orC (fun i => [(dwC (triF p__6 p__9) 2 x__12 1), (dwC (triF p__6 p__9) 2 x__12 2)].getD i (fun _ => 0)) 2) r) : Nat) : Int)))) : Nat) : Int) = (((p__6 ^^^ p__9) : Nat) : Int)) rfl rfl (fun h39 => ?_) (fun h39 => ?_)
                · refine Wl.pure (PR.moveI rfl) ?_
                  refine Wl.on rfl rfl ?_
                  refine Wl.pure (PR.eql (a := ((hsC 2 (dwC (triF p__6 p__9) 2 x__12 2) : Nat) : Int)) (b := 0) rfl rfl) ?_
                  refine Wl.pure (PR.pickTB rfl rfl) ?_
                  refine Wl.pure (PR.moveB rfl) ?_
                  refine Wl.splitT (q := ((hsC 2 (dwC (triF p__6 p__9) 2 x__12 2) : Nat) : Int) = 0) rfl rfl (fun h40 => ?_) (fun h40 => ?_)
                  · refine Wl.pure (PR.idxAddrA1 (i := 1) tE_71 rfl rfl (by omega)) ?_
                    refine Wl.on rfl rfl ?_
                    refine Wl.load (i := 0) st tA_2 rfl rfl (arrU_get (i := 1) (by omega)) ?_
                    refine Wl.on rfl rfl ?_
                    refine Wl.pure (PR.eql (a := (((hsF 2 (dwC (triF p__6 p__9) 2 x__12 2)) 1 : Nat) : Int)) (b := 64) rfl rfl) ?_
                    refine Wl.pure (PR.pickTB rfl rfl) ?_
                    refine Wl.pure (PR.assB rfl) ?_
                    refine Wl.nil ?_
                    refine tn ?_
                    refine Wc.ret ?_
                    refine postL.tmp rfl rfl ?_
                    refine RetV.of ?_ st.below
                    refine congrArg Value.bool ?_
                    first | rfl | (exfalso; omega) | exact decide_eq_true (by omega)
                  · refine Wl.off rfl rfl rfl ?_
                    refine Wl.off rfl rfl rfl ?_
                    refine Wl.pure (PR.pickFB rfl rfl) ?_
                    refine Wl.pure (PR.assB rfl) ?_
                    refine Wl.nil ?_
                    refine tn ?_
                    refine Wc.ret ?_
                    refine postL.tmp rfl rfl ?_
                    refine RetV.of ?_ st.below
                    refine congrArg Value.bool ?_
                    first | rfl | (exfalso; omega) | exact decide_eq_true (by omega)
                · refine Wl.off rfl rfl rfl ?_
                  refine Wl.pure (PR.pickFB rfl rfl) ?_
                  refine Wl.pure (PR.moveB rfl) ?_
                  refine Wl.off rfl rfl rfl ?_
                  refine Wl.off rfl rfl rfl ?_
                  refine Wl.off rfl rfl rfl ?_
                  refine Wl.pure (PR.pickFB rfl rfl) ?_
                  refine Wl.pure (PR.assB rfl) ?_
                  refine Wl.nil ?_
                  refine tn ?_
                  refine Wc.ret ?_
                  refine postL.tmp rfl rfl ?_
                  refine RetV.of ?_ st.below
                  refine congrArg Value.bool ?_
                  first | rfl | (exfalso; omega) | exact decide_eq_true (by omega)
              · refine Wl.off rfl rfl rfl ?_
                refine Wl.off rfl rfl rfl ?_
                refine Wl.off rfl rfl rfl ?_
                refine Wl.off rfl rfl rfl ?_
                refine Wl.pure (PR.pickFB rfl rfl) ?_
                refine Wl.pure (PR.moveB rfl) ?_
                refine Wl.off rfl rfl rfl ?_
                refine Wl.off rfl rfl rfl ?_
                refine Wl.pure (PR.pickFB rfl rfl) ?_
                refine Wl.pure (PR.moveB rfl) ?_
                refine Wl.off rfl rfl rfl ?_
                refine Wl.off rfl rfl rfl ?_
                refine Wl.off rfl rfl rfl ?_
                refine Wl.pure (PR.pickFB rfl rfl) ?_
                refine Wl.pure (PR.assB rfl) ?_
                refine Wl.nil ?_
                refine tn ?_
                refine Wc.ret ?_
                refine postL.tmp rfl rfl ?_
                refine RetV.of ?_ st.below
                refine congrArg Value.bool ?_
                first | rfl | (exfalso; omega) | exact decide_eq_true (by omega)
            · refine Wl.off rfl rfl rfl ?_
              refine Wl.pure (PR.pickFB rfl rfl) ?_
              refine Wl.pure (PR.moveB rfl) ?_
              refine Wl.off rfl rfl rfl ?_
              refine Wl.off rfl rfl rfl ?_
              refine Wl.off rfl rfl rfl ?_
              refine Wl.off rfl rfl rfl ?_
              refine Wl.off rfl rfl rfl ?_
              refine Wl.pure (PR.pickFB rfl rfl) ?_
              refine Wl.pure (PR.moveB rfl) ?_
              refine Wl.off rfl rfl rfl ?_
              refine Wl.off rfl rfl rfl ?_
              refine Wl.pure (PR.pickFB rfl rfl) ?_
              refine Wl.pure (PR.moveB rfl) ?_
              refine Wl.off rfl rfl rfl ?_
              refine Wl.off rfl rfl rfl ?_
              refine Wl.off rfl rfl rfl ?_
              refine Wl.pure (PR.pickFB rfl rfl) ?_
              refine Wl.pure (PR.assB rfl) ?_
              refine Wl.nil ?_
              refine tn ?_
              refine Wc.ret ?_
              refine postL.tmp rfl rfl ?_
              refine RetV.of ?_ st.below
              refine congrArg Value.bool ?_
              first | rfl | (exfalso; omega) | exact decide_eq_true (by omega)
          · refine Wl.off rfl rfl rfl ?_
            refine Wl.off rfl rfl rfl ?_
            refine Wl.pure (PR.pickFB rfl rfl) ?_
            refine Wl.pure (PR.moveB rfl) ?_
            refine Wl.off rfl rfl rfl ?_
            refine Wl.off rfl rfl rfl ?_
            refine Wl.pure (PR.pickFB rfl rfl) ?_
            refine Wl.pure (PR.moveB rfl) ?_
            refine Wl.off rfl rfl rfl ?_
            refine Wl.off rfl rfl rfl ?_
            refine Wl.off rfl rfl rfl ?_
            refine Wl.off rfl rfl rfl ?_
            refine Wl.off rfl rfl rfl ?_
            refine Wl.pure (PR.pickFB rfl rfl) ?_
            refine Wl.pure (PR.moveB rfl) ?_
            refine Wl.off rfl rfl rfl ?_
            refine Wl.off rfl rfl rfl ?_
            refine Wl.pure (PR.pickFB rfl rfl) ?_
            refine Wl.pure (PR.moveB rfl) ?_
            refine Wl.off rfl rfl rfl ?_
            refine Wl.off rfl rfl rfl ?_
            refine Wl.off rfl rfl rfl ?_
            refine Wl.pure (PR.pickFB rfl rfl) ?_
            refine Wl.pure (PR.assB rfl) ?_
            refine Wl.nil ?_
            refine tn ?_
            refine Wc.ret ?_
            refine postL.tmp rfl rfl ?_
            refine RetV.of ?_ st.below
            refine congrArg Value.bool ?_
            first | rfl | (exfalso; omega) | exact decide_eq_true (by omega)
        · refine Wl.off rfl rfl rfl ?_
          refine Wl.pure (PR.pickFB rfl rfl) ?_
          refine Wl.pure (PR.moveB rfl) ?_
          refine Wl.off rfl rfl rfl ?_
          refine Wl.off rfl rfl rfl ?_
          refine Wl.off rfl rfl rfl ?_
          refine Wl.pure (PR.pickFB rfl rfl) ?_
          refine Wl.pure (PR.moveB rfl) ?_
          refine Wl.off rfl rfl rfl ?_
          refine Wl.off rfl rfl rfl ?_
          refine Wl.pure (PR.pickFB rfl rfl) ?_
          refine Wl.pure (PR.moveB rfl) ?_
          refine Wl.off rfl rfl rfl ?_
          refine Wl.off rfl rfl rfl ?_
          refine Wl.off rfl rfl rfl ?_
          refine Wl.off rfl rfl rfl ?_
          refine Wl.off rfl rfl rfl ?_
          refine Wl.pure (PR.pickFB rfl rfl) ?_
          refine Wl.pure (PR.moveB rfl) ?_
          refine Wl.off rfl rfl rfl ?_
          refine Wl.off rfl rfl rfl ?_
          refine Wl.pure (PR.pickFB rfl rfl) ?_
          refine Wl.pure (PR.moveB rfl) ?_
          refine Wl.off rfl rfl rfl ?_
          refine Wl.off rfl rfl rfl ?_
          refine Wl.off rfl rfl rfl ?_
          refine Wl.pure (PR.pickFB rfl rfl) ?_
          refine Wl.pure (PR.assB rfl) ?_
          refine Wl.nil ?_
          refine tn ?_
          refine Wc.ret ?_
          refine postL.tmp rfl rfl ?_
          refine RetV.of ?_ st.below
          refine congrArg Value.bool ?_
          first | rfl | (exfalso; omega) | exact decide_eq_true (by omega)
      · refine Wl.off rfl rfl rfl ?_
        refine Wl.off rfl rfl rfl ?_
        refine Wl.pure (PR.pickFB rfl rfl) ?_
        refine Wl.pure (PR.moveB rfl) ?_
        refine Wl.off rfl rfl rfl ?_
        refine Wl.off rfl rfl rfl ?_
        refine Wl.pure (PR.pickFB rfl rfl) ?_
        refine Wl.pure (PR.moveB rfl) ?_
        refine Wl.off rfl rfl rfl ?_
        refine Wl.off rfl rfl rfl ?_
        refine Wl.off rfl rfl rfl ?_
        refine Wl.pure (PR.pickFB rfl rfl) ?_
        refine Wl.pure (PR.moveB rfl) ?_
        refine Wl.off rfl rfl rfl ?_
        refine Wl.off rfl rfl rfl ?_
        refine Wl.pure (PR.pickFB rfl rfl) ?_
        refine Wl.pure (PR.moveB rfl) ?_
        refine Wl.off rfl rfl rfl ?_
        refine Wl.off rfl rfl rfl ?_
        refine Wl.off rfl rfl rfl ?_
        refine Wl.off rfl rfl rfl ?_
        refine Wl.off rfl rfl rfl ?_
        refine Wl.pure (PR.pickFB rfl rfl) ?_
        refine Wl.pure (PR.moveB rfl) ?_
        refine Wl.off rfl rfl rfl ?_
        refine Wl.off rfl rfl rfl ?_
        refine Wl.pure (PR.pickFB rfl rfl) ?_
        refine Wl.pure (PR.moveB rfl) ?_
        refine Wl.off rfl rfl rfl ?_
        refine Wl.off rfl rfl rfl ?_
        refine Wl.off rfl rfl rfl ?_
        refine Wl.pure (PR.pickFB rfl rfl) ?_
        refine Wl.pure (PR.assB rfl) ?_
        refine Wl.nil ?_
        refine tn ?_
        refine Wc.ret ?_
        refine postL.tmp rfl rfl ?_
        refine RetV.of ?_ st.below
        refine congrArg Value.bool ?_
        first | rfl | (exfalso; omega) | exact decide_eq_true (by omega)
  · refine Wl.off rfl rfl rfl ?_
    refine Wl.pure (PR.pickTB rfl rfl) ?_
    refine Wl.nil ?_
    refine tn ?_
    refine Wc.condT rfl ?_
    refine Wc.seq ?_
    refine Wc.region rfl ?_
    refine Wl.pure (PR.assB rfl) ?_
    refine Wl.nil ?_
    refine tn ?_
    refine Wc.ret ?_
    refine tr ?_
    refine postL.tmp rfl rfl ?_
    exact RetV.of rfl st.below

end Go.Proofs.Ytajkjhjnbfcpfaa
