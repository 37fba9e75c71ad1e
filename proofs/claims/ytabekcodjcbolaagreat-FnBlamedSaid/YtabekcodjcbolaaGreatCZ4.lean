/-
  Contracts of functions, printed by a program of ours.
-/
import Derived.Test.YtabekcodjcbolaaGreatCZ3
namespace Go.Proofs.YtabekcodjcbolaaGreat
open Go.RowKit
set_option linter.unusedVariables false
set_option linter.unusedSimpArgs false

set_option maxHeartbeats 2000000 in
set_option maxRecDepth 4000 in
theorem c_laws_FnBlamed {A0 : Option Addr} {n0 : Nat} {cp0 : Nat} {c0 : Nat → Nat} {A1 : Option Addr} {n1 : Nat} {cp1 : Nat} {c1 : Nat → Nat} {w : World} (hn0 : n0 ≤ 9223372036854775807) (hR0 : RdS w A0 n0 (arrU .u8 n0 c0)) (hc0 : ∀ k, c0 k < 256) (hn1 : n1 ≤ 9223372036854775807) (hR1 : RdS w A1 n1 (arrU .u8 n1 c1)) (hc1 : ∀ k, c1 k < 256) :
    CE Tryz.prog 3 [.slice (A0) (n0) (cp0), .slice (A1) (n1) (cp1)] w (RetV w (.bool true)) := by
  refine CE.enter 373 [(0, .slice (A0) (n0) (cp0)), (1, .slice (A1) (n1) (cp1))] en_3 Tryz.func3 rfl rfl (Nat.le_of_ble_eq_true rfl) rfl ?_
  have st := St.start w
  refine Wc.seq ?_
  refine Wc.region rfl ?_
  refine Wl.pure (PR.assB rfl) ?_
  refine Wl.nil ?_
  refine tn ?_
  refine Wc.seq ?_
  refine Wc.seq ?_
  refine Wc.region rfl ?_
  refine Wl.pure (PR.moveL rfl) ?_
  refine Wl.callV (c_laws_f6big (A := A0) (n := n0) (cp := cp0) (by first | assumption | omega)) rfl ?_
  intro w1 hbel
  replace st := st.call hbel
  clear hbel
  refine Wl.pure (PR.moveB rfl) ?_
  refine Wl.splitF (q := (4096 : Int) < ((n0 : Nat) : Int)) rfl rfl (fun h2 => ?_) (fun h2 => ?_)
  · refine Wl.pure (PR.moveL rfl) ?_
    refine Wl.on rfl rfl ?_
    refine Wl.callV (c_laws_f6big (A := A1) (n := n1) (cp := cp1) (by first | assumption | omega)) rfl ?_
    intro w3 hbel
    replace st := st.call hbel
    clear hbel
    refine Wl.pure (PR.pickFB rfl rfl) ?_
    refine Wl.nil ?_
    refine tn ?_
    refine Wc.condD (p := (4096 : Int) < ((n1 : Nat) : Int)) rfl (fun h4 => ?_) (fun h4 => ?_)
    · refine Wc.seq ?_
      refine Wc.region rfl ?_
      refine Wl.pure (PR.assB rfl) ?_
      refine Wl.nil ?_
      refine tn ?_
      refine Wc.ret ?_
      refine tr ?_
      refine postL.tmp rfl rfl ?_
      exact RetV.of rfl st.below
    · refine Wc.skip ?_
      refine tn ?_
      refine Wc.seq ?_
      refine Wc.region rfl ?_
      refine Wl.pure (PR.moveL rfl) ?_
      refine Wl.callXE [] st (c_spec_P6Scheme (A := A0) (n := n0) (cp := cp0) (c := c0) (hR0.st st) hc0) rfl rfl ?_
      clear st
      rintro ⟨s__6, p__7, a__8, b__9⟩ ⟨hx_10, hx_11, hx_12, hx_13, hx_14⟩ w5 st
      try dsimp only at st hx_10 hx_11 hx_12 hx_13 hx_14
      replace st : St [] w w5 [] := st
      refine Wl.alloc st tZ_27 rfl ?_
      clear st
      intro b5 w15 st
      refine Wl.storeA (i := 0) (cs' := schV ((s__6 : Nat) : Int) ((p__7 : Nat) : Int) (a__8) (b__9)) st tA_27 rfl rfl schV_len schV_one rfl (le_of_len schV_len (by omega)) (all_put schV_len) ?_
      clear st
      intro w16 st
      replace st : St [] w w16 [(b5, schV ((s__6 : Nat) : Int) ((p__7 : Nat) : Int) (a__8) (b__9), 27)] := st
      refine Wl.nil ?_
      refine tn ?_
      refine Wc.seq ?_
      refine Wc.region rfl ?_
      refine Wl.pure (PR.moveL rfl) ?_
      refine Wl.callXE [] st (c_spec_P6Picture (A := A1) (n := n1) (cp := cp1) (c := c1) (hR1.st st) hc1) rfl rfl ?_
      clear st
      rintro p__18 hx_19 w17 st
      try dsimp only at st hx_19
      replace st : St [] w w17 [(b5, schV ((s__6 : Nat) : Int) ((p__7 : Nat) : Int) (a__8) (b__9), 27)] := st
      refine Wl.pure (PR.assI rfl) ?_
      refine Wl.nil ?_
      refine tn ?_
      refine Wc.seq ?_
      refine Wc.tree1 (w0 := w) (X := []) (Ks := [b5]) (S := fun i => i == 3 || i == 4) (.st 1 0 (.st 2 0 (.st 0 3 (.st 3 2 (.st 4 2 (.st 5 0 (.st 6 0 (.st 7 0 (.st 8 0 (.st 9 0 (.st 10 0 (.st 11 0 PT.nil)))))))))))) hmix (by kernel_rfl) (by kernel_rfl) rfl rfl ?_
      intro w20 hbel
      replace st := st.call hbel
      clear hbel
      refine WT.pure rfl (PR.moveI rfl) ?_
      refine WT.pure rfl (PR.moveL rfl) ?_
      refine WT.loadA (j := 0) rfl (by simp) st tA_27 rfl rfl (all_sub schV_len) schV_len ?_
      have st0 := st
      refine WT.s rfl rfl ?_
      refine Wl.callXE [] st (c_spec_P6Seed (A := A1) (n := n1) (cp := cp1) (c := c1) (hR1.st st) hc1) rfl rfl ?_
      clear st
      rintro x__22 hx_23 w21 st
      try dsimp only at st hx_23
      replace st : St [] w w21 [(b5, schV ((s__6 : Nat) : Int) ((p__7 : Nat) : Int) (a__8) (b__9), 27)] := st
      refine Wl.nil ⟨rfl, RK.of st0 st (ksC (i := 0) (j := 0) rfl rfl rfl ksN), ?_⟩
      clear st0
      have st0 := st
      refine WT.s rfl rfl ?_
      refine Wl.callXG [] st (c_spec_SharePicture (s := s__6) (p := p__7) (a := a__8) (b := b__9) (x := p__18) (sd := x__22) (by first | assumption | omega) (by first | assumption | omega) (by assumption) (by assumption) (by first | assumption | omega) (by first | assumption | omega) (by first | assumption | omega)) rfl rfl ?_
      clear st
      intro b60 c60 sp60 w24 hc60 hs60 st
      replace st : St [] w w24 [(b60, layS s__6 (fun _ => ((p__7 : Nat) : Int)) (dwC (shF a__8 b__9 p__18) p__7 x__22) ++ sp60, 50), (b5, schV ((s__6 : Nat) : Int) ((p__7 : Nat) : Int) (a__8) (b__9), 27)] := st
      refine Wl.nil ⟨rfl, RK.of st0 st (ksC (i := 0) (j := 1) rfl rfl rfl ksN), ?_⟩
      clear st0
      refine WT.pure rfl (PR.moveV (.tuple #[.slice (some ⟨b60, 0, none⟩) (s__6) (c60), .int .u32 (((sdK p__7 x__22 64 : Nat) : Int)), .int .i64 (0)]) rfl) ?_
      refine WT.pure rfl (PR.extr (i := 0) (vs := [.slice (some ⟨b60, 0, none⟩) (s__6) (c60), .int .u32 (((sdK p__7 x__22 64 : Nat) : Int)), .int .i64 (0)]) rfl rfl) ?_
      refine WT.pure rfl (PR.extr (i := 1) (vs := [.slice (some ⟨b60, 0, none⟩) (s__6) (c60), .int .u32 (((sdK p__7 x__22 64 : Nat) : Int)), .int .i64 (0)]) rfl rfl) ?_
      refine WT.pure rfl (PR.extr (i := 2) (vs := [.slice (some ⟨b60, 0, none⟩) (s__6) (c60), .int .u32 (((sdK p__7 x__22 64 : Nat) : Int)), .int .i64 (0)]) rfl rfl) ?_
      refine WT.pure rfl (PR.assL rfl) ?_
      refine WT.pure rfl (PR.assI rfl) ?_
      refine WT.pure rfl (PR.assI rfl) ?_
      refine WT.nil ?_
      refine tn ?_
      refine Wc.seq ?_
      have hok9 : schOk ((s__6 : Nat) : Int) ((p__7 : Nat) : Int) a__8 b__9 = true := by assumption
      have hC0 : ∀ r, r < s__6 → ∀ j, j < 64 → (dwC (shF a__8 b__9 p__18) p__7 x__22) r j < 2 ^ p__7 := fun r _ j _ => dw_pow (by omega)
      have hb0 : bothC ((s__6 : Nat) : Int) ((p__7 : Nat) : Int) a__8 b__9 s__6 (fun _ => ((p__7 : Nat) : Int)) (dwC (shF a__8 b__9 p__18) p__7 x__22) = 0 := both_rows hok9 hC0 (fun _ _ => rfl)
      have hw0 : pic (wrQ s__6 p__7 a__8 b__9 s__6 (dwC (shF a__8 b__9 p__18) p__7 x__22) p__18) = 0 := pic_0 (fun k _ => share_wr (by omega))
      have hg9 : ∀ i, i < s__6 → -128 ≤ (fun _ => ((p__7 : Nat) : Int)) i ∧ (fun _ => ((p__7 : Nat) : Int)) i ≤ 127 := fun i _ => by dsimp only; omega
      refine Wc.region rfl ?_
      refine Wl.loadA (i := 1) st tA_27 rfl rfl (all_sub schV_len) schV_len ?_
      refine Wl.pure (PR.moveI rfl) ?_
      refine Wl.pure (PR.moveL rfl) ?_
      refine Wl.callV (c_impl_WrongCells (s := ((s__6 : Nat) : Int)) (p := ((p__7 : Nat) : Int)) (a := a__8) (b := b__9) (x := p__18) (A := some ⟨b60, 0, none⟩) (n := s__6) (cp := c60) (y := (fun _ => ((p__7 : Nat) : Int))) (c := (dwC (shF a__8 b__9 p__18) p__7 x__22)) (by first | assumption | omega) (by first | assumption | omega) (by assumption) (by assumption) (by first | assumption | omega) ((st.rdA (i := 0) (n := (s__6 * 65)) rfl (app_all (recV_len (s := 65) (layS_row _ _) _))).sl) (by assumption) (dwC_lt _ _ _) (by first | assumption | omega)) rfl ?_
      intro w25 hbel
      replace st := st.call hbel
      clear hbel
      refine Wl.pure (PR.moveV (.tuple #[.int .u64 (((selN (bothC ((s__6 : Nat) : Int) ((p__7 : Nat) : Int) a__8 b__9 s__6 (fun _ => ((p__7 : Nat) : Int)) (dwC (shF a__8 b__9 p__18) p__7 x__22)) (pic (wrQ ((((s__6 : Nat) : Int)).toNat) ((((p__7 : Nat) : Int)).toNat) a__8 b__9 s__6 (dwC (shF a__8 b__9 p__18) p__7 x__22) p__18)) : Nat) : Int)), .int .i64 (((bothC ((s__6 : Nat) : Int) ((p__7 : Nat) : Int) a__8 b__9 s__6 (fun _ => ((p__7 : Nat) : Int)) (dwC (shF a__8 b__9 p__18) p__7 x__22) : Nat) : Int))]) rfl) ?_
      refine Wl.pure (PR.extr (i := 0) (vs := [.int .u64 (((selN (bothC ((s__6 : Nat) : Int) ((p__7 : Nat) : Int) a__8 b__9 s__6 (fun _ => ((p__7 : Nat) : Int)) (dwC (shF a__8 b__9 p__18) p__7 x__22)) (pic (wrQ ((((s__6 : Nat) : Int)).toNat) ((((p__7 : Nat) : Int)).toNat) a__8 b__9 s__6 (dwC (shF a__8 b__9 p__18) p__7 x__22) p__18)) : Nat) : Int)), .int .i64 (((bothC ((s__6 : Nat) : Int) ((p__7 : Nat) : Int) a__8 b__9 s__6 (fun _ => ((p__7 : Nat) : Int)) (dwC (shF a__8 b__9 p__18) p__7 x__22) : Nat) : Int))]) rfl rfl) ?_
      refine Wl.pure (PR.extr (i := 1) (vs := [.int .u64 (((selN (bothC ((s__6 : Nat) : Int) ((p__7 : Nat) : Int) a__8 b__9 s__6 (fun _ => ((p__7 : Nat) : Int)) (dwC (shF a__8 b__9 p__18) p__7 x__22)) (pic (wrQ ((((s__6 : Nat) : Int)).toNat) ((((p__7 : Nat) : Int)).toNat) a__8 b__9 s__6 (dwC (shF a__8 b__9 p__18) p__7 x__22) p__18)) : Nat) : Int)), .int .i64 (((bothC ((s__6 : Nat) : Int) ((p__7 : Nat) : Int) a__8 b__9 s__6 (fun _ => ((p__7 : Nat) : Int)) (dwC (shF a__8 b__9 p__18) p__7 x__22) : Nat) : Int))]) rfl rfl) ?_
      refine Wl.pure (PR.assI rfl) ?_
      refine Wl.pure (PR.assI rfl) ?_
      refine Wl.nil ?_
      refine tn ?_
      refine Wc.seq ?_
      refine Wc.region rfl ?_
      refine Wl.loadA (i := 1) st tA_27 rfl rfl (all_sub schV_len) schV_len ?_
      refine Wl.pure (PR.moveI rfl) ?_
      refine Wl.pure (PR.moveL rfl) ?_
      refine Wl.callV (c_impl_BlamedShares_f (s := ((s__6 : Nat) : Int)) (p := ((p__7 : Nat) : Int)) (a := a__8) (b := b__9) (x := p__18) (A := some ⟨b60, 0, none⟩) (n := s__6) (cp := c60) (y := (fun _ => ((p__7 : Nat) : Int))) (c := (dwC (shF a__8 b__9 p__18) p__7 x__22)) (by first | assumption | omega) (by first | assumption | omega) (by assumption) (by assumption) (by first | assumption | omega) ((st.rdA (i := 0) (n := (s__6 * 65)) rfl (app_all (recV_len (s := 65) (layS_row _ _) _))).sl) (by assumption) (dwC_lt _ _ _) (by first | assumption | omega) (fun h9 => absurd ((blC_4 hb0 hw0).symm.trans h9) (by decide))) rfl ?_
      intro w26 hbel
      replace st := st.call hbel
      clear hbel
      refine Wl.pure (PR.moveV (.tuple #[.slice (none) (0) (0), .int .i64 (((blC (bothC ((s__6 : Nat) : Int) ((p__7 : Nat) : Int) a__8 b__9 s__6 (fun _ => ((p__7 : Nat) : Int)) (dwC (shF a__8 b__9 p__18) p__7 x__22)) (pic (wrQ ((((s__6 : Nat) : Int)).toNat) ((((p__7 : Nat) : Int)).toNat) a__8 b__9 s__6 (dwC (shF a__8 b__9 p__18) p__7 x__22) p__18)) (flN (fun i_ => repOk ((((s__6 : Nat) : Int)).toNat) ((((p__7 : Nat) : Int)).toNat) a__8 b__9 s__6 (dwC (shF a__8 b__9 p__18) p__7 x__22) i_ p__18 (pic (wrQ ((((s__6 : Nat) : Int)).toNat) ((((p__7 : Nat) : Int)).toNat) a__8 b__9 s__6 (dwC (shF a__8 b__9 p__18) p__7 x__22) p__18))) (((s__6 : Nat) : Int)).toNat) : Nat) : Int))]) rfl) ?_
      refine Wl.pure (PR.extr (i := 0) (vs := [.slice (none) (0) (0), .int .i64 (((blC (bothC ((s__6 : Nat) : Int) ((p__7 : Nat) : Int) a__8 b__9 s__6 (fun _ => ((p__7 : Nat) : Int)) (dwC (shF a__8 b__9 p__18) p__7 x__22)) (pic (wrQ ((((s__6 : Nat) : Int)).toNat) ((((p__7 : Nat) : Int)).toNat) a__8 b__9 s__6 (dwC (shF a__8 b__9 p__18) p__7 x__22) p__18)) (flN (fun i_ => repOk ((((s__6 : Nat) : Int)).toNat) ((((p__7 : Nat) : Int)).toNat) a__8 b__9 s__6 (dwC (shF a__8 b__9 p__18) p__7 x__22) i_ p__18 (pic (wrQ ((((s__6 : Nat) : Int)).toNat) ((((p__7 : Nat) : Int)).toNat) a__8 b__9 s__6 (dwC (shF a__8 b__9 p__18) p__7 x__22) p__18))) (((s__6 : Nat) : Int)).toNat) : Nat) : Int))]) rfl rfl) ?_
      refine Wl.pure (PR.extr (i := 1) (vs := [.slice (none) (0) (0), .int .i64 (((blC (bothC ((s__6 : Nat) : Int) ((p__7 : Nat) : Int) a__8 b__9 s__6 (fun _ => ((p__7 : Nat) : Int)) (dwC (shF a__8 b__9 p__18) p__7 x__22)) (pic (wrQ ((((s__6 : Nat) : Int)).toNat) ((((p__7 : Nat) : Int)).toNat) a__8 b__9 s__6 (dwC (shF a__8 b__9 p__18) p__7 x__22) p__18)) (flN (fun i_ => repOk ((((s__6 : Nat) : Int)).toNat) ((((p__7 : Nat) : Int)).toNat) a__8 b__9 s__6 (dwC (shF a__8 b__9 p__18) p__7 x__22) i_ p__18 (pic (wrQ ((((s__6 : Nat) : Int)).toNat) ((((p__7 : Nat) : Int)).toNat) a__8 b__9 s__6 (dwC (shF a__8 b__9 p__18) p__7 x__22) p__18))) (((s__6 : Nat) : Int)).toNat) : Nat) : Int))]) rfl rfl) ?_
      refine Wl.pure (PR.assL rfl) ?_
      refine Wl.pure (PR.assI rfl) ?_
      refine Wl.nil ?_
      refine tn ?_
      refine Wc.seq ?_
      refine Wc.region rfl ?_
      refine Wl.pure (PR.moveL rfl) ?_
      refine Wl.pure (PR.fieldAddr tF_27_0 rfl) ?_
      refine Wl.load (i := 1) st tA_24 rfl rfl (rfl) ?_
      refine Wl.pure (PR.conv (n := ((s__6 : Nat) : Int)) tI_2 rfl (by simp only [fitI]; omega) Tryz.underlying24) ?_
      refine Wl.callXE [] st (c_spec_P6Pick (A := A0) (n := n0) (cp := cp0) (c := c0) (m := s__6) (hR0.st st) hc0 (by first | assumption | omega)) rfl rfl ?_
      clear st
      rintro v__28 hx_29 w27 st
      try dsimp only at st hx_29
      replace st : St [] w w27 [(b60, layS s__6 (fun _ => ((p__7 : Nat) : Int)) (dwC (shF a__8 b__9 p__18) p__7 x__22) ++ sp60, 50), (b5, schV ((s__6 : Nat) : Int) ((p__7 : Nat) : Int) (a__8) (b__9), 27)] := st
      refine Wl.pure (PR.assI rfl) ?_
      refine Wl.nil ?_
      refine tn ?_
      refine Wc.seq ?_
      have hi9 : v__28 < s__6 := by omega
      have hs0 : shC ((s__6 : Nat) : Int) ((p__7 : Nat) : Int) a__8 b__9 s__6 (fun _ => ((p__7 : Nat) : Int)) (dwC (shF a__8 b__9 p__18) p__7 x__22) ((v__28 : Nat) : Int) = 0 := shC_0 hb0 (by omega)
      refine Wc.region rfl ?_
      refine Wl.loadA (i := 1) st tA_27 rfl rfl (all_sub schV_len) schV_len ?_
      refine Wl.pure (PR.moveL rfl) ?_
      refine Wl.pure (PR.moveI rfl) ?_
      refine Wl.pure (PR.moveI rfl) ?_
      refine Wl.callV (c_impl_SureCells (s := ((s__6 : Nat) : Int)) (p := ((p__7 : Nat) : Int)) (a := a__8) (b := b__9) (A := some ⟨b60, 0, none⟩) (n := s__6) (cp := c60) (y := (fun _ => ((p__7 : Nat) : Int))) (c := (dwC (shF a__8 b__9 p__18) p__7 x__22)) (z := ((v__28 : Nat) : Int)) (x := p__18) (by first | assumption | omega) (by first | assumption | omega) (by assumption) (by assumption) ((st.rdA (i := 0) (n := (s__6 * 65)) rfl (app_all (recV_len (s := 65) (layS_row _ _) _))).sl) (by assumption) (dwC_lt _ _ _) (by first | assumption | omega) (by first | assumption | omega)) rfl ?_
      intro w30 hbel
      replace st := st.call hbel
      clear hbel
      refine Wl.pure (PR.moveV (.tuple #[.int .u64 (((selN (shC ((s__6 : Nat) : Int) ((p__7 : Nat) : Int) a__8 b__9 s__6 (fun _ => ((p__7 : Nat) : Int)) (dwC (shF a__8 b__9 p__18) p__7 x__22) ((v__28 : Nat) : Int)) (pic (sureQ ((((s__6 : Nat) : Int)).toNat) ((((p__7 : Nat) : Int)).toNat) a__8 b__9 s__6 (dwC (shF a__8 b__9 p__18) p__7 x__22) ((((v__28 : Nat) : Int)).toNat) p__18)) : Nat) : Int)), .int .i64 (((shC ((s__6 : Nat) : Int) ((p__7 : Nat) : Int) a__8 b__9 s__6 (fun _ => ((p__7 : Nat) : Int)) (dwC (shF a__8 b__9 p__18) p__7 x__22) ((v__28 : Nat) : Int) : Nat) : Int))]) rfl) ?_
      refine Wl.pure (PR.extr (i := 0) (vs := [.int .u64 (((selN (shC ((s__6 : Nat) : Int) ((p__7 : Nat) : Int) a__8 b__9 s__6 (fun _ => ((p__7 : Nat) : Int)) (dwC (shF a__8 b__9 p__18) p__7 x__22) ((v__28 : Nat) : Int)) (pic (sureQ ((((s__6 : Nat) : Int)).toNat) ((((p__7 : Nat) : Int)).toNat) a__8 b__9 s__6 (dwC (shF a__8 b__9 p__18) p__7 x__22) ((((v__28 : Nat) : Int)).toNat) p__18)) : Nat) : Int)), .int .i64 (((shC ((s__6 : Nat) : Int) ((p__7 : Nat) : Int) a__8 b__9 s__6 (fun _ => ((p__7 : Nat) : Int)) (dwC (shF a__8 b__9 p__18) p__7 x__22) ((v__28 : Nat) : Int) : Nat) : Int))]) rfl rfl) ?_
      refine Wl.pure (PR.extr (i := 1) (vs := [.int .u64 (((selN (shC ((s__6 : Nat) : Int) ((p__7 : Nat) : Int) a__8 b__9 s__6 (fun _ => ((p__7 : Nat) : Int)) (dwC (shF a__8 b__9 p__18) p__7 x__22) ((v__28 : Nat) : Int)) (pic (sureQ ((((s__6 : Nat) : Int)).toNat) ((((p__7 : Nat) : Int)).toNat) a__8 b__9 s__6 (dwC (shF a__8 b__9 p__18) p__7 x__22) ((((v__28 : Nat) : Int)).toNat) p__18)) : Nat) : Int)), .int .i64 (((shC ((s__6 : Nat) : Int) ((p__7 : Nat) : Int) a__8 b__9 s__6 (fun _ => ((p__7 : Nat) : Int)) (dwC (shF a__8 b__9 p__18) p__7 x__22) ((v__28 : Nat) : Int) : Nat) : Int))]) rfl rfl) ?_
      refine Wl.pure (PR.assI rfl) ?_
      refine Wl.pure (PR.assI rfl) ?_
      refine Wl.nil ?_
      refine tn ?_
      refine Wc.seq ?_
      refine Wc.region rfl ?_
      refine Wl.loadA (i := 1) st tA_27 rfl rfl (all_sub schV_len) schV_len ?_
      refine Wl.pure (PR.moveL rfl) ?_
      refine Wl.pure (PR.moveI rfl) ?_
      refine Wl.pure (PR.moveI rfl) ?_
      refine Wl.callV (c_spec_SureCells (s := ((s__6 : Nat) : Int)) (p := ((p__7 : Nat) : Int)) (a := a__8) (b := b__9) (A := some ⟨b60, 0, none⟩) (n := s__6) (cp := c60) (y := (fun _ => ((p__7 : Nat) : Int))) (c := (dwC (shF a__8 b__9 p__18) p__7 x__22)) (z := ((v__28 : Nat) : Int)) (x := p__18) (by first | assumption | omega) (by first | assumption | omega) (by assumption) (by assumption) ((st.rdA (i := 0) (n := (s__6 * 65)) rfl (app_all (recV_len (s := 65) (layS_row _ _) _))).sl) (by assumption) (dwC_lt _ _ _) (by first | assumption | omega) (by first | assumption | omega)) rfl ?_
      intro w31 hbel
      replace st := st.call hbel
      clear hbel
      refine Wl.pure (PR.moveV (.tuple #[.int .u64 (((selN (shC ((s__6 : Nat) : Int) ((p__7 : Nat) : Int) a__8 b__9 s__6 (fun _ => ((p__7 : Nat) : Int)) (dwC (shF a__8 b__9 p__18) p__7 x__22) ((v__28 : Nat) : Int)) (pic (sureQ ((((s__6 : Nat) : Int)).toNat) ((((p__7 : Nat) : Int)).toNat) a__8 b__9 s__6 (dwC (shF a__8 b__9 p__18) p__7 x__22) ((((v__28 : Nat) : Int)).toNat) p__18)) : Nat) : Int)), .int .i64 (((shC ((s__6 : Nat) : Int) ((p__7 : Nat) : Int) a__8 b__9 s__6 (fun _ => ((p__7 : Nat) : Int)) (dwC (shF a__8 b__9 p__18) p__7 x__22) ((v__28 : Nat) : Int) : Nat) : Int))]) rfl) ?_
      refine Wl.pure (PR.extr (i := 0) (vs := [.int .u64 (((selN (shC ((s__6 : Nat) : Int) ((p__7 : Nat) : Int) a__8 b__9 s__6 (fun _ => ((p__7 : Nat) : Int)) (dwC (shF a__8 b__9 p__18) p__7 x__22) ((v__28 : Nat) : Int)) (pic (sureQ ((((s__6 : Nat) : Int)).toNat) ((((p__7 : Nat) : Int)).toNat) a__8 b__9 s__6 (dwC (shF a__8 b__9 p__18) p__7 x__22) ((((v__28 : Nat) : Int)).toNat) p__18)) : Nat) : Int)), .int .i64 (((shC ((s__6 : Nat) : Int) ((p__7 : Nat) : Int) a__8 b__9 s__6 (fun _ => ((p__7 : Nat) : Int)) (dwC (shF a__8 b__9 p__18) p__7 x__22) ((v__28 : Nat) : Int) : Nat) : Int))]) rfl rfl) ?_
      refine Wl.pure (PR.extr (i := 1) (vs := [.int .u64 (((selN (shC ((s__6 : Nat) : Int) ((p__7 : Nat) : Int) a__8 b__9 s__6 (fun _ => ((p__7 : Nat) : Int)) (dwC (shF a__8 b__9 p__18) p__7 x__22) ((v__28 : Nat) : Int)) (pic (sureQ ((((s__6 : Nat) : Int)).toNat) ((((p__7 : Nat) : Int)).toNat) a__8 b__9 s__6 (dwC (shF a__8 b__9 p__18) p__7 x__22) ((((v__28 : Nat) : Int)).toNat) p__18)) : Nat) : Int)), .int .i64 (((shC ((s__6 : Nat) : Int) ((p__7 : Nat) : Int) a__8 b__9 s__6 (fun _ => ((p__7 : Nat) : Int)) (dwC (shF a__8 b__9 p__18) p__7 x__22) ((v__28 : Nat) : Int) : Nat) : Int))]) rfl rfl) ?_
      refine Wl.pure (PR.assI rfl) ?_
      refine Wl.pure (PR.assI rfl) ?_
      refine Wl.nil ?_
      refine tn ?_
      refine Wc.seq ?_
      refine Wc.seq ?_
      rw [show (blC (bothC ((s__6 : Nat) : Int) ((p__7 : Nat) : Int) a__8 b__9 s__6 (fun _ => ((p__7 : Nat) : Int)) (dwC (shF a__8 b__9 p__18) p__7 x__22)) (pic (wrQ ((((s__6 : Nat) : Int)).toNat) ((((p__7 : Nat) : Int)).toNat) a__8 b__9 s__6 (dwC (shF a__8 b__9 p__18) p__7 x__22) p__18)) (flN (fun i_ => repOk ((((s__6 : Nat) : Int)).toNat) ((((p__7 : Nat) : Int)).toNat) a__8 b__9 s__6 (dwC (shF a__8 b__9 p__18) p__7 x__22) i_ p__18 (pic (wrQ ((((s__6 : Nat) : Int)).toNat) ((((p__7 : Nat) : Int)).toNat) a__8 b__9 s__6 (dwC (shF a__8 b__9 p__18) p__7 x__22) p__18))) (((s__6 : Nat) : Int)).toNat)) = 4 from (blC_4 hb0 hw0)]
      rw [show (selN (bothC ((s__6 : Nat) : Int) ((p__7 : Nat) : Int) a__8 b__9 s__6 (fun _ => ((p__7 : Nat) : Int)) (dwC (shF a__8 b__9 p__18) p__7 x__22)) (pic (wrQ ((((s__6 : Nat) : Int)).toNat) ((((p__7 : Nat) : Int)).toNat) a__8 b__9 s__6 (dwC (shF a__8 b__9 p__18) p__7 x__22) p__18))) = 0 from ((selN_0 hb0).trans hw0)]
      rw [show (bothC ((s__6 : Nat) : Int) ((p__7 : Nat) : Int) a__8 b__9 s__6 (fun _ => ((p__7 : Nat) : Int)) (dwC (shF a__8 b__9 p__18) p__7 x__22)) = 0 from hb0]
      rw [show (selN (shC ((s__6 : Nat) : Int) ((p__7 : Nat) : Int) a__8 b__9 s__6 (fun _ => ((p__7 : Nat) : Int)) (dwC (shF a__8 b__9 p__18) p__7 x__22) ((v__28 : Nat) : Int)) (pic (sureQ ((((s__6 : Nat) : Int)).toNat) ((((p__7 : Nat) : Int)).toNat) a__8 b__9 s__6 (dwC (shF a__8 b__9 p__18) p__7 x__22) ((((v__28 : Nat) : Int)).toNat) p__18))) = pic (sureQ s__6 p__7 a__8 b__9 s__6 (dwC (shF a__8 b__9 p__18) p__7 x__22) v__28 p__18) from (selN_0 hs0)]
      rw [show (shC ((s__6 : Nat) : Int) ((p__7 : Nat) : Int) a__8 b__9 s__6 (fun _ => ((p__7 : Nat) : Int)) (dwC (shF a__8 b__9 p__18) p__7 x__22) ((v__28 : Nat) : Int)) = 0 from hs0]
      refine Wc.region rfl ?_
      refine Wl.pure (PR.moveI rfl) ?_
      refine Wl.pure (PR.neqS (a := 0) rfl rfl) ?_
      refine Wl.pure (PR.moveB rfl) ?_
      refine Wl.on rfl rfl ?_
      refine Wl.pure (PR.moveI rfl) ?_
      refine Wl.on rfl rfl ?_
      refine Wl.pure (PR.neqS (a := 0) rfl rfl) ?_
      refine Wl.pure (PR.pickFB rfl rfl) ?_
      refine Wl.pure (PR.moveB rfl) ?_
      refine Wl.on rfl rfl ?_
      refine Wl.pure (PR.moveI rfl) ?_
      refine Wl.on rfl rfl ?_
      refine Wl.pure (PR.neqS (a := 0) rfl rfl) ?_
      refine Wl.pure (PR.pickFB rfl rfl) ?_
      refine Wl.pure (PR.moveB rfl) ?_
      refine Wl.on rfl rfl ?_
      refine Wl.pure (PR.moveI rfl) ?_
      refine Wl.on rfl rfl ?_
      refine Wl.pure (PR.neqS (a := 4) rfl rfl) ?_
      refine Wl.pure (PR.pickFB rfl rfl) ?_
      refine Wl.pure (PR.moveB rfl) ?_
      refine Wl.on rfl rfl ?_
      refine Wl.pure (PR.moveI rfl) ?_
      refine Wl.on rfl rfl ?_
      refine Wl.pure (PR.moveI rfl) ?_
      refine Wl.on rfl rfl ?_
      refine Wl.pure (PR.neqS (a := 0) rfl rfl) ?_
      refine Wl.pure (PR.pickFB rfl rfl) ?_
      refine Wl.pure (PR.moveB rfl) ?_
      refine Wl.on rfl rfl ?_
      refine Wl.pure (PR.moveI rfl) ?_
      refine Wl.on rfl rfl ?_
      refine Wl.pure (PR.neqS (a := 0) rfl rfl) ?_
      refine Wl.pure (PR.pickFB rfl rfl) ?_
      refine Wl.pure (PR.moveB rfl) ?_
      refine Wl.on rfl rfl ?_
      refine Wl.pure (PR.moveI rfl) ?_
      refine Wl.on rfl rfl ?_
      refine Wl.pure (PR.moveI rfl) ?_
      refine Wl.on rfl rfl ?_
      refine Wl.pure (PR.neqS (a := ((pic (sureQ s__6 p__7 a__8 b__9 s__6 (dwC (shF a__8 b__9 p__18) p__7 x__22) v__28 p__18) : Nat) : Int)) rfl rfl) ?_
      refine Wl.pure (PR.pickFB rfl rfl) ?_
      refine Wl.nil ?_
      refine tn ?_
      refine Wc.condF rfl ?_
      refine Wc.skip ?_
      refine tn ?_
      refine Wc.seq ?_
      refine Wc.seq ?_
      refine Wc.region rfl ?_
      refine Wl.pure (PR.assI rfl) ?_
      refine Wl.nil ?_
      refine tn ?_
      refine Wc.block ?_
      refine Wc.loopF (γ := Nat) (fun g => [(0, .slice (A0) (n0) (cp0)), (1, .slice (A1) (n1) (cp1)), (5, .pointer (some ⟨b5, 0, none⟩)), (6, .int .u64 (((p__18 : Nat) : Int))), (7, .slice (some ⟨b60, 0, none⟩) (s__6) (c60)), (14, .int .i64 (((v__28 : Nat) : Int))), (17, .int .u64 (((pic (sureQ s__6 p__7 a__8 b__9 s__6 (dwC (shF a__8 b__9 p__18) p__7 x__22) v__28 p__18) : Nat) : Int))), (19, .int .i64 (((g : Nat) : Int)))]) (fun g w_ => St [] w w_ [(b60, layS s__6 (fun _ => ((p__7 : Nat) : Int)) (dwC (shF a__8 b__9 p__18) p__7 x__22) ++ sp60, 50), (b5, schV ((s__6 : Nat) : Int) ((p__7 : Nat) : Int) (a__8) (b__9), 27)] ∧ (g ≤ 70)) (fun g => 70 - g) ?_ ?_
      · exact ⟨0, (.cons rfl (.cons rfl (.cons rfl (.cons rfl (.cons rfl (.cons rfl (.cons rfl (.cons rfl (.nil _))))))))), st, (by first | omega | (dsimp only; omega))⟩
      clear st
      rintro k w32 ⟨st, hk⟩
      try dsimp only at st hk ⊢
      refine Wc.seq ?_
      refine Wc.seq ?_
      refine Wc.region rfl ?_
      refine Wl.pure (PR.moveI rfl) ?_
      refine Wl.pure (PR.lss (a := ((k : Nat) : Int)) (b := 64) rfl rfl) ?_
      refine Wl.nil ?_
      refine tn ?_
      refine Wc.condD (p := ((k : Nat) : Int) < 64) rfl (fun h33 => ?_) (fun h33 => ?_)
      · refine Wc.skip ?_
        refine tn ?_
        refine Wc.seq ?_
        refine Wc.block ?_
        refine Wc.seq ?_
        refine Wc.tree1 (w0 := w) (X := []) (Ks := [b5]) (S := fun i => i == 5 || i == 7) (.st 1 0 (.st 2 0 (.st 3 0 (.st 4 0 (.st 6 0 (.st 0 3 (.st 5 2 (.st 7 2 (.st 8 0 (.st 9 0 (.st 10 0 (.st 11 0 (.st 12 0 PT.nil))))))))))))) hmix (by kernel_rfl) (by kernel_rfl) rfl rfl ?_
        intro w34 hbel
        replace st := st.call hbel
        clear hbel
        refine WT.pure rfl (PR.moveL rfl) ?_
        refine WT.pure rfl (PR.moveI rfl) ?_
        refine WT.pure rfl (PR.moveI rfl) ?_
        refine WT.pure rfl (PR.moveI rfl) ?_
        refine WT.pure rfl (PR.moveI rfl) ?_
        refine WT.loadA (j := 1) rfl (by simp) st tA_27 rfl rfl (all_sub schV_len) schV_len ?_
        have st0 := st
        refine WT.s rfl rfl ?_
        refine Wl.callV (c_spec_IsBlack (x := p__18) (k := k) (by first | assumption | omega) (by first | assumption | omega)) rfl ?_
        intro w35 hbel
        replace st := st.call hbel
        clear hbel
        refine Wl.nil ⟨rfl, RK.of st0 st (ksC (i := 1) (j := 1) rfl rfl rfl ksN), ?_⟩
        clear st0
        have hp9 : pcC ((s__6 : Nat) : Int) ((p__7 : Nat) : Int) a__8 b__9 s__6 (fun _ => ((p__7 : Nat) : Int)) (dwC (shF a__8 b__9 p__18) p__7 x__22) ((v__28 : Nat) : Int) ((k : Nat) : Int) = 0 := pcC_0 hs0 (by omega)
        have st0 := st
        refine WT.s rfl rfl ?_
        refine Wl.callXG [] st (c_impl_PossibleCells_t (s := ((s__6 : Nat) : Int)) (p := ((p__7 : Nat) : Int)) (a := a__8) (b := b__9) (A := some ⟨b60, 0, none⟩) (n := s__6) (cp := c60) (y := (fun _ => ((p__7 : Nat) : Int))) (c := (dwC (shF a__8 b__9 p__18) p__7 x__22)) (z := ((v__28 : Nat) : Int)) (q := (bitB p__18 k)) (t := ((k : Nat) : Int)) (by first | assumption | omega) (by first | assumption | omega) (by assumption) (by assumption) ((st.rdA (i := 0) (n := (s__6 * 65)) rfl (app_all (recV_len (s := 65) (layS_row _ _) _))).sl) (by assumption) (dwC_lt _ _ _) (by first | assumption | omega) hp9) rfl rfl ?_
        clear st
        intro b139 c139 sp139 w36 hc139 hs139 st
        replace st : St [] w w36 [(b139, arrU .u8 (flN (possQ ((((s__6 : Nat) : Int)).toNat) ((((p__7 : Nat) : Int)).toNat) a__8 b__9 s__6 (dwC (shF a__8 b__9 p__18) p__7 x__22) ((((v__28 : Nat) : Int)).toNat) (bitB p__18 k) ((((k : Nat) : Int)).toNat)) (1 <<< ((((p__7 : Nat) : Int)).toNat))) (flA (possQ ((((s__6 : Nat) : Int)).toNat) ((((p__7 : Nat) : Int)).toNat) a__8 b__9 s__6 (dwC (shF a__8 b__9 p__18) p__7 x__22) ((((v__28 : Nat) : Int)).toNat) (bitB p__18 k) ((((k : Nat) : Int)).toNat)) (1 <<< ((((p__7 : Nat) : Int)).toNat))) ++ sp139, 5), (b60, layS s__6 (fun _ => ((p__7 : Nat) : Int)) (dwC (shF a__8 b__9 p__18) p__7 x__22) ++ sp60, 50), (b5, schV ((s__6 : Nat) : Int) ((p__7 : Nat) : Int) (a__8) (b__9), 27)] := st
        refine Wl.nil ⟨rfl, RK.of st0 st (ksC (i := 1) (j := 2) rfl rfl rfl ksN), ?_⟩
        clear st0
        refine WT.pure rfl (PR.moveV (.tuple #[.slice (some ⟨b139, 0, none⟩) ((flN (possQ ((((s__6 : Nat) : Int)).toNat) ((((p__7 : Nat) : Int)).toNat) a__8 b__9 s__6 (dwC (shF a__8 b__9 p__18) p__7 x__22) ((((v__28 : Nat) : Int)).toNat) (bitB p__18 k) ((((k : Nat) : Int)).toNat)) (1 <<< ((((p__7 : Nat) : Int)).toNat)))) (c139), .int .i64 (0)]) rfl) ?_
        refine WT.pure rfl (PR.extr (i := 0) (vs := [.slice (some ⟨b139, 0, none⟩) ((flN (possQ ((((s__6 : Nat) : Int)).toNat) ((((p__7 : Nat) : Int)).toNat) a__8 b__9 s__6 (dwC (shF a__8 b__9 p__18) p__7 x__22) ((((v__28 : Nat) : Int)).toNat) (bitB p__18 k) ((((k : Nat) : Int)).toNat)) (1 <<< ((((p__7 : Nat) : Int)).toNat)))) (c139), .int .i64 (0)]) rfl rfl) ?_
        refine WT.pure rfl (PR.extr (i := 1) (vs := [.slice (some ⟨b139, 0, none⟩) ((flN (possQ ((((s__6 : Nat) : Int)).toNat) ((((p__7 : Nat) : Int)).toNat) a__8 b__9 s__6 (dwC (shF a__8 b__9 p__18) p__7 x__22) ((((v__28 : Nat) : Int)).toNat) (bitB p__18 k) ((((k : Nat) : Int)).toNat)) (1 <<< ((((p__7 : Nat) : Int)).toNat)))) (c139), .int .i64 (0)]) rfl rfl) ?_
        refine WT.pure rfl (PR.assL rfl) ?_
        refine WT.pure rfl (PR.assI rfl) ?_
        refine WT.nil ?_
        refine tn ?_
        refine Wc.seq ?_
        refine Wc.tree1 (w0 := w) (X := []) (Ks := [b5]) (S := fun i => i == 5 || i == 7) (.st 1 0 (.st 2 0 (.st 3 0 (.st 4 0 (.st 6 0 (.st 0 3 (.st 5 2 (.st 7 2 (.st 8 0 (.st 9 0 (.st 10 0 (.st 11 0 (.st 12 0 PT.nil))))))))))))) hmix (by kernel_rfl) (by kernel_rfl) rfl rfl ?_
        intro w37 hbel
        replace st := st.call hbel
        clear hbel
        refine WT.pure rfl (PR.moveL rfl) ?_
        refine WT.pure rfl (PR.moveI rfl) ?_
        refine WT.pure rfl (PR.moveI rfl) ?_
        refine WT.pure rfl (PR.moveI rfl) ?_
        refine WT.pure rfl (PR.moveI rfl) ?_
        refine WT.loadA (j := 2) rfl (by simp) st tA_27 rfl rfl (all_sub schV_len) schV_len ?_
        have st0 := st
        refine WT.s rfl rfl ?_
        refine Wl.callV (c_spec_IsBlack (x := p__18) (k := k) (by first | assumption | omega) (by first | assumption | omega)) rfl ?_
        intro w38 hbel
        replace st := st.call hbel
        clear hbel
        refine Wl.nil ⟨rfl, RK.of st0 st (ksC (i := 2) (j := 2) rfl rfl rfl ksN), ?_⟩
        clear st0
        have hp9 : pcC ((s__6 : Nat) : Int) ((p__7 : Nat) : Int) a__8 b__9 s__6 (fun _ => ((p__7 : Nat) : Int)) (dwC (shF a__8 b__9 p__18) p__7 x__22) ((v__28 : Nat) : Int) ((k : Nat) : Int) = 0 := pcC_0 hs0 (by omega)
        have st0 := st
        refine WT.s rfl rfl ?_
        refine Wl.callXG [] st (c_spec_PossibleCells_t (s := ((s__6 : Nat) : Int)) (p := ((p__7 : Nat) : Int)) (a := a__8) (b := b__9) (A := some ⟨b60, 0, none⟩) (n := s__6) (cp := c60) (y := (fun _ => ((p__7 : Nat) : Int))) (c := (dwC (shF a__8 b__9 p__18) p__7 x__22)) (z := ((v__28 : Nat) : Int)) (q := (bitB p__18 k)) (t := ((k : Nat) : Int)) (by first | assumption | omega) (by first | assumption | omega) (by assumption) (by assumption) ((st.rdA (i := 1) (n := (s__6 * 65)) rfl (app_all (recV_len (s := 65) (layS_row _ _) _))).sl) (by assumption) (dwC_lt _ _ _) (by first | assumption | omega) hp9) rfl rfl ?_
        clear st
        intro b150 c150 sp150 w39 hc150 hs150 st
        replace st : St [] w w39 [(b150, arrU .u8 (flN (possQ ((((s__6 : Nat) : Int)).toNat) ((((p__7 : Nat) : Int)).toNat) a__8 b__9 s__6 (dwC (shF a__8 b__9 p__18) p__7 x__22) ((((v__28 : Nat) : Int)).toNat) (bitB p__18 k) ((((k : Nat) : Int)).toNat)) (1 <<< ((((p__7 : Nat) : Int)).toNat))) (flA (possQ ((((s__6 : Nat) : Int)).toNat) ((((p__7 : Nat) : Int)).toNat) a__8 b__9 s__6 (dwC (shF a__8 b__9 p__18) p__7 x__22) ((((v__28 : Nat) : Int)).toNat) (bitB p__18 k) ((((k : Nat) : Int)).toNat)) (1 <<< ((((p__7 : Nat) : Int)).toNat))) ++ sp150, 5), (b139, arrU .u8 (flN (possQ ((((s__6 : Nat) : Int)).toNat) ((((p__7 : Nat) : Int)).toNat) a__8 b__9 s__6 (dwC (shF a__8 b__9 p__18) p__7 x__22) ((((v__28 : Nat) : Int)).toNat) (bitB p__18 k) ((((k : Nat) : Int)).toNat)) (1 <<< ((((p__7 : Nat) : Int)).toNat))) (flA (possQ ((((s__6 : Nat) : Int)).toNat) ((((p__7 : Nat) : Int)).toNat) a__8 b__9 s__6 (dwC (shF a__8 b__9 p__18) p__7 x__22) ((((v__28 : Nat) : Int)).toNat) (bitB p__18 k) ((((k : Nat) : Int)).toNat)) (1 <<< ((((p__7 : Nat) : Int)).toNat))) ++ sp139, 5), (b60, layS s__6 (fun _ => ((p__7 : Nat) : Int)) (dwC (shF a__8 b__9 p__18) p__7 x__22) ++ sp60, 50), (b5, schV ((s__6 : Nat) : Int) ((p__7 : Nat) : Int) (a__8) (b__9), 27)] := st
        refine Wl.nil ⟨rfl, RK.of st0 st (ksC (i := 2) (j := 3) rfl rfl rfl ksN), ?_⟩
        clear st0
        refine WT.pure rfl (PR.moveV (.tuple #[.slice (some ⟨b150, 0, none⟩) ((flN (possQ ((((s__6 : Nat) : Int)).toNat) ((((p__7 : Nat) : Int)).toNat) a__8 b__9 s__6 (dwC (shF a__8 b__9 p__18) p__7 x__22) ((((v__28 : Nat) : Int)).toNat) (bitB p__18 k) ((((k : Nat) : Int)).toNat)) (1 <<< ((((p__7 : Nat) : Int)).toNat)))) (c150), .int .i64 (0)]) rfl) ?_
        refine WT.pure rfl (PR.extr (i := 0) (vs := [.slice (some ⟨b150, 0, none⟩) ((flN (possQ ((((s__6 : Nat) : Int)).toNat) ((((p__7 : Nat) : Int)).toNat) a__8 b__9 s__6 (dwC (shF a__8 b__9 p__18) p__7 x__22) ((((v__28 : Nat) : Int)).toNat) (bitB p__18 k) ((((k : Nat) : Int)).toNat)) (1 <<< ((((p__7 : Nat) : Int)).toNat)))) (c150), .int .i64 (0)]) rfl rfl) ?_
        refine WT.pure rfl (PR.extr (i := 1) (vs := [.slice (some ⟨b150, 0, none⟩) ((flN (possQ ((((s__6 : Nat) : Int)).toNat) ((((p__7 : Nat) : Int)).toNat) a__8 b__9 s__6 (dwC (shF a__8 b__9 p__18) p__7 x__22) ((((v__28 : Nat) : Int)).toNat) (bitB p__18 k) ((((k : Nat) : Int)).toNat)) (1 <<< ((((p__7 : Nat) : Int)).toNat)))) (c150), .int .i64 (0)]) rfl rfl) ?_
        refine WT.pure rfl (PR.assL rfl) ?_
        refine WT.pure rfl (PR.assI rfl) ?_
        refine WT.nil ?_
        refine tn ?_
        refine Wc.seq ?_
        have hq0 : (possQ s__6 p__7 a__8 b__9 s__6 (dwC (shF a__8 b__9 p__18) p__7 x__22) v__28 (bitB p__18 k) k) ((dwC (shF a__8 b__9 p__18) p__7 x__22) v__28 k) = true := poss_pos (by omega)
        have hv0 : (dwC (shF a__8 b__9 p__18) p__7 x__22) v__28 k < 1 <<< p__7 := shl_pw (hC0 _ hi9 _ (by omega))
        have hN0 : 0 < (flN (possQ ((((s__6 : Nat) : Int)).toNat) ((((p__7 : Nat) : Int)).toNat) a__8 b__9 s__6 (dwC (shF a__8 b__9 p__18) p__7 x__22) ((((v__28 : Nat) : Int)).toNat) (bitB p__18 k) ((((k : Nat) : Int)).toNat)) (1 <<< ((((p__7 : Nat) : Int)).toNat))) := flL_mem hv0 hq0
        have hN1 : (flN (possQ ((((s__6 : Nat) : Int)).toNat) ((((p__7 : Nat) : Int)).toNat) a__8 b__9 s__6 (dwC (shF a__8 b__9 p__18) p__7 x__22) ((((v__28 : Nat) : Int)).toNat) (bitB p__18 k) ((((k : Nat) : Int)).toNat)) (1 <<< ((((p__7 : Nat) : Int)).toNat))) = 1 → flA (possQ s__6 p__7 a__8 b__9 s__6 (dwC (shF a__8 b__9 p__18) p__7 x__22) v__28 (bitB p__18 k) k) (1 <<< p__7) 0 = (dwC (shF a__8 b__9 p__18) p__7 x__22) v__28 k := fun h => fl_one h hv0 hq0
        have hS1 : bitB (pic (sureQ s__6 p__7 a__8 b__9 s__6 (dwC (shF a__8 b__9 p__18) p__7 x__22) v__28 p__18)) k = decide ((flN (possQ ((((s__6 : Nat) : Int)).toNat) ((((p__7 : Nat) : Int)).toNat) a__8 b__9 s__6 (dwC (shF a__8 b__9 p__18) p__7 x__22) ((((v__28 : Nat) : Int)).toNat) (bitB p__18 k) ((((k : Nat) : Int)).toNat)) (1 <<< ((((p__7 : Nat) : Int)).toNat))) = 1) := sure_bit (by omega)
        have hfl8 : (flN (possQ ((((s__6 : Nat) : Int)).toNat) ((((p__7 : Nat) : Int)).toNat) a__8 b__9 s__6 (dwC (shF a__8 b__9 p__18) p__7 x__22) ((((v__28 : Nat) : Int)).toNat) (bitB p__18 k) ((((k : Nat) : Int)).toNat)) (1 <<< ((((p__7 : Nat) : Int)).toNat))) ≤ 1 <<< p__7 := flN_le _ _
        have h256 := shl_256 (k := p__7) (by omega)
        refine Wc.quiet hmix (by kernel_rfl) rfl ?_
        refine Wq.pure (PR.moveI rfl) ?_
        refine Wq.pure (PR.moveI rfl) ?_
        refine Wq.pure (PR.neqS (a := 0) rfl rfl) ?_
        refine Wq.pure (PR.moveB rfl) ?_
        refine Wq.on rfl rfl ?_
        refine Wq.pure (PR.moveI rfl) ?_
        refine Wq.on rfl rfl ?_
        refine Wq.pure (PR.neqS (a := 0) rfl rfl) ?_
        refine Wq.pure (PR.pickFB rfl rfl) ?_
        refine Wq.pure (PR.moveB rfl) ?_
        refine Wq.on rfl rfl ?_
        refine Wq.pure (PR.moveL rfl) ?_
        refine Wq.on rfl rfl ?_
        refine Wq.pure (PR.moveL rfl) ?_
        refine Wq.on rfl rfl ?_
        refine Wq.callV (fun _ hbel => c_spec_SameParts (A := some ⟨b139, 0, none⟩) (n := (flN (possQ ((((s__6 : Nat) : Int)).toNat) ((((p__7 : Nat) : Int)).toNat) a__8 b__9 s__6 (dwC (shF a__8 b__9 p__18) p__7 x__22) ((((v__28 : Nat) : Int)).toNat) (bitB p__18 k) ((((k : Nat) : Int)).toNat)) (1 <<< ((((p__7 : Nat) : Int)).toNat)))) (cp := c139) (c := (flA (possQ ((((s__6 : Nat) : Int)).toNat) ((((p__7 : Nat) : Int)).toNat) a__8 b__9 s__6 (dwC (shF a__8 b__9 p__18) p__7 x__22) ((((v__28 : Nat) : Int)).toNat) (bitB p__18 k) ((((k : Nat) : Int)).toNat)) (1 <<< ((((p__7 : Nat) : Int)).toNat)))) (B := some ⟨b150, 0, none⟩) (cq := c150) (d := (flA (possQ ((((s__6 : Nat) : Int)).toNat) ((((p__7 : Nat) : Int)).toNat) a__8 b__9 s__6 (dwC (shF a__8 b__9 p__18) p__7 x__22) ((((v__28 : Nat) : Int)).toNat) (bitB p__18 k) ((((k : Nat) : Int)).toNat)) (1 <<< ((((p__7 : Nat) : Int)).toNat)))) (((st.rdA (i := 1) (n := (flN (possQ ((((s__6 : Nat) : Int)).toNat) ((((p__7 : Nat) : Int)).toNat) a__8 b__9 s__6 (dwC (shF a__8 b__9 p__18) p__7 x__22) ((((v__28 : Nat) : Int)).toNat) (bitB p__18 k) ((((k : Nat) : Int)).toNat)) (1 <<< ((((p__7 : Nat) : Int)).toNat)))) rfl (app_all (arrU_len _))).sl).below hbel) (((st.rdA (i := 0) (n := (flN (possQ ((((s__6 : Nat) : Int)).toNat) ((((p__7 : Nat) : Int)).toNat) a__8 b__9 s__6 (dwC (shF a__8 b__9 p__18) p__7 x__22) ((((v__28 : Nat) : Int)).toNat) (bitB p__18 k) ((((k : Nat) : Int)).toNat)) (1 <<< ((((p__7 : Nat) : Int)).toNat)))) rfl (app_all (arrU_len _))).sl).below hbel) (flA_256 (by first | omega | exact tn8 (by omega))) (flA_256 (by first | omega | exact tn8 (by omega))) (by first | assumption | omega)) rfl ?_
        rw [show (eqR (flN (possQ ((((s__6 : Nat) : Int)).toNat) ((((p__7 : Nat) : Int)).toNat) a__8 b__9 s__6 (dwC (shF a__8 b__9 p__18) p__7 x__22) ((((v__28 : Nat) : Int)).toNat) (bitB p__18 k) ((((k : Nat) : Int)).toNat)) (1 <<< ((((p__7 : Nat) : Int)).toNat))) (flA (possQ ((((s__6 : Nat) : Int)).toNat) ((((p__7 : Nat) : Int)).toNat) a__8 b__9 s__6 (dwC (shF a__8 b__9 p__18) p__7 x__22) ((((v__28 : Nat) : Int)).toNat) (bitB p__18 k) ((((k : Nat) : Int)).toNat)) (1 <<< ((((p__7 : Nat) : Int)).toNat))) (flA (possQ ((((s__6 : Nat) : Int)).toNat) ((((p__7 : Nat) : Int)).toNat) a__8 b__9 s__6 (dwC (shF a__8 b__9 p__18) p__7 x__22) ((((v__28 : Nat) : Int)).toNat) (bitB p__18 k) ((((k : Nat) : Int)).toNat)) (1 <<< ((((p__7 : Nat) : Int)).toNat)))) = true from (eqR_t (fun _ _ => rfl)).symm]
        refine Wq.on rfl rfl ?_
        refine Wq.pure (PR.not_ rfl) ?_
        refine Wq.pure (PR.pickFB rfl rfl) ?_
        refine Wq.pure (PR.moveB rfl) ?_
        refine Wq.on rfl rfl ?_
        refine Wq.pure (PR.moveL rfl) ?_
        refine Wq.on rfl rfl ?_
        refine Wq.pure (PR.lenL tS_22 rfl) ?_
        refine Wq.on rfl rfl ?_
        refine Wq.pure (PR.eql (a := (((flN (possQ ((((s__6 : Nat) : Int)).toNat) ((((p__7 : Nat) : Int)).toNat) a__8 b__9 s__6 (dwC (shF a__8 b__9 p__18) p__7 x__22) ((((v__28 : Nat) : Int)).toNat) (bitB p__18 k) ((((k : Nat) : Int)).toNat)) (1 <<< ((((p__7 : Nat) : Int)).toNat))) : Nat) : Int)) (b := 0) rfl rfl) ?_
        rw [show (decide ((((flN (possQ ((((s__6 : Nat) : Int)).toNat) ((((p__7 : Nat) : Int)).toNat) a__8 b__9 s__6 (dwC (shF a__8 b__9 p__18) p__7 x__22) ((((v__28 : Nat) : Int)).toNat) (bitB p__18 k) ((((k : Nat) : Int)).toNat)) (1 <<< ((((p__7 : Nat) : Int)).toNat))) : Nat) : Int) = 0)) = false from (decide_eq_false (by omega))]
        refine Wq.pure (PR.pickFB rfl rfl) ?_
        refine Wq.pure (PR.moveB rfl) ?_
        refine Wq.on rfl rfl ?_
        refine Wq.pure (PR.moveI rfl) ?_
        refine Wq.on rfl rfl ?_
        refine Wq.pure (PR.moveI rfl) ?_
        refine Wq.on rfl rfl ?_
        refine Wq.callV (fun _ hbel => c_spec_IsBlack (x := pic (sureQ s__6 p__7 a__8 b__9 s__6 (dwC (shF a__8 b__9 p__18) p__7 x__22) v__28 p__18)) (k := k) (picF_lt _ 64) (by first | assumption | omega)) rfl ?_
        refine Wq.on rfl rfl ?_
        refine Wq.pure (PR.moveL rfl) ?_
        refine Wq.on rfl rfl ?_
        refine Wq.pure (PR.lenL tS_22 rfl) ?_
        refine Wq.on rfl rfl ?_
        refine Wq.pure (PR.eql (a := (((flN (possQ ((((s__6 : Nat) : Int)).toNat) ((((p__7 : Nat) : Int)).toNat) a__8 b__9 s__6 (dwC (shF a__8 b__9 p__18) p__7 x__22) ((((v__28 : Nat) : Int)).toNat) (bitB p__18 k) ((((k : Nat) : Int)).toNat)) (1 <<< ((((p__7 : Nat) : Int)).toNat))) : Nat) : Int)) (b := 1) rfl rfl) ?_
        refine Wq.on rfl rfl ?_
        refine Wq.pure (PR.neqB (a := (bitB (pic (sureQ s__6 p__7 a__8 b__9 s__6 (dwC (shF a__8 b__9 p__18) p__7 x__22) v__28 p__18)) k)) (b := (decide ((((flN (possQ ((((s__6 : Nat) : Int)).toNat) ((((p__7 : Nat) : Int)).toNat) a__8 b__9 s__6 (dwC (shF a__8 b__9 p__18) p__7 x__22) ((((v__28 : Nat) : Int)).toNat) (bitB p__18 k) ((((k : Nat) : Int)).toNat)) (1 <<< ((((p__7 : Nat) : Int)).toNat))) : Nat) : Int) = 1))) Tryz.underlying4 rfl rfl) ?_
        rw [show (!(((bitB (pic (sureQ s__6 p__7 a__8 b__9 s__6 (dwC (shF a__8 b__9 p__18) p__7 x__22) v__28 p__18)) k) == (decide ((((flN (possQ ((((s__6 : Nat) : Int)).toNat) ((((p__7 : Nat) : Int)).toNat) a__8 b__9 s__6 (dwC (shF a__8 b__9 p__18) p__7 x__22) ((((v__28 : Nat) : Int)).toNat) (bitB p__18 k) ((((k : Nat) : Int)).toNat)) (1 <<< ((((p__7 : Nat) : Int)).toNat))) : Nat) : Int) = 1))))) = false from (sure_eq (hS1.trans (decide_eq_decide.2 (by omega))))]
        refine Wq.pure (PR.pickFB rfl rfl) ?_
        refine Wq.pure (PR.moveB rfl) ?_
        refine Wq.on rfl rfl ?_
        refine Wq.pure (PR.moveL rfl) ?_
        refine Wq.on rfl rfl ?_
        refine Wq.pure (PR.lenL tS_22 rfl) ?_
        refine Wq.on rfl rfl ?_
        refine Wq.pure (PR.eql (a := (((flN (possQ ((((s__6 : Nat) : Int)).toNat) ((((p__7 : Nat) : Int)).toNat) a__8 b__9 s__6 (dwC (shF a__8 b__9 p__18) p__7 x__22) ((((v__28 : Nat) : Int)).toNat) (bitB p__18 k) ((((k : Nat) : Int)).toNat)) (1 <<< ((((p__7 : Nat) : Int)).toNat))) : Nat) : Int)) (b := 1) rfl rfl) ?_
        refine Wq.on rfl rfl ?_
        refine Wq.pure (PR.moveB rfl) ?_
        refine Wq.splitT (q := (((flN (possQ ((((s__6 : Nat) : Int)).toNat) ((((p__7 : Nat) : Int)).toNat) a__8 b__9 s__6 (dwC (shF a__8 b__9 p__18) p__7 x__22) ((((v__28 : Nat) : Int)).toNat) (bitB p__18 k) ((((k : Nat) : Int)).toNat)) (1 <<< ((((p__7 : Nat) : Int)).toNat))) : Nat) : Int) = 1) rfl rfl (fun h40 => ?_) (fun h40 => ?_)
        · refine Wq.pure (PR.moveL rfl) ?_
          refine Wq.on rfl rfl ?_
          refine Wq.pure (PR.idxAddrS1 (i := 0) tS_22 rfl rfl (by omega)) ?_
          refine Wq.on rfl rfl ?_
          refine Wq.load (i := 0) st tA_5 rfl rfl (app_get (arrU_get0 (by omega))) ?_
          refine Wq.on rfl rfl ?_
          refine Wq.pure (PR.moveL rfl) ?_
          refine Wq.on rfl rfl ?_
          refine Wq.pure (PR.moveI rfl) ?_
          refine Wq.on rfl rfl ?_
          refine Wq.pure (PR.moveI rfl) ?_
          refine Wq.on rfl rfl ?_
          refine Wq.pure (PR.idxAddrS (i := v__28) tS_32 rfl rfl (by omega)) ?_
          refine Wq.on rfl rfl ?_
          refine Wq.pure (PR.fieldAddr tF_50_1 rfl) ?_
          refine Wq.on rfl rfl ?_
          refine Wq.pure (PR.idxAddrA1 (i := k) tE_48 rfl rfl (by omega)) ?_
          refine Wq.on rfl rfl ?_
          refine Wq.load (i := 2) st tA_5 rfl rfl (app_get (recV_getd (layS_row _ _) (by omega) (layV_get_c (by omega)))) ?_
          refine Wq.on rfl rfl ?_
          refine Wq.pure (PR.neq (a := (((flA (possQ ((((s__6 : Nat) : Int)).toNat) ((((p__7 : Nat) : Int)).toNat) a__8 b__9 s__6 (dwC (shF a__8 b__9 p__18) p__7 x__22) ((((v__28 : Nat) : Int)).toNat) (bitB p__18 k) ((((k : Nat) : Int)).toNat)) (1 <<< ((((p__7 : Nat) : Int)).toNat))) (0) : Nat) : Int)) (b := ((((dwC (shF a__8 b__9 p__18) p__7 x__22) v__28) (k) : Nat) : Int)) rfl rfl) ?_
          rw [show (!decide ((((flA (possQ ((((s__6 : Nat) : Int)).toNat) ((((p__7 : Nat) : Int)).toNat) a__8 b__9 s__6 (dwC (shF a__8 b__9 p__18) p__7 x__22) ((((v__28 : Nat) : Int)).toNat) (bitB p__18 k) ((((k : Nat) : Int)).toNat)) (1 <<< ((((p__7 : Nat) : Int)).toNat))) (0) : Nat) : Int) = ((((dwC (shF a__8 b__9 p__18) p__7 x__22) v__28) (k) : Nat) : Int))) = false from (congrArg (fun x : Bool => !x) (decide_eq_true (congrArg (fun x : Nat => (x : Int)) (hN1 (by omega)))))]
          refine Wq.on rfl rfl ?_
          refine Wq.pure (PR.pickTB rfl rfl) ?_
          refine Wq.pure (PR.pickFB rfl rfl) ?_
          refine Wq.nil (fun w41 hbel => ?_)
          replace st := st.call hbel
          clear hbel
          refine tn ?_
          refine Wc.condF rfl ?_
          refine Wc.skip ?_
          refine bn ?_
          refine tn ?_
          refine Wc.region rfl ?_
          refine Wl.pure (PR.moveI rfl) ?_
          refine Wl.pure (PR.add (a := ((k : Nat) : Int)) (b := 7) rfl rfl (by simp only [fitI]; omega)) ?_
          refine Wl.pure (PR.assI rfl) ?_
          refine Wl.nil ?_
          refine tn ?_
          replace st := st.tail
          replace st := st.tail
          exact ⟨k + 7, (.cons rfl (.cons rfl (.cons rfl (.cons rfl (.cons rfl (.cons rfl (.cons rfl (.cons rfl (.nil _))))))))), ⟨st, (by first | omega | (dsimp only; omega))⟩, (by first | omega | (dsimp only; omega))⟩
        · refine Wq.off rfl rfl rfl ?_
          refine Wq.off rfl rfl rfl ?_
          refine Wq.off rfl rfl rfl ?_
          refine Wq.off rfl rfl rfl ?_
          refine Wq.off rfl rfl rfl ?_
          refine Wq.off rfl rfl rfl ?_
          refine Wq.off rfl rfl rfl ?_
          refine Wq.off rfl rfl rfl ?_
          refine Wq.off rfl rfl rfl ?_
          refine Wq.off rfl rfl rfl ?_
          refine Wq.on rfl rfl ?_
          refine Wq.pure (PR.pickFB rfl rfl) ?_
          refine Wq.pure (PR.pickFB rfl rfl) ?_
          refine Wq.nil (fun w42 hbel => ?_)
          replace st := st.call hbel
          clear hbel
          refine tn ?_
          refine Wc.condF rfl ?_
          refine Wc.skip ?_
          refine bn ?_
          refine tn ?_
          refine Wc.region rfl ?_
          refine Wl.pure (PR.moveI rfl) ?_
          refine Wl.pure (PR.add (a := ((k : Nat) : Int)) (b := 7) rfl rfl (by simp only [fitI]; omega)) ?_
          refine Wl.pure (PR.assI rfl) ?_
          refine Wl.nil ?_
          refine tn ?_
          replace st := st.tail
          replace st := st.tail
          exact ⟨k + 7, (.cons rfl (.cons rfl (.cons rfl (.cons rfl (.cons rfl (.cons rfl (.cons rfl (.cons rfl (.nil _))))))))), ⟨st, (by first | omega | (dsimp only; omega))⟩, (by first | omega | (dsimp only; omega))⟩
      · refine Wc.exit ?_
        refine tx ?_
        refine tx ?_
        refine bh ?_
        refine tn ?_
        refine Wc.seq ?_
        refine Wc.region rfl ?_
        refine Wl.buildSlice (ps := []) (cs := layS 0 (fun _ => 0) (fun _ _ => 0) ++ []) st tS_32 tZ_50 rfl rfl rfl ?_
        clear st
        intro b198 w43 st
        refine Wl.pure (PR.moveL rfl) ?_
        refine Wl.append0 (c := 0) (m := s__6) (sp := []) (vs := layS s__6 (fun _ => ((p__7 : Nat) : Int)) (dwC (shF a__8 b__9 p__18) p__7 x__22)) (i := 0) st tS_32 tZ_50 rfl rfl rfl rfl rfl (Src.ofRdA (tyS_und tS_32) (st.rdA (i := 1) (n := (s__6 * 65)) rfl (app_all (recV_len (s := 65) (layS_row _ _) _))) (recV_len (s := 65) (layS_row _ _) _) (layS_one _ _)) (by omega) (by omega) ?_
        clear st
        intro b200 c200 sp200 w44 hc200 hs200 st
        replace st : St [] w w44 [(b200, layS s__6 (fun _ => ((p__7 : Nat) : Int)) (dwC (shF a__8 b__9 p__18) p__7 x__22) ++ sp200, 50), (b60, layS s__6 (fun _ => ((p__7 : Nat) : Int)) (dwC (shF a__8 b__9 p__18) p__7 x__22) ++ sp60, 50), (b5, schV ((s__6 : Nat) : Int) ((p__7 : Nat) : Int) (a__8) (b__9), 27)] := st
        refine Wl.pure (PR.assL rfl) ?_
        refine Wl.nil ?_
        refine tn ?_
        refine Wc.seq ?_
        refine Wc.seq ?_
        refine Wc.region rfl ?_
        refine Wl.pure (PR.assI rfl) ?_
        refine Wl.nil ?_
        refine tn ?_
        refine Wc.block ?_
        refine Wc.loopF (γ := Nat × (Nat → Nat → Nat)) (fun g => [(0, .slice (A0) (n0) (cp0)), (1, .slice (A1) (n1) (cp1)), (5, .pointer (some ⟨b5, 0, none⟩)), (6, .int .u64 (((p__18 : Nat) : Int))), (14, .int .i64 (((v__28 : Nat) : Int))), (24, .slice (some ⟨b200, 0, none⟩) (s__6) (c200)), (25, .int .u8 (((g.1 : Nat) : Int)))]) (fun g w_ => St [] w w_ [(b200, layS s__6 (fun _ => ((p__7 : Nat) : Int)) g.2 ++ sp200, 50), (b60, layS s__6 (fun _ => ((p__7 : Nat) : Int)) (dwC (shF a__8 b__9 p__18) p__7 x__22) ++ sp60, 50), (b5, schV ((s__6 : Nat) : Int) ((p__7 : Nat) : Int) (a__8) (b__9), 27)] ∧ (g.1 ≤ 3) ∧ (g.1 < 256) ∧ (∀ u v, g.2 u v < 256) ∧ (∀ r, r ≠ v__28 → ∀ j, g.2 r j = (dwC (shF a__8 b__9 p__18) p__7 x__22) r j) ∧ (∀ r, r < s__6 → ∀ j, j < 64 → g.2 r j < 2 ^ p__7)) (fun g => 3 - g.1) ?_ ?_
        · exact ⟨(0, (dwC (shF a__8 b__9 p__18) p__7 x__22)), (.cons rfl (.cons rfl (.cons rfl (.cons rfl (.cons rfl (.cons rfl (.cons rfl (.nil _)))))))), st, (by first | omega | (dsimp only; omega)), (show (0 : Nat) < 256 by decide), (fun u v => dwC_lt _ _ _ u v), (fun _ _ _ => rfl), hC0⟩
        clear st
        rintro ⟨k, C⟩ w45 ⟨st, hk, hkb, hCb, hrow, hpow⟩
        try dsimp only at st hk hkb hCb hrow hpow ⊢
        refine Wc.seq ?_
        refine Wc.seq ?_
        refine Wc.region rfl ?_
        refine Wl.pure (PR.moveI rfl) ?_
        refine Wl.pure (PR.lss (a := ((k : Nat) : Int)) (b := 3) rfl rfl) ?_
        refine Wl.nil ?_
        refine tn ?_
        refine Wc.condD (p := ((k : Nat) : Int) < 3) rfl (fun h46 => ?_) (fun h46 => ?_)
        · refine Wc.skip ?_
          refine tn ?_
          refine Wc.seq ?_
          refine Wc.block ?_
          refine Wc.seq ?_
          refine Wc.region rfl ?_
          refine Wl.pure (PR.moveI rfl) ?_
          refine Wl.buildSlice (ps := [(0, .int .u8 (((k : Nat) : Int)))]) (cs := arrU .u8 1 (fun _ => k)) st tS_22 tZ_5 rfl rfl rfl ?_
          clear st
          intro b206 w47 st
          refine Wl.pure (PR.moveL rfl) ?_
          replace st : St [] w w47 [(b206, arrU .u8 1 (fun _ => k) ++ [], 5), (b200, layS s__6 (fun _ => ((p__7 : Nat) : Int)) C ++ sp200, 50), (b60, layS s__6 (fun _ => ((p__7 : Nat) : Int)) (dwC (shF a__8 b__9 p__18) p__7 x__22) ++ sp60, 50), (b5, schV ((s__6 : Nat) : Int) ((p__7 : Nat) : Int) (a__8) (b__9), 27)] := st.nilat (i := 0) rfl
          refine Wl.append (n := 1) (c := 1) (m := n1) (cs := arrU .u8 1 (fun _ => k)) (sp := []) (vs := arrU .u8 n1 c1) (i := 0) st tS_22 tZ_5 rfl rfl rfl (by rw [(arrU_len _), Nat.mul_one]) (by simp) (Nat.le_refl _) rfl (Src.ofRdS' (tyS_und tS_22) (hR1.st st) (by rw [(arrU_len _), Nat.mul_one]) (arrU_one _)) (by omega) (by omega) ?_
          clear st
          intro b208 c208 sp208 w48 hc208 hs208 st
          rw [arrU_app] at st
          replace st : St [] w w48 [(b208, arrU .u8 (1 + n1) (apF 1 (fun _ => k) c1) ++ sp208, 5), (b200, layS s__6 (fun _ => ((p__7 : Nat) : Int)) C ++ sp200, 50), (b60, layS s__6 (fun _ => ((p__7 : Nat) : Int)) (dwC (shF a__8 b__9 p__18) p__7 x__22) ++ sp60, 50), (b5, schV ((s__6 : Nat) : Int) ((p__7 : Nat) : Int) (a__8) (b__9), 27)] := st
          refine Wl.callXE [] st (c_spec_P6Pick (A := some ⟨b208, 0, none⟩) (n := 1 + n1) (cp := c208) (c := (apF 1 (fun _ => k) c1)) (m := 64) ((st.rdA (i := 0) (n := (1 + n1)) rfl (app_all (arrU_len _))).sl) (apF_lt (fun _ => hkb) hc1) (by first | assumption | omega)) rfl rfl ?_
          clear st
          rintro v__50 hx_51 w49 st
          try dsimp only at st hx_51
          replace st : St [] w w49 [(b208, arrU .u8 (1 + n1) (apF 1 (fun _ => k) c1) ++ sp208, 5), (b200, layS s__6 (fun _ => ((p__7 : Nat) : Int)) C ++ sp200, 50), (b60, layS s__6 (fun _ => ((p__7 : Nat) : Int)) (dwC (shF a__8 b__9 p__18) p__7 x__22) ++ sp60, 50), (b5, schV ((s__6 : Nat) : Int) ((p__7 : Nat) : Int) (a__8) (b__9), 27)] := st
          refine Wl.pure (PR.assI rfl) ?_
          refine Wl.nil ?_
          refine tn ?_
          refine Wc.tree (γ := Nat) (w0 := w) (X := []) (Ks := [b5]) (S := fun i => i == 6 || i == 8 || i == 10 || i == 14 || i == 21) (fun g => [(0, .slice (A0) (n0) (cp0)), (1, .slice (A1) (n1) (cp1)), (5, .pointer (some ⟨b5, 0, none⟩)), (6, .int .u64 (((p__18 : Nat) : Int))), (14, .int .i64 (((v__28 : Nat) : Int))), (24, .slice (some ⟨b200, 0, none⟩) (s__6) (c200)), (25, .int .u8 (((k : Nat) : Int))), (26, .int .i64 (((v__50 : Nat) : Int))), (201, .int .u8 (((k : Nat) : Int))), (202, .bool (decide (((k : Nat) : Int) < 3))), (205, .int .u8 (((k : Nat) : Int))), (206, .slice (some ⟨b206, 0, none⟩) (1) (1)), (207, .slice (A1) (n1) (cp1)), (208, .slice (some ⟨b208, 0, none⟩) (1 + n1) (c208)), (209, .int .i64 (((v__50 : Nat) : Int)))]) (fun g w_ => St [] w w_ [(b208, arrU .u8 (1 + n1) (apF 1 (fun _ => k) c1) ++ sp208, 5), (b200, layS s__6 (fun _ => ((p__7 : Nat) : Int)) (upd C v__28 (upd (C v__28) v__50 (((C v__28) (v__50)) ^^^ ((1 <<< g) % 256)))) ++ sp200, 50), (b60, layS s__6 (fun _ => ((p__7 : Nat) : Int)) (dwC (shF a__8 b__9 p__18) p__7 x__22) ++ sp60, 50), (b5, schV ((s__6 : Nat) : Int) ((p__7 : Nat) : Int) (a__8) (b__9), 27)] ∧ (g < p__7 ∨ (g = 0 ∧ p__7 ≤ 1))) (.st 0 0 (.st 1 0 (.st 2 0 (.st 3 0 (.st 4 0 (.st 5 0 (.st 7 0 (.st 9 0 (.st 11 0 (.st 18 0 (.st 19 0 (.st 12 3 (.st 13 0 (.alt 6 (.st 8 2 (.st 10 2 (.st 14 2 (.st 15 0 (.st 16 0 (.st 17 0 (.st 20 0 (.st 21 2 PT.nil)))))))) (.st 8 2 (.alt 6 (.st 10 2 (.st 14 2 (.st 15 0 (.st 16 0 (.st 17 0 (.st 20 0 (.st 21 2 PT.nil))))))) (.st 10 2 (.alt 6 (.st 14 2 (.st 15 0 (.st 16 0 (.st 17 0 (.st 20 0 (.st 21 2 PT.nil)))))) (.st 14 2 (.st 15 0 (.st 16 0 (.st 6 2 (.st 17 0 (.st 20 0 (.st 21 2 PT.nil))))))))))))))))))))))))) hmix (by kernel_rfl) (by kernel_rfl) rfl rfl ?_ ?_
          · intro w52 hbel
            replace st := st.call hbel
            clear hbel
            refine WT.pure rfl (PR.moveL rfl) ?_
            refine WT.pure rfl (PR.moveI rfl) ?_
            refine WT.pure rfl (PR.moveI rfl) ?_
            refine WT.pure rfl (PR.idxAddrS (i := v__28) tS_32 rfl rfl (by omega)) ?_
            refine WT.pure rfl (PR.fieldAddr tF_50_1 rfl) ?_
            refine WT.pure rfl (PR.idxAddrA1 (i := v__50) tE_48 rfl rfl (by omega)) ?_
            refine WT.pure rfl (PR.moveI rfl) ?_
            refine WT.pure rfl (PR.moveL rfl) ?_
            refine WT.pure rfl (PR.fieldAddr tF_27_1 rfl) ?_
            refine WT.pure rfl (PR.idxAddrS (i := v__28) tS_32 rfl rfl (by omega)) ?_
            refine WT.pure rfl (PR.fieldAddr tF_50_1 rfl) ?_
            refine WT.load (j := 3) rfl (by simp) st tA_24 rfl rfl (rfl) ?_
            refine WT.pure rfl (PR.conv (n := ((p__7 : Nat) : Int)) tI_2 rfl (by simp only [fitI]; omega) Tryz.underlying24) ?_
            refine WT.alt ?_ ?_
            · have st0 := st
              refine WT.s rfl rfl ?_
              refine Wl.load (i := 1) st tA_5 rfl rfl (app_get (recV_getd (layS_row _ _) (by omega) (layV_get_c (by omega)))) ?_
              refine Wl.nil ⟨rfl, RK.of st0 st (ksC (i := 3) (j := 3) rfl rfl rfl ksN), ?_⟩
              clear st0
              have st0 := st
              refine WT.s rfl rfl ?_
              refine Wl.buildSlice (ps := [(0, .int .u8 (((k : Nat) : Int)))]) (cs := arrU .u8 1 (fun _ => k)) st tS_22 tZ_5 rfl rfl rfl ?_
              clear st
              intro b218 w53 st
              refine Wl.nil ⟨rfl, RK.of st0 st (ksC (i := 3) (j := 4) rfl rfl rfl ksN), ?_⟩
              clear st0
              have st0 := st
              refine WT.s rfl rfl ?_
              replace st : St [] w w53 [(b218, arrU .u8 1 (fun _ => k) ++ [], 5), (b208, arrU .u8 (1 + n1) (apF 1 (fun _ => k) c1) ++ sp208, 5), (b200, layS s__6 (fun _ => ((p__7 : Nat) : Int)) C ++ sp200, 50), (b60, layS s__6 (fun _ => ((p__7 : Nat) : Int)) (dwC (shF a__8 b__9 p__18) p__7 x__22) ++ sp60, 50), (b5, schV ((s__6 : Nat) : Int) ((p__7 : Nat) : Int) (a__8) (b__9), 27)] := st.nilat (i := 0) rfl
              refine Wl.append (n := 1) (c := 1) (m := n0) (cs := arrU .u8 1 (fun _ => k)) (sp := []) (vs := arrU .u8 n0 c0) (i := 0) st tS_22 tZ_5 rfl rfl rfl (by rw [(arrU_len _), Nat.mul_one]) (by simp) (Nat.le_refl _) rfl (Src.ofRdS' (tyS_und tS_22) (hR0.st st) (by rw [(arrU_len _), Nat.mul_one]) (arrU_one _)) (by omega) (by omega) ?_
              clear st
              intro b220 c220 sp220 w54 hc220 hs220 st
              rw [arrU_app] at st
              replace st : St [] w w54 [(b220, arrU .u8 (1 + n0) (apF 1 (fun _ => k) c0) ++ sp220, 5), (b208, arrU .u8 (1 + n1) (apF 1 (fun _ => k) c1) ++ sp208, 5), (b200, layS s__6 (fun _ => ((p__7 : Nat) : Int)) C ++ sp200, 50), (b60, layS s__6 (fun _ => ((p__7 : Nat) : Int)) (dwC (shF a__8 b__9 p__18) p__7 x__22) ++ sp60, 50), (b5, schV ((s__6 : Nat) : Int) ((p__7 : Nat) : Int) (a__8) (b__9), 27)] := st
              refine Wl.nil ⟨rfl, RK.of st0 st (ksC (i := 4) (j := 4) rfl rfl rfl ksN), ?_⟩
              clear st0
              have st0 := st
              refine WT.s rfl rfl ?_
              refine Wl.callXE [] st (c_spec_P6Pick (A := some ⟨b220, 0, none⟩) (n := 1 + n0) (cp := c220) (c := (apF 1 (fun _ => k) c0)) (m := p__7) ((st.rdA (i := 0) (n := (1 + n0)) rfl (app_all (arrU_len _))).sl) (apF_lt (fun _ => hkb) hc0) (by first | assumption | omega)) rfl rfl ?_
              clear st
              rintro v__56 hx_57 w55 st
              try dsimp only at st hx_57
              replace st : St [] w w55 [(b220, arrU .u8 (1 + n0) (apF 1 (fun _ => k) c0) ++ sp220, 5), (b208, arrU .u8 (1 + n1) (apF 1 (fun _ => k) c1) ++ sp208, 5), (b200, layS s__6 (fun _ => ((p__7 : Nat) : Int)) C ++ sp200, 50), (b60, layS s__6 (fun _ => ((p__7 : Nat) : Int)) (dwC (shF a__8 b__9 p__18) p__7 x__22) ++ sp60, 50), (b5, schV ((s__6 : Nat) : Int) ((p__7 : Nat) : Int) (a__8) (b__9), 27)] := st
              refine Wl.nil ⟨rfl, RK.of st0 st (ksC (i := 4) (j := 4) rfl rfl rfl ksN), ?_⟩
              clear st0
              refine WT.pure rfl (PR.conv (n := ((v__56 : Nat) : Int)) tI_51 rfl (by simp only [fitI]; omega) Tryz.underlying2) ?_
              refine WT.pure rfl (PR.shl (a := 1) (n := v__56) rfl rfl (by decide)) ?_
              refine WT.pure rfl (PR.xor (a := (C v__28) (v__50)) (b := ((1 <<< v__56) % 256)) rfl rfl (by decide) ((hCb v__28) (v__50)) (Nat.mod_lt _ (by decide))) ?_
              refine WT.pure rfl (PR.idxAddrA1 (i := v__50) tE_48 rfl rfl (by omega)) ?_
              have st0 := st
              refine WT.s rfl rfl ?_
              refine Wl.store (i := 2) (cs' := layS s__6 (fun _ => ((p__7 : Nat) : Int)) (upd C v__28 (upd (C v__28) v__50 (((C v__28) (v__50)) ^^^ ((1 <<< v__56) % 256)))) ++ sp200) st tA_5 rfl rfl rfl rfl (app_in (layS_in (i := v__28) (j := 1 + v__50) (by omega) (by omega) (by omega))) (app_set (layS_in (i := v__28) (j := 1 + v__50) (by omega) (by omega) (by omega)) (layS_set_c (by omega) (by omega))) ?_
              clear st
              intro w58 st
              replace st : St [] w w58 [(b220, arrU .u8 (1 + n0) (apF 1 (fun _ => k) c0) ++ sp220, 5), (b208, arrU .u8 (1 + n1) (apF 1 (fun _ => k) c1) ++ sp208, 5), (b200, layS s__6 (fun _ => ((p__7 : Nat) : Int)) (upd C v__28 (upd (C v__28) v__50 (((C v__28) (v__50)) ^^^ ((1 <<< v__56) % 256)))) ++ sp200, 50), (b60, layS s__6 (fun _ => ((p__7 : Nat) : Int)) (dwC (shF a__8 b__9 p__18) p__7 x__22) ++ sp60, 50), (b5, schV ((s__6 : Nat) : Int) ((p__7 : Nat) : Int) (a__8) (b__9), 27)] := st
              refine Wl.nil ⟨rfl, RK.of st0 st (ksC (i := 4) (j := 4) rfl rfl rfl ksN), ?_⟩
              clear st0
              replace st : St [] w w58 [(b208, arrU .u8 (1 + n1) (apF 1 (fun _ => k) c1) ++ sp208, 5), (b200, layS s__6 (fun _ => ((p__7 : Nat) : Int)) (upd C v__28 (upd (C v__28) v__50 (((C v__28) (v__50)) ^^^ ((1 <<< v__56) % 256)))) ++ sp200, 50), (b60, layS s__6 (fun _ => ((p__7 : Nat) : Int)) (dwC (shF a__8 b__9 p__18) p__7 x__22) ++ sp60, 50), (b5, schV ((s__6 : Nat) : Int) ((p__7 : Nat) : Int) (a__8) (b__9), 27)] := st.pick [1, 2, 3, 4] (by decide) rfl
              exact WT.nil ⟨v__56, (.cons rfl (.cons rfl (.cons rfl (.cons rfl (.cons rfl (.cons rfl (.cons rfl (.cons rfl (.cons rfl (.cons rfl (.cons rfl (.cons rfl (.cons rfl (.cons rfl (.cons rfl (.nil _)))))))))))))))), st, hx_57⟩
            · have st0 := st
              refine WT.s rfl rfl ?_
              refine Wl.buildSlice (ps := [(0, .int .u8 (((k : Nat) : Int)))]) (cs := arrU .u8 1 (fun _ => k)) st tS_22 tZ_5 rfl rfl rfl ?_
              clear st
              intro b218 w53 st
              refine Wl.nil ⟨rfl, RK.of st0 st (ksC (i := 3) (j := 4) rfl rfl rfl ksN), ?_⟩
              clear st0
              refine WT.alt ?_ ?_
              · have st0 := st
                refine WT.s rfl rfl ?_
                refine Wl.load (i := 2) st tA_5 rfl rfl (app_get (recV_getd (layS_row _ _) (by omega) (layV_get_c (by omega)))) ?_
                refine Wl.nil ⟨rfl, RK.of st0 st (ksC (i := 4) (j := 4) rfl rfl rfl ksN), ?_⟩
                clear st0
                have st0 := st
                refine WT.s rfl rfl ?_
                replace st : St [] w w53 [(b218, arrU .u8 1 (fun _ => k) ++ [], 5), (b208, arrU .u8 (1 + n1) (apF 1 (fun _ => k) c1) ++ sp208, 5), (b200, layS s__6 (fun _ => ((p__7 : Nat) : Int)) C ++ sp200, 50), (b60, layS s__6 (fun _ => ((p__7 : Nat) : Int)) (dwC (shF a__8 b__9 p__18) p__7 x__22) ++ sp60, 50), (b5, schV ((s__6 : Nat) : Int) ((p__7 : Nat) : Int) (a__8) (b__9), 27)] := st.nilat (i := 0) rfl
                refine Wl.append (n := 1) (c := 1) (m := n0) (cs := arrU .u8 1 (fun _ => k)) (sp := []) (vs := arrU .u8 n0 c0) (i := 0) st tS_22 tZ_5 rfl rfl rfl (by rw [(arrU_len _), Nat.mul_one]) (by simp) (Nat.le_refl _) rfl (Src.ofRdS' (tyS_und tS_22) (hR0.st st) (by rw [(arrU_len _), Nat.mul_one]) (arrU_one _)) (by omega) (by omega) ?_
                clear st
                intro b220 c220 sp220 w54 hc220 hs220 st
                rw [arrU_app] at st
                replace st : St [] w w54 [(b220, arrU .u8 (1 + n0) (apF 1 (fun _ => k) c0) ++ sp220, 5), (b208, arrU .u8 (1 + n1) (apF 1 (fun _ => k) c1) ++ sp208, 5), (b200, layS s__6 (fun _ => ((p__7 : Nat) : Int)) C ++ sp200, 50), (b60, layS s__6 (fun _ => ((p__7 : Nat) : Int)) (dwC (shF a__8 b__9 p__18) p__7 x__22) ++ sp60, 50), (b5, schV ((s__6 : Nat) : Int) ((p__7 : Nat) : Int) (a__8) (b__9), 27)] := st
                refine Wl.nil ⟨rfl, RK.of st0 st (ksC (i := 4) (j := 4) rfl rfl rfl ksN), ?_⟩
                clear st0
                have st0 := st
                refine WT.s rfl rfl ?_
                refine Wl.callXE [] st (c_spec_P6Pick (A := some ⟨b220, 0, none⟩) (n := 1 + n0) (cp := c220) (c := (apF 1 (fun _ => k) c0)) (m := p__7) ((st.rdA (i := 0) (n := (1 + n0)) rfl (app_all (arrU_len _))).sl) (apF_lt (fun _ => hkb) hc0) (by first | assumption | omega)) rfl rfl ?_
                clear st
                rintro v__56 hx_57 w55 st
                try dsimp only at st hx_57
                replace st : St [] w w55 [(b220, arrU .u8 (1 + n0) (apF 1 (fun _ => k) c0) ++ sp220, 5), (b208, arrU .u8 (1 + n1) (apF 1 (fun _ => k) c1) ++ sp208, 5), (b200, layS s__6 (fun _ => ((p__7 : Nat) : Int)) C ++ sp200, 50), (b60, layS s__6 (fun _ => ((p__7 : Nat) : Int)) (dwC (shF a__8 b__9 p__18) p__7 x__22) ++ sp60, 50), (b5, schV ((s__6 : Nat) : Int) ((p__7 : Nat) : Int) (a__8) (b__9), 27)] := st
                refine Wl.nil ⟨rfl, RK.of st0 st (ksC (i := 4) (j := 4) rfl rfl rfl ksN), ?_⟩
                clear st0
                refine WT.pure rfl (PR.conv (n := ((v__56 : Nat) : Int)) tI_51 rfl (by simp only [fitI]; omega) Tryz.underlying2) ?_
                refine WT.pure rfl (PR.shl (a := 1) (n := v__56) rfl rfl (by decide)) ?_
                refine WT.pure rfl (PR.xor (a := (C v__28) (v__50)) (b := ((1 <<< v__56) % 256)) rfl rfl (by decide) ((hCb v__28) (v__50)) (Nat.mod_lt _ (by decide))) ?_
                refine WT.pure rfl (PR.idxAddrA1 (i := v__50) tE_48 rfl rfl (by omega)) ?_
                have st0 := st
                refine WT.s rfl rfl ?_
                refine Wl.store (i := 2) (cs' := layS s__6 (fun _ => ((p__7 : Nat) : Int)) (upd C v__28 (upd (C v__28) v__50 (((C v__28) (v__50)) ^^^ ((1 <<< v__56) % 256)))) ++ sp200) st tA_5 rfl rfl rfl rfl (app_in (layS_in (i := v__28) (j := 1 + v__50) (by omega) (by omega) (by omega))) (app_set (layS_in (i := v__28) (j := 1 + v__50) (by omega) (by omega) (by omega)) (layS_set_c (by omega) (by omega))) ?_
                clear st
                intro w58 st
                replace st : St [] w w58 [(b220, arrU .u8 (1 + n0) (apF 1 (fun _ => k) c0) ++ sp220, 5), (b208, arrU .u8 (1 + n1) (apF 1 (fun _ => k) c1) ++ sp208, 5), (b200, layS s__6 (fun _ => ((p__7 : Nat) : Int)) (upd C v__28 (upd (C v__28) v__50 (((C v__28) (v__50)) ^^^ ((1 <<< v__56) % 256)))) ++ sp200, 50), (b60, layS s__6 (fun _ => ((p__7 : Nat) : Int)) (dwC (shF a__8 b__9 p__18) p__7 x__22) ++ sp60, 50), (b5, schV ((s__6 : Nat) : Int) ((p__7 : Nat) : Int) (a__8) (b__9), 27)] := st
                refine Wl.nil ⟨rfl, RK.of st0 st (ksC (i := 4) (j := 4) rfl rfl rfl ksN), ?_⟩
                clear st0
                replace st : St [] w w58 [(b208, arrU .u8 (1 + n1) (apF 1 (fun _ => k) c1) ++ sp208, 5), (b200, layS s__6 (fun _ => ((p__7 : Nat) : Int)) (upd C v__28 (upd (C v__28) v__50 (((C v__28) (v__50)) ^^^ ((1 <<< v__56) % 256)))) ++ sp200, 50), (b60, layS s__6 (fun _ => ((p__7 : Nat) : Int)) (dwC (shF a__8 b__9 p__18) p__7 x__22) ++ sp60, 50), (b5, schV ((s__6 : Nat) : Int) ((p__7 : Nat) : Int) (a__8) (b__9), 27)] := st.pick [1, 2, 3, 4] (by decide) rfl
                exact WT.nil ⟨v__56, (.cons rfl (.cons rfl (.cons rfl (.cons rfl (.cons rfl (.cons rfl (.cons rfl (.cons rfl (.cons rfl (.cons rfl (.cons rfl (.cons rfl (.cons rfl (.cons rfl (.cons rfl (.nil _)))))))))))))))), st, hx_57⟩
              · have st0 := st
                refine WT.s rfl rfl ?_
                replace st : St [] w w53 [(b218, arrU .u8 1 (fun _ => k) ++ [], 5), (b208, arrU .u8 (1 + n1) (apF 1 (fun _ => k) c1) ++ sp208, 5), (b200, layS s__6 (fun _ => ((p__7 : Nat) : Int)) C ++ sp200, 50), (b60, layS s__6 (fun _ => ((p__7 : Nat) : Int)) (dwC (shF a__8 b__9 p__18) p__7 x__22) ++ sp60, 50), (b5, schV ((s__6 : Nat) : Int) ((p__7 : Nat) : Int) (a__8) (b__9), 27)] := st.nilat (i := 0) rfl
                refine Wl.append (n := 1) (c := 1) (m := n0) (cs := arrU .u8 1 (fun _ => k)) (sp := []) (vs := arrU .u8 n0 c0) (i := 0) st tS_22 tZ_5 rfl rfl rfl (by rw [(arrU_len _), Nat.mul_one]) (by simp) (Nat.le_refl _) rfl (Src.ofRdS' (tyS_und tS_22) (hR0.st st) (by rw [(arrU_len _), Nat.mul_one]) (arrU_one _)) (by omega) (by omega) ?_
                clear st
                intro b220 c220 sp220 w54 hc220 hs220 st
                rw [arrU_app] at st
                replace st : St [] w w54 [(b220, arrU .u8 (1 + n0) (apF 1 (fun _ => k) c0) ++ sp220, 5), (b208, arrU .u8 (1 + n1) (apF 1 (fun _ => k) c1) ++ sp208, 5), (b200, layS s__6 (fun _ => ((p__7 : Nat) : Int)) C ++ sp200, 50), (b60, layS s__6 (fun _ => ((p__7 : Nat) : Int)) (dwC (shF a__8 b__9 p__18) p__7 x__22) ++ sp60, 50), (b5, schV ((s__6 : Nat) : Int) ((p__7 : Nat) : Int) (a__8) (b__9), 27)] := st
                refine Wl.nil ⟨rfl, RK.of st0 st (ksC (i := 4) (j := 4) rfl rfl rfl ksN), ?_⟩
                clear st0
                refine WT.alt ?_ ?_
                · have st0 := st
                  refine WT.s rfl rfl ?_
                  refine Wl.load (i := 2) st tA_5 rfl rfl (app_get (recV_getd (layS_row _ _) (by omega) (layV_get_c (by omega)))) ?_
                  refine Wl.nil ⟨rfl, RK.of st0 st (ksC (i := 4) (j := 4) rfl rfl rfl ksN), ?_⟩
                  clear st0
                  have st0 := st
                  refine WT.s rfl rfl ?_
                  refine Wl.callXE [] st (c_spec_P6Pick (A := some ⟨b220, 0, none⟩) (n := 1 + n0) (cp := c220) (c := (apF 1 (fun _ => k) c0)) (m := p__7) ((st.rdA (i := 0) (n := (1 + n0)) rfl (app_all (arrU_len _))).sl) (apF_lt (fun _ => hkb) hc0) (by first | assumption | omega)) rfl rfl ?_
                  clear st
                  rintro v__56 hx_57 w55 st
                  try dsimp only at st hx_57
                  replace st : St [] w w55 [(b220, arrU .u8 (1 + n0) (apF 1 (fun _ => k) c0) ++ sp220, 5), (b208, arrU .u8 (1 + n1) (apF 1 (fun _ => k) c1) ++ sp208, 5), (b200, layS s__6 (fun _ => ((p__7 : Nat) : Int)) C ++ sp200, 50), (b60, layS s__6 (fun _ => ((p__7 : Nat) : Int)) (dwC (shF a__8 b__9 p__18) p__7 x__22) ++ sp60, 50), (b5, schV ((s__6 : Nat) : Int) ((p__7 : Nat) : Int) (a__8) (b__9), 27)] := st
                  refine Wl.nil ⟨rfl, RK.of st0 st (ksC (i := 4) (j := 4) rfl rfl rfl ksN), ?_⟩
                  clear st0
                  refine WT.pure rfl (PR.conv (n := ((v__56 : Nat) : Int)) tI_51 rfl (by simp only [fitI]; omega) Tryz.underlying2) ?_
                  refine WT.pure rfl (PR.shl (a := 1) (n := v__56) rfl rfl (by decide)) ?_
                  refine WT.pure rfl (PR.xor (a := (C v__28) (v__50)) (b := ((1 <<< v__56) % 256)) rfl rfl (by decide) ((hCb v__28) (v__50)) (Nat.mod_lt _ (by decide))) ?_
                  refine WT.pure rfl (PR.idxAddrA1 (i := v__50) tE_48 rfl rfl (by omega)) ?_
                  have st0 := st
                  refine WT.s rfl rfl ?_
                  refine Wl.store (i := 2) (cs' := layS s__6 (fun _ => ((p__7 : Nat) : Int)) (upd C v__28 (upd (C v__28) v__50 (((C v__28) (v__50)) ^^^ ((1 <<< v__56) % 256)))) ++ sp200) st tA_5 rfl rfl rfl rfl (app_in (layS_in (i := v__28) (j := 1 + v__50) (by omega) (by omega) (by omega))) (app_set (layS_in (i := v__28) (j := 1 + v__50) (by omega) (by omega) (by omega)) (layS_set_c (by omega) (by omega))) ?_
                  clear st
                  intro w58 st
                  replace st : St [] w w58 [(b220, arrU .u8 (1 + n0) (apF 1 (fun _ => k) c0) ++ sp220, 5), (b208, arrU .u8 (1 + n1) (apF 1 (fun _ => k) c1) ++ sp208, 5), (b200, layS s__6 (fun _ => ((p__7 : Nat) : Int)) (upd C v__28 (upd (C v__28) v__50 (((C v__28) (v__50)) ^^^ ((1 <<< v__56) % 256)))) ++ sp200, 50), (b60, layS s__6 (fun _ => ((p__7 : Nat) : Int)) (dwC (shF a__8 b__9 p__18) p__7 x__22) ++ sp60, 50), (b5, schV ((s__6 : Nat) : Int) ((p__7 : Nat) : Int) (a__8) (b__9), 27)] := st
                  refine Wl.nil ⟨rfl, RK.of st0 st (ksC (i := 4) (j := 4) rfl rfl rfl ksN), ?_⟩
                  clear st0
                  replace st : St [] w w58 [(b208, arrU .u8 (1 + n1) (apF 1 (fun _ => k) c1) ++ sp208, 5), (b200, layS s__6 (fun _ => ((p__7 : Nat) : Int)) (upd C v__28 (upd (C v__28) v__50 (((C v__28) (v__50)) ^^^ ((1 <<< v__56) % 256)))) ++ sp200, 50), (b60, layS s__6 (fun _ => ((p__7 : Nat) : Int)) (dwC (shF a__8 b__9 p__18) p__7 x__22) ++ sp60, 50), (b5, schV ((s__6 : Nat) : Int) ((p__7 : Nat) : Int) (a__8) (b__9), 27)] := st.pick [1, 2, 3, 4] (by decide) rfl
                  exact WT.nil ⟨v__56, (.cons rfl (.cons rfl (.cons rfl (.cons rfl (.cons rfl (.cons rfl (.cons rfl (.cons rfl (.cons rfl (.cons rfl (.cons rfl (.cons rfl (.cons rfl (.cons rfl (.cons rfl (.nil _)))))))))))))))), st, hx_57⟩
                · have st0 := st
                  refine WT.s rfl rfl ?_
                  refine Wl.callXE [] st (c_spec_P6Pick (A := some ⟨b220, 0, none⟩) (n := 1 + n0) (cp := c220) (c := (apF 1 (fun _ => k) c0)) (m := p__7) ((st.rdA (i := 0) (n := (1 + n0)) rfl (app_all (arrU_len _))).sl) (apF_lt (fun _ => hkb) hc0) (by first | assumption | omega)) rfl rfl ?_
                  clear st
                  rintro v__56 hx_57 w55 st
                  try dsimp only at st hx_57
                  replace st : St [] w w55 [(b220, arrU .u8 (1 + n0) (apF 1 (fun _ => k) c0) ++ sp220, 5), (b208, arrU .u8 (1 + n1) (apF 1 (fun _ => k) c1) ++ sp208, 5), (b200, layS s__6 (fun _ => ((p__7 : Nat) : Int)) C ++ sp200, 50), (b60, layS s__6 (fun _ => ((p__7 : Nat) : Int)) (dwC (shF a__8 b__9 p__18) p__7 x__22) ++ sp60, 50), (b5, schV ((s__6 : Nat) : Int) ((p__7 : Nat) : Int) (a__8) (b__9), 27)] := st
                  refine Wl.nil ⟨rfl, RK.of st0 st (ksC (i := 4) (j := 4) rfl rfl rfl ksN), ?_⟩
                  clear st0
                  refine WT.pure rfl (PR.conv (n := ((v__56 : Nat) : Int)) tI_51 rfl (by simp only [fitI]; omega) Tryz.underlying2) ?_
                  refine WT.pure rfl (PR.shl (a := 1) (n := v__56) rfl rfl (by decide)) ?_
                  have st0 := st
                  refine WT.s rfl rfl ?_
                  refine Wl.load (i := 2) st tA_5 rfl rfl (app_get (recV_getd (layS_row _ _) (by omega) (layV_get_c (by omega)))) ?_
                  refine Wl.nil ⟨rfl, RK.of st0 st (ksC (i := 4) (j := 4) rfl rfl rfl ksN), ?_⟩
                  clear st0
                  refine WT.pure rfl (PR.xor (a := (C v__28) (v__50)) (b := ((1 <<< v__56) % 256)) rfl rfl (by decide) ((hCb v__28) (v__50)) (Nat.mod_lt _ (by decide))) ?_
                  refine WT.pure rfl (PR.idxAddrA1 (i := v__50) tE_48 rfl rfl (by omega)) ?_
                  have st0 := st
                  refine WT.s rfl rfl ?_
                  refine Wl.store (i := 2) (cs' := layS s__6 (fun _ => ((p__7 : Nat) : Int)) (upd C v__28 (upd (C v__28) v__50 (((C v__28) (v__50)) ^^^ ((1 <<< v__56) % 256)))) ++ sp200) st tA_5 rfl rfl rfl rfl (app_in (layS_in (i := v__28) (j := 1 + v__50) (by omega) (by omega) (by omega))) (app_set (layS_in (i := v__28) (j := 1 + v__50) (by omega) (by omega) (by omega)) (layS_set_c (by omega) (by omega))) ?_
                  clear st
                  intro w58 st
                  replace st : St [] w w58 [(b220, arrU .u8 (1 + n0) (apF 1 (fun _ => k) c0) ++ sp220, 5), (b208, arrU .u8 (1 + n1) (apF 1 (fun _ => k) c1) ++ sp208, 5), (b200, layS s__6 (fun _ => ((p__7 : Nat) : Int)) (upd C v__28 (upd (C v__28) v__50 (((C v__28) (v__50)) ^^^ ((1 <<< v__56) % 256)))) ++ sp200, 50), (b60, layS s__6 (fun _ => ((p__7 : Nat) : Int)) (dwC (shF a__8 b__9 p__18) p__7 x__22) ++ sp60, 50), (b5, schV ((s__6 : Nat) : Int) ((p__7 : Nat) : Int) (a__8) (b__9), 27)] := st
                  refine Wl.nil ⟨rfl, RK.of st0 st (ksC (i := 4) (j := 4) rfl rfl rfl ksN), ?_⟩
                  clear st0
                  replace st : St [] w w58 [(b208, arrU .u8 (1 + n1) (apF 1 (fun _ => k) c1) ++ sp208, 5), (b200, layS s__6 (fun _ => ((p__7 : Nat) : Int)) (upd C v__28 (upd (C v__28) v__50 (((C v__28) (v__50)) ^^^ ((1 <<< v__56) % 256)))) ++ sp200, 50), (b60, layS s__6 (fun _ => ((p__7 : Nat) : Int)) (dwC (shF a__8 b__9 p__18) p__7 x__22) ++ sp60, 50), (b5, schV ((s__6 : Nat) : Int) ((p__7 : Nat) : Int) (a__8) (b__9), 27)] := st.pick [1, 2, 3, 4] (by decide) rfl
                  exact WT.nil ⟨v__56, (.cons rfl (.cons rfl (.cons rfl (.cons rfl (.cons rfl (.cons rfl (.cons rfl (.cons rfl (.cons rfl (.cons rfl (.cons rfl (.cons rfl (.cons rfl (.cons rfl (.cons rfl (.nil _)))))))))))))))), st, hx_57⟩
          clear st
          rintro v__56 w59 ⟨st, hx_57⟩
          try dsimp only at st hx_57 ⊢
          refine bn ?_
          refine tn ?_
          refine Wc.region rfl ?_
          refine Wl.pure (PR.moveI rfl) ?_
          refine Wl.pure (PR.add (a := ((k : Nat) : Int)) (b := 1) rfl rfl (by simp only [fitI]; omega)) ?_
          refine Wl.pure (PR.assI rfl) ?_
          refine Wl.nil ?_
          refine tn ?_
          replace st := st.tail
          exact ⟨(k + 1, (upd C v__28 (upd (C v__28) v__50 (((C v__28) (v__50)) ^^^ ((1 <<< v__56) % 256))))), (.cons rfl (.cons rfl (.cons rfl (.cons rfl (.cons rfl (.cons rfl (.cons rfl (.nil _)))))))), ⟨st, (by first | omega | (dsimp only; omega)), (by omega), (upd2_lt hCb (xor_lt_u8 (hCb _ _) (Nat.mod_lt _ (by decide)))), (fun r hr j => by dsimp only; rw [upd_ne hr]; exact hrow r hr j), (bad_pow hpow hi9 (by omega) (by omega) (by omega))⟩, (by first | omega | (dsimp only; omega))⟩
        · refine Wc.exit ?_
          refine tx ?_
          refine tx ?_
          refine bh ?_
          refine tn ?_
          refine Wc.seq ?_
          have hb1 : bothC ((s__6 : Nat) : Int) ((p__7 : Nat) : Int) a__8 b__9 s__6 (fun _ => ((p__7 : Nat) : Int)) C = 0 := both_rows hok9 hpow (fun _ _ => rfl)
          have hrep : repOk s__6 p__7 a__8 b__9 s__6 C v__28 p__18 (pic (wrQ s__6 p__7 a__8 b__9 s__6 C p__18)) = true := rep_back (by omega) hrow
          refine Wc.region rfl ?_
          refine Wl.loadA (i := 2) st tA_27 rfl rfl (all_sub schV_len) schV_len ?_
          refine Wl.pure (PR.moveI rfl) ?_
          refine Wl.pure (PR.moveL rfl) ?_
          refine Wl.callV (c_impl_WrongCells (s := ((s__6 : Nat) : Int)) (p := ((p__7 : Nat) : Int)) (a := a__8) (b := b__9) (x := p__18) (A := some ⟨b200, 0, none⟩) (n := s__6) (cp := c200) (y := (fun _ => ((p__7 : Nat) : Int))) (c := C) (by first | assumption | omega) (by first | assumption | omega) (by assumption) (by assumption) (by first | assumption | omega) ((st.rdA (i := 0) (n := (s__6 * 65)) rfl (app_all (recV_len (s := 65) (layS_row _ _) _))).sl) (by assumption) hCb (by first | assumption | omega)) rfl ?_
          intro w60 hbel
          replace st := st.call hbel
          clear hbel
          refine Wl.pure (PR.moveV (.tuple #[.int .u64 (((selN (bothC ((s__6 : Nat) : Int) ((p__7 : Nat) : Int) a__8 b__9 s__6 (fun _ => ((p__7 : Nat) : Int)) C) (pic (wrQ ((((s__6 : Nat) : Int)).toNat) ((((p__7 : Nat) : Int)).toNat) a__8 b__9 s__6 C p__18)) : Nat) : Int)), .int .i64 (((bothC ((s__6 : Nat) : Int) ((p__7 : Nat) : Int) a__8 b__9 s__6 (fun _ => ((p__7 : Nat) : Int)) C : Nat) : Int))]) rfl) ?_
          refine Wl.pure (PR.extr (i := 0) (vs := [.int .u64 (((selN (bothC ((s__6 : Nat) : Int) ((p__7 : Nat) : Int) a__8 b__9 s__6 (fun _ => ((p__7 : Nat) : Int)) C) (pic (wrQ ((((s__6 : Nat) : Int)).toNat) ((((p__7 : Nat) : Int)).toNat) a__8 b__9 s__6 C p__18)) : Nat) : Int)), .int .i64 (((bothC ((s__6 : Nat) : Int) ((p__7 : Nat) : Int) a__8 b__9 s__6 (fun _ => ((p__7 : Nat) : Int)) C : Nat) : Int))]) rfl rfl) ?_
          refine Wl.pure (PR.extr (i := 1) (vs := [.int .u64 (((selN (bothC ((s__6 : Nat) : Int) ((p__7 : Nat) : Int) a__8 b__9 s__6 (fun _ => ((p__7 : Nat) : Int)) C) (pic (wrQ ((((s__6 : Nat) : Int)).toNat) ((((p__7 : Nat) : Int)).toNat) a__8 b__9 s__6 C p__18)) : Nat) : Int)), .int .i64 (((bothC ((s__6 : Nat) : Int) ((p__7 : Nat) : Int) a__8 b__9 s__6 (fun _ => ((p__7 : Nat) : Int)) C : Nat) : Int))]) rfl rfl) ?_
          refine Wl.pure (PR.assI rfl) ?_
          refine Wl.pure (PR.assI rfl) ?_
          refine Wl.nil ?_
          refine tn ?_
          refine Wc.seq ?_
          refine Wc.region rfl ?_
          refine Wl.loadA (i := 2) st tA_27 rfl rfl (all_sub schV_len) schV_len ?_
          refine Wl.pure (PR.moveI rfl) ?_
          refine Wl.pure (PR.moveL rfl) ?_
          refine Wl.callV (c_spec_WrongCells (s := ((s__6 : Nat) : Int)) (p := ((p__7 : Nat) : Int)) (a := a__8) (b := b__9) (x := p__18) (A := some ⟨b200, 0, none⟩) (n := s__6) (cp := c200) (y := (fun _ => ((p__7 : Nat) : Int))) (c := C) (by first | assumption | omega) (by first | assumption | omega) (by assumption) (by assumption) (by first | assumption | omega) ((st.rdA (i := 0) (n := (s__6 * 65)) rfl (app_all (recV_len (s := 65) (layS_row _ _) _))).sl) (by assumption) hCb (by first | assumption | omega)) rfl ?_
          intro w61 hbel
          replace st := st.call hbel
          clear hbel
          refine Wl.pure (PR.moveV (.tuple #[.int .u64 (((selN (bothC ((s__6 : Nat) : Int) ((p__7 : Nat) : Int) a__8 b__9 s__6 (fun _ => ((p__7 : Nat) : Int)) C) (pic (wrQ ((((s__6 : Nat) : Int)).toNat) ((((p__7 : Nat) : Int)).toNat) a__8 b__9 s__6 C p__18)) : Nat) : Int)), .int .i64 (((bothC ((s__6 : Nat) : Int) ((p__7 : Nat) : Int) a__8 b__9 s__6 (fun _ => ((p__7 : Nat) : Int)) C : Nat) : Int))]) rfl) ?_
          refine Wl.pure (PR.extr (i := 0) (vs := [.int .u64 (((selN (bothC ((s__6 : Nat) : Int) ((p__7 : Nat) : Int) a__8 b__9 s__6 (fun _ => ((p__7 : Nat) : Int)) C) (pic (wrQ ((((s__6 : Nat) : Int)).toNat) ((((p__7 : Nat) : Int)).toNat) a__8 b__9 s__6 C p__18)) : Nat) : Int)), .int .i64 (((bothC ((s__6 : Nat) : Int) ((p__7 : Nat) : Int) a__8 b__9 s__6 (fun _ => ((p__7 : Nat) : Int)) C : Nat) : Int))]) rfl rfl) ?_
          refine Wl.pure (PR.extr (i := 1) (vs := [.int .u64 (((selN (bothC ((s__6 : Nat) : Int) ((p__7 : Nat) : Int) a__8 b__9 s__6 (fun _ => ((p__7 : Nat) : Int)) C) (pic (wrQ ((((s__6 : Nat) : Int)).toNat) ((((p__7 : Nat) : Int)).toNat) a__8 b__9 s__6 C p__18)) : Nat) : Int)), .int .i64 (((bothC ((s__6 : Nat) : Int) ((p__7 : Nat) : Int) a__8 b__9 s__6 (fun _ => ((p__7 : Nat) : Int)) C : Nat) : Int))]) rfl rfl) ?_
          refine Wl.pure (PR.assI rfl) ?_
          refine Wl.pure (PR.assI rfl) ?_
          refine Wl.nil ?_
          refine tn ?_
          refine Wc.seq ?_
          by_cases hW : pic (wrQ s__6 p__7 a__8 b__9 s__6 C p__18) = 0
          · have hfq : 0 < flN (fun i_ => repOk s__6 p__7 a__8 b__9 s__6 C i_ p__18 (pic (wrQ s__6 p__7 a__8 b__9 s__6 C p__18))) s__6 := flL_mem hi9 hrep
            have hfl9 := flN_le (fun i_ => repOk s__6 p__7 a__8 b__9 s__6 C i_ p__18 (pic (wrQ s__6 p__7 a__8 b__9 s__6 C p__18))) s__6
            have hbl9 : blC (bothC ((s__6 : Nat) : Int) ((p__7 : Nat) : Int) a__8 b__9 s__6 (fun _ => ((p__7 : Nat) : Int)) C) (pic (wrQ s__6 p__7 a__8 b__9 s__6 C p__18)) (flN (fun i_ => repOk s__6 p__7 a__8 b__9 s__6 C i_ p__18 (pic (wrQ s__6 p__7 a__8 b__9 s__6 C p__18))) s__6) = 4 := blC_4 hb1 hW
            have hbl : ¬ blC (bothC ((s__6 : Nat) : Int) ((p__7 : Nat) : Int) a__8 b__9 s__6 (fun _ => ((p__7 : Nat) : Int)) C) (pic (wrQ s__6 p__7 a__8 b__9 s__6 C p__18)) (flN (fun i_ => repOk s__6 p__7 a__8 b__9 s__6 C i_ p__18 (pic (wrQ s__6 p__7 a__8 b__9 s__6 C p__18))) s__6) = 0 := by omega
            refine Wc.region rfl ?_
            refine Wl.loadA (i := 2) st tA_27 rfl rfl (all_sub schV_len) schV_len ?_
            refine Wl.pure (PR.moveI rfl) ?_
            refine Wl.pure (PR.moveL rfl) ?_
            refine Wl.callV (c_impl_BlamedShares_f (s := ((s__6 : Nat) : Int)) (p := ((p__7 : Nat) : Int)) (a := a__8) (b := b__9) (x := p__18) (A := some ⟨b200, 0, none⟩) (n := s__6) (cp := c200) (y := (fun _ => ((p__7 : Nat) : Int))) (c := C) (by first | assumption | omega) (by first | assumption | omega) (by assumption) (by assumption) (by first | assumption | omega) ((st.rdA (i := 0) (n := (s__6 * 65)) rfl (app_all (recV_len (s := 65) (layS_row _ _) _))).sl) (by assumption) hCb (by first | assumption | omega) hbl) rfl ?_
            intro w62 hbel
            replace st := st.call hbel
            clear hbel
            refine Wl.pure (PR.moveV (.tuple #[.slice (none) (0) (0), .int .i64 (((blC (bothC ((s__6 : Nat) : Int) ((p__7 : Nat) : Int) a__8 b__9 s__6 (fun _ => ((p__7 : Nat) : Int)) C) (pic (wrQ ((((s__6 : Nat) : Int)).toNat) ((((p__7 : Nat) : Int)).toNat) a__8 b__9 s__6 C p__18)) (flN (fun i_ => repOk ((((s__6 : Nat) : Int)).toNat) ((((p__7 : Nat) : Int)).toNat) a__8 b__9 s__6 C i_ p__18 (pic (wrQ ((((s__6 : Nat) : Int)).toNat) ((((p__7 : Nat) : Int)).toNat) a__8 b__9 s__6 C p__18))) (((s__6 : Nat) : Int)).toNat) : Nat) : Int))]) rfl) ?_
            refine Wl.pure (PR.extr (i := 0) (vs := [.slice (none) (0) (0), .int .i64 (((blC (bothC ((s__6 : Nat) : Int) ((p__7 : Nat) : Int) a__8 b__9 s__6 (fun _ => ((p__7 : Nat) : Int)) C) (pic (wrQ ((((s__6 : Nat) : Int)).toNat) ((((p__7 : Nat) : Int)).toNat) a__8 b__9 s__6 C p__18)) (flN (fun i_ => repOk ((((s__6 : Nat) : Int)).toNat) ((((p__7 : Nat) : Int)).toNat) a__8 b__9 s__6 C i_ p__18 (pic (wrQ ((((s__6 : Nat) : Int)).toNat) ((((p__7 : Nat) : Int)).toNat) a__8 b__9 s__6 C p__18))) (((s__6 : Nat) : Int)).toNat) : Nat) : Int))]) rfl rfl) ?_
            refine Wl.pure (PR.extr (i := 1) (vs := [.slice (none) (0) (0), .int .i64 (((blC (bothC ((s__6 : Nat) : Int) ((p__7 : Nat) : Int) a__8 b__9 s__6 (fun _ => ((p__7 : Nat) : Int)) C) (pic (wrQ ((((s__6 : Nat) : Int)).toNat) ((((p__7 : Nat) : Int)).toNat) a__8 b__9 s__6 C p__18)) (flN (fun i_ => repOk ((((s__6 : Nat) : Int)).toNat) ((((p__7 : Nat) : Int)).toNat) a__8 b__9 s__6 C i_ p__18 (pic (wrQ ((((s__6 : Nat) : Int)).toNat) ((((p__7 : Nat) : Int)).toNat) a__8 b__9 s__6 C p__18))) (((s__6 : Nat) : Int)).toNat) : Nat) : Int))]) rfl rfl) ?_
            refine Wl.pure (PR.assL rfl) ?_
            refine Wl.pure (PR.assI rfl) ?_
            refine Wl.nil ?_
            refine tn ?_
            refine Wc.seq ?_
            refine Wc.region rfl ?_
            refine Wl.loadA (i := 2) st tA_27 rfl rfl (all_sub schV_len) schV_len ?_
            refine Wl.pure (PR.moveI rfl) ?_
            refine Wl.pure (PR.moveL rfl) ?_
            refine Wl.callXG [] st (c_spec_BlamedShares_f (s := ((s__6 : Nat) : Int)) (p := ((p__7 : Nat) : Int)) (a := a__8) (b := b__9) (x := p__18) (A := some ⟨b200, 0, none⟩) (n := s__6) (cp := c200) (y := (fun _ => ((p__7 : Nat) : Int))) (c := C) (by first | assumption | omega) (by first | assumption | omega) (by assumption) (by assumption) (by first | assumption | omega) ((st.rdA (i := 0) (n := (s__6 * 65)) rfl (app_all (recV_len (s := 65) (layS_row _ _) _))).sl) (by assumption) hCb (by first | assumption | omega) hbl) rfl rfl ?_
            clear st
            intro b256 c256 sp256 w63 hc256 hs256 st
            replace st : St [] w w63 [(b256, arrU .i64 0 (fun _ => 0) ++ sp256, 2), (b200, layS s__6 (fun _ => ((p__7 : Nat) : Int)) C ++ sp200, 50), (b60, layS s__6 (fun _ => ((p__7 : Nat) : Int)) (dwC (shF a__8 b__9 p__18) p__7 x__22) ++ sp60, 50), (b5, schV ((s__6 : Nat) : Int) ((p__7 : Nat) : Int) (a__8) (b__9), 27)] := st
            refine Wl.pure (PR.moveV (.tuple #[.slice (some ⟨b256, 0, none⟩) (0) (c256), .int .i64 (((blC (bothC ((s__6 : Nat) : Int) ((p__7 : Nat) : Int) a__8 b__9 s__6 (fun _ => ((p__7 : Nat) : Int)) C) (pic (wrQ ((((s__6 : Nat) : Int)).toNat) ((((p__7 : Nat) : Int)).toNat) a__8 b__9 s__6 C p__18)) (flN (fun i_ => repOk ((((s__6 : Nat) : Int)).toNat) ((((p__7 : Nat) : Int)).toNat) a__8 b__9 s__6 C i_ p__18 (pic (wrQ ((((s__6 : Nat) : Int)).toNat) ((((p__7 : Nat) : Int)).toNat) a__8 b__9 s__6 C p__18))) (((s__6 : Nat) : Int)).toNat) : Nat) : Int))]) rfl) ?_
            refine Wl.pure (PR.extr (i := 0) (vs := [.slice (some ⟨b256, 0, none⟩) (0) (c256), .int .i64 (((blC (bothC ((s__6 : Nat) : Int) ((p__7 : Nat) : Int) a__8 b__9 s__6 (fun _ => ((p__7 : Nat) : Int)) C) (pic (wrQ ((((s__6 : Nat) : Int)).toNat) ((((p__7 : Nat) : Int)).toNat) a__8 b__9 s__6 C p__18)) (flN (fun i_ => repOk ((((s__6 : Nat) : Int)).toNat) ((((p__7 : Nat) : Int)).toNat) a__8 b__9 s__6 C i_ p__18 (pic (wrQ ((((s__6 : Nat) : Int)).toNat) ((((p__7 : Nat) : Int)).toNat) a__8 b__9 s__6 C p__18))) (((s__6 : Nat) : Int)).toNat) : Nat) : Int))]) rfl rfl) ?_
            refine Wl.pure (PR.extr (i := 1) (vs := [.slice (some ⟨b256, 0, none⟩) (0) (c256), .int .i64 (((blC (bothC ((s__6 : Nat) : Int) ((p__7 : Nat) : Int) a__8 b__9 s__6 (fun _ => ((p__7 : Nat) : Int)) C) (pic (wrQ ((((s__6 : Nat) : Int)).toNat) ((((p__7 : Nat) : Int)).toNat) a__8 b__9 s__6 C p__18)) (flN (fun i_ => repOk ((((s__6 : Nat) : Int)).toNat) ((((p__7 : Nat) : Int)).toNat) a__8 b__9 s__6 C i_ p__18 (pic (wrQ ((((s__6 : Nat) : Int)).toNat) ((((p__7 : Nat) : Int)).toNat) a__8 b__9 s__6 C p__18))) (((s__6 : Nat) : Int)).toNat) : Nat) : Int))]) rfl rfl) ?_
            refine Wl.pure (PR.assL rfl) ?_
            refine Wl.pure (PR.assI rfl) ?_
            refine Wl.nil ?_
            refine tn ?_
            refine Wc.seq ?_
            refine Wc.seq ?_
            rw [show (blC (bothC ((s__6 : Nat) : Int) ((p__7 : Nat) : Int) a__8 b__9 s__6 (fun _ => ((p__7 : Nat) : Int)) C) (pic (wrQ ((((s__6 : Nat) : Int)).toNat) ((((p__7 : Nat) : Int)).toNat) a__8 b__9 s__6 C p__18)) (flN (fun i_ => repOk ((((s__6 : Nat) : Int)).toNat) ((((p__7 : Nat) : Int)).toNat) a__8 b__9 s__6 C i_ p__18 (pic (wrQ ((((s__6 : Nat) : Int)).toNat) ((((p__7 : Nat) : Int)).toNat) a__8 b__9 s__6 C p__18))) (((s__6 : Nat) : Int)).toNat)) = 4 from hbl9]
            rw [show (selN (bothC ((s__6 : Nat) : Int) ((p__7 : Nat) : Int) a__8 b__9 s__6 (fun _ => ((p__7 : Nat) : Int)) C) (pic (wrQ ((((s__6 : Nat) : Int)).toNat) ((((p__7 : Nat) : Int)).toNat) a__8 b__9 s__6 C p__18))) = pic (wrQ s__6 p__7 a__8 b__9 s__6 C p__18) from (selN_0 hb1)]
            rw [show (bothC ((s__6 : Nat) : Int) ((p__7 : Nat) : Int) a__8 b__9 s__6 (fun _ => ((p__7 : Nat) : Int)) C) = 0 from hb1]
            rw [show (pic (wrQ s__6 p__7 a__8 b__9 s__6 C p__18)) = 0 from hW]
            refine Wc.region rfl ?_
            refine Wl.pure (PR.moveI rfl) ?_
            refine Wl.pure (PR.moveI rfl) ?_
            refine Wl.pure (PR.neqS (a := 0) rfl rfl) ?_
            refine Wl.pure (PR.moveB rfl) ?_
            refine Wl.on rfl rfl ?_
            refine Wl.pure (PR.moveI rfl) ?_
            refine Wl.on rfl rfl ?_
            refine Wl.pure (PR.neqS (a := 0) rfl rfl) ?_
            refine Wl.pure (PR.pickFB rfl rfl) ?_
            refine Wl.pure (PR.moveB rfl) ?_
            refine Wl.on rfl rfl ?_
            refine Wl.pure (PR.moveI rfl) ?_
            refine Wl.on rfl rfl ?_
            refine Wl.pure (PR.moveI rfl) ?_
            refine Wl.on rfl rfl ?_
            refine Wl.pure (PR.neqS (a := 0) rfl rfl) ?_
            refine Wl.pure (PR.pickFB rfl rfl) ?_
            refine Wl.pure (PR.moveB rfl) ?_
            refine Wl.on rfl rfl ?_
            refine Wl.pure (PR.moveI rfl) ?_
            refine Wl.on rfl rfl ?_
            refine Wl.pure (PR.moveI rfl) ?_
            refine Wl.on rfl rfl ?_
            refine Wl.pure (PR.neqS (a := 4) rfl rfl) ?_
            refine Wl.pure (PR.pickFB rfl rfl) ?_
            refine Wl.pure (PR.moveB rfl) ?_
            refine Wl.on rfl rfl ?_
            refine Wl.pure (PR.moveL rfl) ?_
            refine Wl.on rfl rfl ?_
            refine Wl.pure (PR.moveL rfl) ?_
            refine Wl.on rfl rfl ?_
            refine Wl.callV (c_SameNumbers (A := none) (n := 0) (cp := 0) (c := (fun _ => 0)) (B := some ⟨b256, 0, none⟩) (cq := c256) (fun h => absurd h (by decide)) ((st.rdA (i := 0) (n := 0) rfl (app_all (arrU_len _))).sl) (by first | assumption | omega)) rfl ?_
            intro w64 hbel
            replace st := st.call hbel
            clear hbel
            refine Wl.on rfl rfl ?_
            refine Wl.pure (PR.not_ rfl) ?_
            refine Wl.pure (PR.pickFB rfl rfl) ?_
            refine Wl.pure (PR.moveB rfl) ?_
            refine Wl.on rfl rfl ?_
            refine Wl.pure (PR.moveI rfl) ?_
            refine Wl.on rfl rfl ?_
            refine Wl.pure (PR.eqlS (a := 4) rfl rfl) ?_
            refine Wl.on rfl rfl ?_
            refine Wl.pure (PR.moveI rfl) ?_
            refine Wl.on rfl rfl ?_
            refine Wl.pure (PR.eqlS (a := 0) rfl rfl) ?_
            refine Wl.on rfl rfl ?_
            refine Wl.pure (PR.neqB (a := true) (b := true) Tryz.underlying4 rfl rfl) ?_
            rw [show (!((true == true))) = false from rfl]
            refine Wl.pure (PR.pickFB rfl rfl) ?_
            refine Wl.nil ?_
            refine tn ?_
            refine Wc.condF rfl ?_
            refine Wc.skip ?_
            refine tn ?_
            refine Wc.seq ?_
            refine Wc.seq ?_
            refine Wc.region rfl ?_
            refine Wl.pure (PR.moveI rfl) ?_
            refine Wl.pure (PR.eqlS (a := 0) rfl rfl) ?_
            refine Wl.nil ?_
            refine tn ?_
            refine Wc.condT rfl ?_
            refine Wc.seq ?_
            refine Wc.region rfl ?_
            refine Wl.pure (PR.assB rfl) ?_
            refine Wl.nil ?_
            refine tn ?_
            refine Wc.ret ?_
            refine tr ?_
            refine postL.tmp rfl rfl ?_
            exact RetV.of rfl st.below
          · have hfq : 0 < flN (fun i_ => repOk s__6 p__7 a__8 b__9 s__6 C i_ p__18 (pic (wrQ s__6 p__7 a__8 b__9 s__6 C p__18))) s__6 := flL_mem hi9 hrep
            have hfl9 := flN_le (fun i_ => repOk s__6 p__7 a__8 b__9 s__6 C i_ p__18 (pic (wrQ s__6 p__7 a__8 b__9 s__6 C p__18))) s__6
            have hbl : blC (bothC ((s__6 : Nat) : Int) ((p__7 : Nat) : Int) a__8 b__9 s__6 (fun _ => ((p__7 : Nat) : Int)) C) (pic (wrQ s__6 p__7 a__8 b__9 s__6 C p__18)) (flN (fun i_ => repOk s__6 p__7 a__8 b__9 s__6 C i_ p__18 (pic (wrQ s__6 p__7 a__8 b__9 s__6 C p__18))) s__6) = 0 := blC_0 hb1 hW (by omega)
            refine Wc.region rfl ?_
            refine Wl.loadA (i := 2) st tA_27 rfl rfl (all_sub schV_len) schV_len ?_
            refine Wl.pure (PR.moveI rfl) ?_
            refine Wl.pure (PR.moveL rfl) ?_
            refine Wl.callXG [] st (c_impl_BlamedShares_t (s := ((s__6 : Nat) : Int)) (p := ((p__7 : Nat) : Int)) (a := a__8) (b := b__9) (x := p__18) (A := some ⟨b200, 0, none⟩) (n := s__6) (cp := c200) (y := (fun _ => ((p__7 : Nat) : Int))) (c := C) (by first | assumption | omega) (by first | assumption | omega) (by assumption) (by assumption) (by first | assumption | omega) ((st.rdA (i := 0) (n := (s__6 * 65)) rfl (app_all (recV_len (s := 65) (layS_row _ _) _))).sl) (by assumption) hCb (by first | assumption | omega) hbl) rfl rfl ?_
            clear st
            intro b249 c249 sp249 w65 hc249 hs249 st
            replace st : St [] w w65 [(b249, arrU .i64 (flN (fun i_ => repOk ((((s__6 : Nat) : Int)).toNat) ((((p__7 : Nat) : Int)).toNat) a__8 b__9 s__6 C i_ p__18 (pic (wrQ ((((s__6 : Nat) : Int)).toNat) ((((p__7 : Nat) : Int)).toNat) a__8 b__9 s__6 C p__18))) (((s__6 : Nat) : Int)).toNat) (fun j => (fun z => z) (flA (fun i_ => repOk ((((s__6 : Nat) : Int)).toNat) ((((p__7 : Nat) : Int)).toNat) a__8 b__9 s__6 C i_ p__18 (pic (wrQ ((((s__6 : Nat) : Int)).toNat) ((((p__7 : Nat) : Int)).toNat) a__8 b__9 s__6 C p__18))) (((s__6 : Nat) : Int)).toNat j)) ++ sp249, 2), (b200, layS s__6 (fun _ => ((p__7 : Nat) : Int)) C ++ sp200, 50), (b60, layS s__6 (fun _ => ((p__7 : Nat) : Int)) (dwC (shF a__8 b__9 p__18) p__7 x__22) ++ sp60, 50), (b5, schV ((s__6 : Nat) : Int) ((p__7 : Nat) : Int) (a__8) (b__9), 27)] := st
            refine Wl.pure (PR.moveV (.tuple #[.slice (some ⟨b249, 0, none⟩) ((flN (fun i_ => repOk ((((s__6 : Nat) : Int)).toNat) ((((p__7 : Nat) : Int)).toNat) a__8 b__9 s__6 C i_ p__18 (pic (wrQ ((((s__6 : Nat) : Int)).toNat) ((((p__7 : Nat) : Int)).toNat) a__8 b__9 s__6 C p__18))) (((s__6 : Nat) : Int)).toNat)) (c249), .int .i64 (0)]) rfl) ?_
            refine Wl.pure (PR.extr (i := 0) (vs := [.slice (some ⟨b249, 0, none⟩) ((flN (fun i_ => repOk ((((s__6 : Nat) : Int)).toNat) ((((p__7 : Nat) : Int)).toNat) a__8 b__9 s__6 C i_ p__18 (pic (wrQ ((((s__6 : Nat) : Int)).toNat) ((((p__7 : Nat) : Int)).toNat) a__8 b__9 s__6 C p__18))) (((s__6 : Nat) : Int)).toNat)) (c249), .int .i64 (0)]) rfl rfl) ?_
            refine Wl.pure (PR.extr (i := 1) (vs := [.slice (some ⟨b249, 0, none⟩) ((flN (fun i_ => repOk ((((s__6 : Nat) : Int)).toNat) ((((p__7 : Nat) : Int)).toNat) a__8 b__9 s__6 C i_ p__18 (pic (wrQ ((((s__6 : Nat) : Int)).toNat) ((((p__7 : Nat) : Int)).toNat) a__8 b__9 s__6 C p__18))) (((s__6 : Nat) : Int)).toNat)) (c249), .int .i64 (0)]) rfl rfl) ?_
            refine Wl.pure (PR.assL rfl) ?_
            refine Wl.pure (PR.assI rfl) ?_
            refine Wl.nil ?_
            refine tn ?_
            refine Wc.seq ?_
            refine Wc.region rfl ?_
            refine Wl.loadA (i := 3) st tA_27 rfl rfl (all_sub schV_len) schV_len ?_
            refine Wl.pure (PR.moveI rfl) ?_
            refine Wl.pure (PR.moveL rfl) ?_
            refine Wl.callXG [] st (c_spec_BlamedShares_t (s := ((s__6 : Nat) : Int)) (p := ((p__7 : Nat) : Int)) (a := a__8) (b := b__9) (x := p__18) (A := some ⟨b200, 0, none⟩) (n := s__6) (cp := c200) (y := (fun _ => ((p__7 : Nat) : Int))) (c := C) (by first | assumption | omega) (by first | assumption | omega) (by assumption) (by assumption) (by first | assumption | omega) ((st.rdA (i := 1) (n := (s__6 * 65)) rfl (app_all (recV_len (s := 65) (layS_row _ _) _))).sl) (by assumption) hCb (by first | assumption | omega) hbl) rfl rfl ?_
            clear st
            intro b256_67 c256_67 sp256_67 w66 hc256_67 hs256_67 st
            replace st : St [] w w66 [(b256_67, arrU .i64 (flN (fun i_ => repOk ((((s__6 : Nat) : Int)).toNat) ((((p__7 : Nat) : Int)).toNat) a__8 b__9 s__6 C i_ p__18 (pic (wrQ ((((s__6 : Nat) : Int)).toNat) ((((p__7 : Nat) : Int)).toNat) a__8 b__9 s__6 C p__18))) (((s__6 : Nat) : Int)).toNat) (fun j => (fun z => z) (flA (fun i_ => repOk ((((s__6 : Nat) : Int)).toNat) ((((p__7 : Nat) : Int)).toNat) a__8 b__9 s__6 C i_ p__18 (pic (wrQ ((((s__6 : Nat) : Int)).toNat) ((((p__7 : Nat) : Int)).toNat) a__8 b__9 s__6 C p__18))) (((s__6 : Nat) : Int)).toNat j)) ++ sp256_67, 2), (b249, arrU .i64 (flN (fun i_ => repOk ((((s__6 : Nat) : Int)).toNat) ((((p__7 : Nat) : Int)).toNat) a__8 b__9 s__6 C i_ p__18 (pic (wrQ ((((s__6 : Nat) : Int)).toNat) ((((p__7 : Nat) : Int)).toNat) a__8 b__9 s__6 C p__18))) (((s__6 : Nat) : Int)).toNat) (fun j => (fun z => z) (flA (fun i_ => repOk ((((s__6 : Nat) : Int)).toNat) ((((p__7 : Nat) : Int)).toNat) a__8 b__9 s__6 C i_ p__18 (pic (wrQ ((((s__6 : Nat) : Int)).toNat) ((((p__7 : Nat) : Int)).toNat) a__8 b__9 s__6 C p__18))) (((s__6 : Nat) : Int)).toNat j)) ++ sp249, 2), (b200, layS s__6 (fun _ => ((p__7 : Nat) : Int)) C ++ sp200, 50), (b60, layS s__6 (fun _ => ((p__7 : Nat) : Int)) (dwC (shF a__8 b__9 p__18) p__7 x__22) ++ sp60, 50), (b5, schV ((s__6 : Nat) : Int) ((p__7 : Nat) : Int) (a__8) (b__9), 27)] := st
            refine Wl.pure (PR.moveV (.tuple #[.slice (some ⟨b256_67, 0, none⟩) ((flN (fun i_ => repOk ((((s__6 : Nat) : Int)).toNat) ((((p__7 : Nat) : Int)).toNat) a__8 b__9 s__6 C i_ p__18 (pic (wrQ ((((s__6 : Nat) : Int)).toNat) ((((p__7 : Nat) : Int)).toNat) a__8 b__9 s__6 C p__18))) (((s__6 : Nat) : Int)).toNat)) (c256_67), .int .i64 (0)]) rfl) ?_
            refine Wl.pure (PR.extr (i := 0) (vs := [.slice (some ⟨b256_67, 0, none⟩) ((flN (fun i_ => repOk ((((s__6 : Nat) : Int)).toNat) ((((p__7 : Nat) : Int)).toNat) a__8 b__9 s__6 C i_ p__18 (pic (wrQ ((((s__6 : Nat) : Int)).toNat) ((((p__7 : Nat) : Int)).toNat) a__8 b__9 s__6 C p__18))) (((s__6 : Nat) : Int)).toNat)) (c256_67), .int .i64 (0)]) rfl rfl) ?_
            refine Wl.pure (PR.extr (i := 1) (vs := [.slice (some ⟨b256_67, 0, none⟩) ((flN (fun i_ => repOk ((((s__6 : Nat) : Int)).toNat) ((((p__7 : Nat) : Int)).toNat) a__8 b__9 s__6 C i_ p__18 (pic (wrQ ((((s__6 : Nat) : Int)).toNat) ((((p__7 : Nat) : Int)).toNat) a__8 b__9 s__6 C p__18))) (((s__6 : Nat) : Int)).toNat)) (c256_67), .int .i64 (0)]) rfl rfl) ?_
            refine Wl.pure (PR.assL rfl) ?_
            refine Wl.pure (PR.assI rfl) ?_
            refine Wl.nil ?_
            refine tn ?_
            refine Wc.seq ?_
            refine Wc.seq ?_
            rw [show (selN (bothC ((s__6 : Nat) : Int) ((p__7 : Nat) : Int) a__8 b__9 s__6 (fun _ => ((p__7 : Nat) : Int)) C) (pic (wrQ ((((s__6 : Nat) : Int)).toNat) ((((p__7 : Nat) : Int)).toNat) a__8 b__9 s__6 C p__18))) = pic (wrQ s__6 p__7 a__8 b__9 s__6 C p__18) from (selN_0 hb1)]
            rw [show (bothC ((s__6 : Nat) : Int) ((p__7 : Nat) : Int) a__8 b__9 s__6 (fun _ => ((p__7 : Nat) : Int)) C) = 0 from hb1]
            have hfl7 : (flN (fun i_ => repOk ((((s__6 : Nat) : Int)).toNat) ((((p__7 : Nat) : Int)).toNat) a__8 b__9 s__6 C i_ p__18 (pic (wrQ ((((s__6 : Nat) : Int)).toNat) ((((p__7 : Nat) : Int)).toNat) a__8 b__9 s__6 C p__18))) (((s__6 : Nat) : Int)).toNat) ≤ s__6 := flN_le _ _
            refine Wc.region rfl ?_
            refine Wl.pure (PR.moveI rfl) ?_
            refine Wl.pure (PR.moveI rfl) ?_
            refine Wl.pure (PR.neqS (a := 0) rfl rfl) ?_
            refine Wl.pure (PR.moveB rfl) ?_
            refine Wl.on rfl rfl ?_
            refine Wl.pure (PR.moveI rfl) ?_
            refine Wl.on rfl rfl ?_
            refine Wl.pure (PR.neqS (a := 0) rfl rfl) ?_
            refine Wl.pure (PR.pickFB rfl rfl) ?_
            refine Wl.pure (PR.moveB rfl) ?_
            refine Wl.on rfl rfl ?_
            refine Wl.pure (PR.moveI rfl) ?_
            refine Wl.on rfl rfl ?_
            refine Wl.pure (PR.moveI rfl) ?_
            refine Wl.on rfl rfl ?_
            refine Wl.pure (PR.neqS (a := ((pic (wrQ s__6 p__7 a__8 b__9 s__6 C p__18) : Nat) : Int)) rfl rfl) ?_
            refine Wl.pure (PR.pickFB rfl rfl) ?_
            refine Wl.pure (PR.moveB rfl) ?_
            refine Wl.on rfl rfl ?_
            refine Wl.pure (PR.moveI rfl) ?_
            refine Wl.on rfl rfl ?_
            refine Wl.pure (PR.moveI rfl) ?_
            refine Wl.on rfl rfl ?_
            refine Wl.pure (PR.neqS (a := 0) rfl rfl) ?_
            refine Wl.pure (PR.pickFB rfl rfl) ?_
            refine Wl.pure (PR.moveB rfl) ?_
            refine Wl.on rfl rfl ?_
            refine Wl.pure (PR.moveL rfl) ?_
            refine Wl.on rfl rfl ?_
            refine Wl.pure (PR.moveL rfl) ?_
            refine Wl.on rfl rfl ?_
            refine Wl.callV (c_SameNumbers (A := some ⟨b249, 0, none⟩) (n := (flN (fun i_ => repOk ((((s__6 : Nat) : Int)).toNat) ((((p__7 : Nat) : Int)).toNat) a__8 b__9 s__6 C i_ p__18 (pic (wrQ ((((s__6 : Nat) : Int)).toNat) ((((p__7 : Nat) : Int)).toNat) a__8 b__9 s__6 C p__18))) (((s__6 : Nat) : Int)).toNat)) (cp := c249) (c := (fun j => (fun z => z) (flA (fun i_ => repOk ((((s__6 : Nat) : Int)).toNat) ((((p__7 : Nat) : Int)).toNat) a__8 b__9 s__6 C i_ p__18 (pic (wrQ ((((s__6 : Nat) : Int)).toNat) ((((p__7 : Nat) : Int)).toNat) a__8 b__9 s__6 C p__18))) (((s__6 : Nat) : Int)).toNat j))) (B := some ⟨b256_67, 0, none⟩) (cq := c256_67) ((st.rdA (i := 1) (n := (flN (fun i_ => repOk ((((s__6 : Nat) : Int)).toNat) ((((p__7 : Nat) : Int)).toNat) a__8 b__9 s__6 C i_ p__18 (pic (wrQ ((((s__6 : Nat) : Int)).toNat) ((((p__7 : Nat) : Int)).toNat) a__8 b__9 s__6 C p__18))) (((s__6 : Nat) : Int)).toNat)) rfl (app_all (arrU_len _))).sl) ((st.rdA (i := 0) (n := (flN (fun i_ => repOk ((((s__6 : Nat) : Int)).toNat) ((((p__7 : Nat) : Int)).toNat) a__8 b__9 s__6 C i_ p__18 (pic (wrQ ((((s__6 : Nat) : Int)).toNat) ((((p__7 : Nat) : Int)).toNat) a__8 b__9 s__6 C p__18))) (((s__6 : Nat) : Int)).toNat)) rfl (app_all (arrU_len _))).sl) (by first | assumption | omega)) rfl ?_
            intro w68 hbel
            replace st := st.call hbel
            clear hbel
            refine Wl.on rfl rfl ?_
            refine Wl.pure (PR.not_ rfl) ?_
            refine Wl.pure (PR.pickFB rfl rfl) ?_
            refine Wl.pure (PR.moveB rfl) ?_
            refine Wl.on rfl rfl ?_
            refine Wl.pure (PR.moveI rfl) ?_
            refine Wl.on rfl rfl ?_
            refine Wl.pure (PR.eql (a := 0) (b := 4) rfl rfl) ?_
            refine Wl.on rfl rfl ?_
            refine Wl.pure (PR.moveI rfl) ?_
            refine Wl.on rfl rfl ?_
            refine Wl.pure (PR.eql (a := ((pic (wrQ s__6 p__7 a__8 b__9 s__6 C p__18) : Nat) : Int)) (b := 0) rfl rfl) ?_
            rw [show (decide ((0 : Int) = 4)) = false from rfl]
            refine Wl.on rfl rfl ?_
            refine Wl.pure (PR.neqB (a := false) (b := (decide (((pic (wrQ s__6 p__7 a__8 b__9 s__6 C p__18) : Nat) : Int) = 0))) Tryz.underlying4 rfl rfl) ?_
            rw [show (!((false == (decide (((pic (wrQ s__6 p__7 a__8 b__9 s__6 C p__18) : Nat) : Int) = 0))))) = false from (by rw [decide_eq_false (by omega)]; rfl)]
            refine Wl.pure (PR.pickFB rfl rfl) ?_
            refine Wl.nil ?_
            refine tn ?_
            refine Wc.condF rfl ?_
            refine Wc.skip ?_
            refine tn ?_
            refine Wc.seq ?_
            refine Wc.seq ?_
            refine Wc.region rfl ?_
            refine Wl.pure (PR.moveI rfl) ?_
            refine Wl.pure (PR.eql (a := ((pic (wrQ s__6 p__7 a__8 b__9 s__6 C p__18) : Nat) : Int)) (b := 0) rfl rfl) ?_
            refine Wl.nil ?_
            refine tn ?_
            refine Wc.condD (p := ((pic (wrQ s__6 p__7 a__8 b__9 s__6 C p__18) : Nat) : Int) = 0) rfl (fun h69 => ?_) (fun h69 => ?_)
            · refine Wc.seq ?_
              refine Wc.region rfl ?_
              refine Wl.pure (PR.assB rfl) ?_
              refine Wl.nil ?_
              refine tn ?_
              refine Wc.ret ?_
              refine tr ?_
              refine postL.tmp rfl rfl ?_
              exact RetV.of rfl st.below
            · refine Wc.skip ?_
              refine tn ?_
              refine Wc.seq ?_
              refine Wc.seq ?_
              refine Wc.region rfl ?_
              refine Wl.pure (PR.moveI rfl) ?_
              refine Wl.pure (PR.neqS (a := 0) rfl rfl) ?_
              refine Wl.pure (PR.moveB rfl) ?_
              refine Wl.on rfl rfl ?_
              refine Wl.pure (PR.moveL rfl) ?_
              refine Wl.on rfl rfl ?_
              refine Wl.pure (PR.moveI rfl) ?_
              refine Wl.on rfl rfl ?_
              refine Wl.callV (c_spec_HasNumber (A := some ⟨b256_67, 0, none⟩) (n := (flN (fun i_ => repOk ((((s__6 : Nat) : Int)).toNat) ((((p__7 : Nat) : Int)).toNat) a__8 b__9 s__6 C i_ p__18 (pic (wrQ ((((s__6 : Nat) : Int)).toNat) ((((p__7 : Nat) : Int)).toNat) a__8 b__9 s__6 C p__18))) (((s__6 : Nat) : Int)).toNat)) (cp := c256_67) (c := (fun j => (fun z => z) (flA (fun i_ => repOk ((((s__6 : Nat) : Int)).toNat) ((((p__7 : Nat) : Int)).toNat) a__8 b__9 s__6 C i_ p__18 (pic (wrQ ((((s__6 : Nat) : Int)).toNat) ((((p__7 : Nat) : Int)).toNat) a__8 b__9 s__6 C p__18))) (((s__6 : Nat) : Int)).toNat j))) (z := v__28) ((st.rdA (i := 0) (n := (flN (fun i_ => repOk ((((s__6 : Nat) : Int)).toNat) ((((p__7 : Nat) : Int)).toNat) a__8 b__9 s__6 C i_ p__18 (pic (wrQ ((((s__6 : Nat) : Int)).toNat) ((((p__7 : Nat) : Int)).toNat) a__8 b__9 s__6 C p__18))) (((s__6 : Nat) : Int)).toNat)) rfl (app_all (arrU_len _))).sl) (by first | assumption | omega)) rfl ?_
              intro w70 hbel
              replace st := st.call hbel
              clear hbel
              refine Wl.on rfl rfl ?_
              refine Wl.pure (PR.not_ rfl) ?_
              rw [show (!(hasB (flN (fun i_ => repOk ((((s__6 : Nat) : Int)).toNat) ((((p__7 : Nat) : Int)).toNat) a__8 b__9 s__6 C i_ p__18 (pic (wrQ ((((s__6 : Nat) : Int)).toNat) ((((p__7 : Nat) : Int)).toNat) a__8 b__9 s__6 C p__18))) (((s__6 : Nat) : Int)).toNat) (fun j => (fun z => z) (flA (fun i_ => repOk ((((s__6 : Nat) : Int)).toNat) ((((p__7 : Nat) : Int)).toNat) a__8 b__9 s__6 C i_ p__18 (pic (wrQ ((((s__6 : Nat) : Int)).toNat) ((((p__7 : Nat) : Int)).toNat) a__8 b__9 s__6 C p__18))) (((s__6 : Nat) : Int)).toNat j)) v__28)) = false from (congrArg (fun x : Bool => !x) (has_yes hi9 hrep))]
              refine Wl.pure (PR.pickFB rfl rfl) ?_
              refine Wl.nil ?_
              refine tn ?_
              refine Wc.condF rfl ?_
              refine Wc.skip ?_
              refine tn ?_
              refine Wc.seq ?_
              refine Wc.seq ?_
              refine Wc.region rfl ?_
              refine Wl.pure (PR.assI rfl) ?_
              refine Wl.nil ?_
              refine tn ?_
              refine Wc.block ?_
              refine Wc.loopF (γ := Nat) (fun g => [(5, .pointer (some ⟨b5, 0, none⟩)), (6, .int .u64 (((p__18 : Nat) : Int))), (24, .slice (some ⟨b200, 0, none⟩) (s__6) (c200)), (29, .int .u64 (((pic (wrQ s__6 p__7 a__8 b__9 s__6 C p__18) : Nat) : Int))), (33, .slice (some ⟨b256_67, 0, none⟩) ((flN (fun i_ => repOk ((((s__6 : Nat) : Int)).toNat) ((((p__7 : Nat) : Int)).toNat) a__8 b__9 s__6 C i_ p__18 (pic (wrQ ((((s__6 : Nat) : Int)).toNat) ((((p__7 : Nat) : Int)).toNat) a__8 b__9 s__6 C p__18))) (((s__6 : Nat) : Int)).toNat)) (c256_67)), (35, .int .i64 (((g : Nat) : Int)))]) (fun g w_ => St [] w w_ [(b256_67, arrU .i64 (flN (fun i_ => repOk ((((s__6 : Nat) : Int)).toNat) ((((p__7 : Nat) : Int)).toNat) a__8 b__9 s__6 C i_ p__18 (pic (wrQ ((((s__6 : Nat) : Int)).toNat) ((((p__7 : Nat) : Int)).toNat) a__8 b__9 s__6 C p__18))) (((s__6 : Nat) : Int)).toNat) (fun j => (fun z => z) (flA (fun i_ => repOk ((((s__6 : Nat) : Int)).toNat) ((((p__7 : Nat) : Int)).toNat) a__8 b__9 s__6 C i_ p__18 (pic (wrQ ((((s__6 : Nat) : Int)).toNat) ((((p__7 : Nat) : Int)).toNat) a__8 b__9 s__6 C p__18))) (((s__6 : Nat) : Int)).toNat j)) ++ sp256_67, 2), (b249, arrU .i64 (flN (fun i_ => repOk ((((s__6 : Nat) : Int)).toNat) ((((p__7 : Nat) : Int)).toNat) a__8 b__9 s__6 C i_ p__18 (pic (wrQ ((((s__6 : Nat) : Int)).toNat) ((((p__7 : Nat) : Int)).toNat) a__8 b__9 s__6 C p__18))) (((s__6 : Nat) : Int)).toNat) (fun j => (fun z => z) (flA (fun i_ => repOk ((((s__6 : Nat) : Int)).toNat) ((((p__7 : Nat) : Int)).toNat) a__8 b__9 s__6 C i_ p__18 (pic (wrQ ((((s__6 : Nat) : Int)).toNat) ((((p__7 : Nat) : Int)).toNat) a__8 b__9 s__6 C p__18))) (((s__6 : Nat) : Int)).toNat j)) ++ sp249, 2), (b200, layS s__6 (fun _ => ((p__7 : Nat) : Int)) C ++ sp200, 50), (b60, layS s__6 (fun _ => ((p__7 : Nat) : Int)) (dwC (shF a__8 b__9 p__18) p__7 x__22) ++ sp60, 50), (b5, schV ((s__6 : Nat) : Int) ((p__7 : Nat) : Int) (a__8) (b__9), 27)] ∧ (g ≤ s__6)) (fun g => s__6 - g) ?_ ?_
              · exact ⟨0, (.cons rfl (.cons rfl (.cons rfl (.cons rfl (.cons rfl (.cons rfl (.nil _))))))), st, (by first | omega | (dsimp only; omega))⟩
              clear st
              rintro i w71 ⟨st, hi⟩
              try dsimp only at st hi ⊢
              refine Wc.seq ?_
              refine Wc.seq ?_
              refine Wc.region rfl ?_
              refine Wl.pure (PR.moveI rfl) ?_
              refine Wl.pure (PR.fieldAddr tF_27_0 rfl) ?_
              refine Wl.load (i := 4) st tA_24 rfl rfl (rfl) ?_
              refine Wl.pure (PR.conv (n := ((s__6 : Nat) : Int)) tI_2 rfl (by simp only [fitI]; omega) Tryz.underlying24) ?_
              refine Wl.pure (PR.lss (a := ((i : Nat) : Int)) (b := ((s__6 : Nat) : Int)) rfl rfl) ?_
              refine Wl.nil ?_
              refine tn ?_
              refine Wc.condD (p := ((i : Nat) : Int) < ((s__6 : Nat) : Int)) rfl (fun h72 => ?_) (fun h72 => ?_)
              · refine Wc.skip ?_
                refine tn ?_
                refine Wc.seq ?_
                refine Wc.block ?_
                refine Wc.seq ?_
                refine Wc.region rfl ?_
                refine Wl.loadA (i := 4) st tA_27 rfl rfl (all_sub schV_len) schV_len ?_
                refine Wl.pure (PR.moveI rfl) ?_
                refine Wl.pure (PR.moveL rfl) ?_
                refine Wl.pure (PR.moveI rfl) ?_
                refine Wl.callV (c_impl_RepairLayer (s := ((s__6 : Nat) : Int)) (p := ((p__7 : Nat) : Int)) (a := a__8) (b := b__9) (x := p__18) (A := some ⟨b200, 0, none⟩) (n := s__6) (cp := c200) (y := (fun _ => ((p__7 : Nat) : Int))) (c := C) (z := ((i : Nat) : Int)) (by first | assumption | omega) (by first | assumption | omega) (by assumption) (by assumption) (by first | assumption | omega) ((st.rdA (i := 2) (n := (s__6 * 65)) rfl (app_all (recV_len (s := 65) (layS_row _ _) _))).sl) (by assumption) hCb (by first | assumption | omega)) rfl ?_
                intro w73 hbel
                replace st := st.call hbel
                clear hbel
                refine Wl.pure (PR.moveV (.tuple #[.agg (layV (rpZ (rlB (shC ((s__6 : Nat) : Int) ((p__7 : Nat) : Int) a__8 b__9 s__6 (fun _ => ((p__7 : Nat) : Int)) C ((i : Nat) : Int)) (repOk ((((s__6 : Nat) : Int)).toNat) ((((p__7 : Nat) : Int)).toNat) a__8 b__9 s__6 C ((((i : Nat) : Int)).toNat) p__18 (pic (wrQ ((((s__6 : Nat) : Int)).toNat) ((((p__7 : Nat) : Int)).toNat) a__8 b__9 s__6 C p__18)))) ((fun _ => ((p__7 : Nat) : Int)) (((i : Nat) : Int)).toNat)) ((rpF (rlB (shC ((s__6 : Nat) : Int) ((p__7 : Nat) : Int) a__8 b__9 s__6 (fun _ => ((p__7 : Nat) : Int)) C ((i : Nat) : Int)) (repOk ((((s__6 : Nat) : Int)).toNat) ((((p__7 : Nat) : Int)).toNat) a__8 b__9 s__6 C ((((i : Nat) : Int)).toNat) p__18 (pic (wrQ ((((s__6 : Nat) : Int)).toNat) ((((p__7 : Nat) : Int)).toNat) a__8 b__9 s__6 C p__18)))) (rpC ((((s__6 : Nat) : Int)).toNat) ((((p__7 : Nat) : Int)).toNat) a__8 b__9 s__6 C ((((i : Nat) : Int)).toNat) p__18 (pic (wrQ ((((s__6 : Nat) : Int)).toNat) ((((p__7 : Nat) : Int)).toNat) a__8 b__9 s__6 C p__18)))))).toArray, .int .i64 (((rpN (rlB (shC ((s__6 : Nat) : Int) ((p__7 : Nat) : Int) a__8 b__9 s__6 (fun _ => ((p__7 : Nat) : Int)) C ((i : Nat) : Int)) (repOk ((((s__6 : Nat) : Int)).toNat) ((((p__7 : Nat) : Int)).toNat) a__8 b__9 s__6 C ((((i : Nat) : Int)).toNat) p__18 (pic (wrQ ((((s__6 : Nat) : Int)).toNat) ((((p__7 : Nat) : Int)).toNat) a__8 b__9 s__6 C p__18)))) (pc (pic (wrQ ((((s__6 : Nat) : Int)).toNat) ((((p__7 : Nat) : Int)).toNat) a__8 b__9 s__6 C p__18))) : Nat) : Int)), .int .i64 (((rlC (shC ((s__6 : Nat) : Int) ((p__7 : Nat) : Int) a__8 b__9 s__6 (fun _ => ((p__7 : Nat) : Int)) C ((i : Nat) : Int)) (repOk ((((s__6 : Nat) : Int)).toNat) ((((p__7 : Nat) : Int)).toNat) a__8 b__9 s__6 C ((((i : Nat) : Int)).toNat) p__18 (pic (wrQ ((((s__6 : Nat) : Int)).toNat) ((((p__7 : Nat) : Int)).toNat) a__8 b__9 s__6 C p__18))) : Nat) : Int))]) rfl) ?_
                refine Wl.pure (PR.extr (i := 0) (vs := [.agg (layV (rpZ (rlB (shC ((s__6 : Nat) : Int) ((p__7 : Nat) : Int) a__8 b__9 s__6 (fun _ => ((p__7 : Nat) : Int)) C ((i : Nat) : Int)) (repOk ((((s__6 : Nat) : Int)).toNat) ((((p__7 : Nat) : Int)).toNat) a__8 b__9 s__6 C ((((i : Nat) : Int)).toNat) p__18 (pic (wrQ ((((s__6 : Nat) : Int)).toNat) ((((p__7 : Nat) : Int)).toNat) a__8 b__9 s__6 C p__18)))) ((fun _ => ((p__7 : Nat) : Int)) (((i : Nat) : Int)).toNat)) ((rpF (rlB (shC ((s__6 : Nat) : Int) ((p__7 : Nat) : Int) a__8 b__9 s__6 (fun _ => ((p__7 : Nat) : Int)) C ((i : Nat) : Int)) (repOk ((((s__6 : Nat) : Int)).toNat) ((((p__7 : Nat) : Int)).toNat) a__8 b__9 s__6 C ((((i : Nat) : Int)).toNat) p__18 (pic (wrQ ((((s__6 : Nat) : Int)).toNat) ((((p__7 : Nat) : Int)).toNat) a__8 b__9 s__6 C p__18)))) (rpC ((((s__6 : Nat) : Int)).toNat) ((((p__7 : Nat) : Int)).toNat) a__8 b__9 s__6 C ((((i : Nat) : Int)).toNat) p__18 (pic (wrQ ((((s__6 : Nat) : Int)).toNat) ((((p__7 : Nat) : Int)).toNat) a__8 b__9 s__6 C p__18)))))).toArray, .int .i64 (((rpN (rlB (shC ((s__6 : Nat) : Int) ((p__7 : Nat) : Int) a__8 b__9 s__6 (fun _ => ((p__7 : Nat) : Int)) C ((i : Nat) : Int)) (repOk ((((s__6 : Nat) : Int)).toNat) ((((p__7 : Nat) : Int)).toNat) a__8 b__9 s__6 C ((((i : Nat) : Int)).toNat) p__18 (pic (wrQ ((((s__6 : Nat) : Int)).toNat) ((((p__7 : Nat) : Int)).toNat) a__8 b__9 s__6 C p__18)))) (pc (pic (wrQ ((((s__6 : Nat) : Int)).toNat) ((((p__7 : Nat) : Int)).toNat) a__8 b__9 s__6 C p__18))) : Nat) : Int)), .int .i64 (((rlC (shC ((s__6 : Nat) : Int) ((p__7 : Nat) : Int) a__8 b__9 s__6 (fun _ => ((p__7 : Nat) : Int)) C ((i : Nat) : Int)) (repOk ((((s__6 : Nat) : Int)).toNat) ((((p__7 : Nat) : Int)).toNat) a__8 b__9 s__6 C ((((i : Nat) : Int)).toNat) p__18 (pic (wrQ ((((s__6 : Nat) : Int)).toNat) ((((p__7 : Nat) : Int)).toNat) a__8 b__9 s__6 C p__18))) : Nat) : Int))]) rfl rfl) ?_
                refine Wl.pure (PR.extr (i := 1) (vs := [.agg (layV (rpZ (rlB (shC ((s__6 : Nat) : Int) ((p__7 : Nat) : Int) a__8 b__9 s__6 (fun _ => ((p__7 : Nat) : Int)) C ((i : Nat) : Int)) (repOk ((((s__6 : Nat) : Int)).toNat) ((((p__7 : Nat) : Int)).toNat) a__8 b__9 s__6 C ((((i : Nat) : Int)).toNat) p__18 (pic (wrQ ((((s__6 : Nat) : Int)).toNat) ((((p__7 : Nat) : Int)).toNat) a__8 b__9 s__6 C p__18)))) ((fun _ => ((p__7 : Nat) : Int)) (((i : Nat) : Int)).toNat)) ((rpF (rlB (shC ((s__6 : Nat) : Int) ((p__7 : Nat) : Int) a__8 b__9 s__6 (fun _ => ((p__7 : Nat) : Int)) C ((i : Nat) : Int)) (repOk ((((s__6 : Nat) : Int)).toNat) ((((p__7 : Nat) : Int)).toNat) a__8 b__9 s__6 C ((((i : Nat) : Int)).toNat) p__18 (pic (wrQ ((((s__6 : Nat) : Int)).toNat) ((((p__7 : Nat) : Int)).toNat) a__8 b__9 s__6 C p__18)))) (rpC ((((s__6 : Nat) : Int)).toNat) ((((p__7 : Nat) : Int)).toNat) a__8 b__9 s__6 C ((((i : Nat) : Int)).toNat) p__18 (pic (wrQ ((((s__6 : Nat) : Int)).toNat) ((((p__7 : Nat) : Int)).toNat) a__8 b__9 s__6 C p__18)))))).toArray, .int .i64 (((rpN (rlB (shC ((s__6 : Nat) : Int) ((p__7 : Nat) : Int) a__8 b__9 s__6 (fun _ => ((p__7 : Nat) : Int)) C ((i : Nat) : Int)) (repOk ((((s__6 : Nat) : Int)).toNat) ((((p__7 : Nat) : Int)).toNat) a__8 b__9 s__6 C ((((i : Nat) : Int)).toNat) p__18 (pic (wrQ ((((s__6 : Nat) : Int)).toNat) ((((p__7 : Nat) : Int)).toNat) a__8 b__9 s__6 C p__18)))) (pc (pic (wrQ ((((s__6 : Nat) : Int)).toNat) ((((p__7 : Nat) : Int)).toNat) a__8 b__9 s__6 C p__18))) : Nat) : Int)), .int .i64 (((rlC (shC ((s__6 : Nat) : Int) ((p__7 : Nat) : Int) a__8 b__9 s__6 (fun _ => ((p__7 : Nat) : Int)) C ((i : Nat) : Int)) (repOk ((((s__6 : Nat) : Int)).toNat) ((((p__7 : Nat) : Int)).toNat) a__8 b__9 s__6 C ((((i : Nat) : Int)).toNat) p__18 (pic (wrQ ((((s__6 : Nat) : Int)).toNat) ((((p__7 : Nat) : Int)).toNat) a__8 b__9 s__6 C p__18))) : Nat) : Int))]) rfl rfl) ?_
                refine Wl.pure (PR.extr (i := 2) (vs := [.agg (layV (rpZ (rlB (shC ((s__6 : Nat) : Int) ((p__7 : Nat) : Int) a__8 b__9 s__6 (fun _ => ((p__7 : Nat) : Int)) C ((i : Nat) : Int)) (repOk ((((s__6 : Nat) : Int)).toNat) ((((p__7 : Nat) : Int)).toNat) a__8 b__9 s__6 C ((((i : Nat) : Int)).toNat) p__18 (pic (wrQ ((((s__6 : Nat) : Int)).toNat) ((((p__7 : Nat) : Int)).toNat) a__8 b__9 s__6 C p__18)))) ((fun _ => ((p__7 : Nat) : Int)) (((i : Nat) : Int)).toNat)) ((rpF (rlB (shC ((s__6 : Nat) : Int) ((p__7 : Nat) : Int) a__8 b__9 s__6 (fun _ => ((p__7 : Nat) : Int)) C ((i : Nat) : Int)) (repOk ((((s__6 : Nat) : Int)).toNat) ((((p__7 : Nat) : Int)).toNat) a__8 b__9 s__6 C ((((i : Nat) : Int)).toNat) p__18 (pic (wrQ ((((s__6 : Nat) : Int)).toNat) ((((p__7 : Nat) : Int)).toNat) a__8 b__9 s__6 C p__18)))) (rpC ((((s__6 : Nat) : Int)).toNat) ((((p__7 : Nat) : Int)).toNat) a__8 b__9 s__6 C ((((i : Nat) : Int)).toNat) p__18 (pic (wrQ ((((s__6 : Nat) : Int)).toNat) ((((p__7 : Nat) : Int)).toNat) a__8 b__9 s__6 C p__18)))))).toArray, .int .i64 (((rpN (rlB (shC ((s__6 : Nat) : Int) ((p__7 : Nat) : Int) a__8 b__9 s__6 (fun _ => ((p__7 : Nat) : Int)) C ((i : Nat) : Int)) (repOk ((((s__6 : Nat) : Int)).toNat) ((((p__7 : Nat) : Int)).toNat) a__8 b__9 s__6 C ((((i : Nat) : Int)).toNat) p__18 (pic (wrQ ((((s__6 : Nat) : Int)).toNat) ((((p__7 : Nat) : Int)).toNat) a__8 b__9 s__6 C p__18)))) (pc (pic (wrQ ((((s__6 : Nat) : Int)).toNat) ((((p__7 : Nat) : Int)).toNat) a__8 b__9 s__6 C p__18))) : Nat) : Int)), .int .i64 (((rlC (shC ((s__6 : Nat) : Int) ((p__7 : Nat) : Int) a__8 b__9 s__6 (fun _ => ((p__7 : Nat) : Int)) C ((i : Nat) : Int)) (repOk ((((s__6 : Nat) : Int)).toNat) ((((p__7 : Nat) : Int)).toNat) a__8 b__9 s__6 C ((((i : Nat) : Int)).toNat) p__18 (pic (wrQ ((((s__6 : Nat) : Int)).toNat) ((((p__7 : Nat) : Int)).toNat) a__8 b__9 s__6 C p__18))) : Nat) : Int))]) rfl rfl) ?_
                refine Wl.alloc st tZ_50 rfl ?_
                clear st
                intro b36 w74 st
                refine Wl.storeA (i := 0) (cs' := layV (rpZ (rlB (shC ((s__6 : Nat) : Int) ((p__7 : Nat) : Int) a__8 b__9 s__6 (fun _ => ((p__7 : Nat) : Int)) C ((i : Nat) : Int)) (repOk ((((s__6 : Nat) : Int)).toNat) ((((p__7 : Nat) : Int)).toNat) a__8 b__9 s__6 C ((((i : Nat) : Int)).toNat) p__18 (pic (wrQ ((((s__6 : Nat) : Int)).toNat) ((((p__7 : Nat) : Int)).toNat) a__8 b__9 s__6 C p__18)))) ((fun _ => ((p__7 : Nat) : Int)) (((i : Nat) : Int)).toNat)) ((rpF (rlB (shC ((s__6 : Nat) : Int) ((p__7 : Nat) : Int) a__8 b__9 s__6 (fun _ => ((p__7 : Nat) : Int)) C ((i : Nat) : Int)) (repOk ((((s__6 : Nat) : Int)).toNat) ((((p__7 : Nat) : Int)).toNat) a__8 b__9 s__6 C ((((i : Nat) : Int)).toNat) p__18 (pic (wrQ ((((s__6 : Nat) : Int)).toNat) ((((p__7 : Nat) : Int)).toNat) a__8 b__9 s__6 C p__18)))) (rpC ((((s__6 : Nat) : Int)).toNat) ((((p__7 : Nat) : Int)).toNat) a__8 b__9 s__6 C ((((i : Nat) : Int)).toNat) p__18 (pic (wrQ ((((s__6 : Nat) : Int)).toNat) ((((p__7 : Nat) : Int)).toNat) a__8 b__9 s__6 C p__18)))))) st tA_50 rfl rfl layV_len layV_one rfl (le_of_len layV_len (by omega)) (all_put layV_len) ?_
                clear st
                intro w75 st
                replace st : St [] w w75 [(b36, layV (rpZ (rlB (shC ((s__6 : Nat) : Int) ((p__7 : Nat) : Int) a__8 b__9 s__6 (fun _ => ((p__7 : Nat) : Int)) C ((i : Nat) : Int)) (repOk ((((s__6 : Nat) : Int)).toNat) ((((p__7 : Nat) : Int)).toNat) a__8 b__9 s__6 C ((((i : Nat) : Int)).toNat) p__18 (pic (wrQ ((((s__6 : Nat) : Int)).toNat) ((((p__7 : Nat) : Int)).toNat) a__8 b__9 s__6 C p__18)))) ((fun _ => ((p__7 : Nat) : Int)) (((i : Nat) : Int)).toNat)) ((rpF (rlB (shC ((s__6 : Nat) : Int) ((p__7 : Nat) : Int) a__8 b__9 s__6 (fun _ => ((p__7 : Nat) : Int)) C ((i : Nat) : Int)) (repOk ((((s__6 : Nat) : Int)).toNat) ((((p__7 : Nat) : Int)).toNat) a__8 b__9 s__6 C ((((i : Nat) : Int)).toNat) p__18 (pic (wrQ ((((s__6 : Nat) : Int)).toNat) ((((p__7 : Nat) : Int)).toNat) a__8 b__9 s__6 C p__18)))) (rpC ((((s__6 : Nat) : Int)).toNat) ((((p__7 : Nat) : Int)).toNat) a__8 b__9 s__6 C ((((i : Nat) : Int)).toNat) p__18 (pic (wrQ ((((s__6 : Nat) : Int)).toNat) ((((p__7 : Nat) : Int)).toNat) a__8 b__9 s__6 C p__18))))), 50), (b256_67, arrU .i64 (flN (fun i_ => repOk ((((s__6 : Nat) : Int)).toNat) ((((p__7 : Nat) : Int)).toNat) a__8 b__9 s__6 C i_ p__18 (pic (wrQ ((((s__6 : Nat) : Int)).toNat) ((((p__7 : Nat) : Int)).toNat) a__8 b__9 s__6 C p__18))) (((s__6 : Nat) : Int)).toNat) (fun j => (fun z => z) (flA (fun i_ => repOk ((((s__6 : Nat) : Int)).toNat) ((((p__7 : Nat) : Int)).toNat) a__8 b__9 s__6 C i_ p__18 (pic (wrQ ((((s__6 : Nat) : Int)).toNat) ((((p__7 : Nat) : Int)).toNat) a__8 b__9 s__6 C p__18))) (((s__6 : Nat) : Int)).toNat j)) ++ sp256_67, 2), (b249, arrU .i64 (flN (fun i_ => repOk ((((s__6 : Nat) : Int)).toNat) ((((p__7 : Nat) : Int)).toNat) a__8 b__9 s__6 C i_ p__18 (pic (wrQ ((((s__6 : Nat) : Int)).toNat) ((((p__7 : Nat) : Int)).toNat) a__8 b__9 s__6 C p__18))) (((s__6 : Nat) : Int)).toNat) (fun j => (fun z => z) (flA (fun i_ => repOk ((((s__6 : Nat) : Int)).toNat) ((((p__7 : Nat) : Int)).toNat) a__8 b__9 s__6 C i_ p__18 (pic (wrQ ((((s__6 : Nat) : Int)).toNat) ((((p__7 : Nat) : Int)).toNat) a__8 b__9 s__6 C p__18))) (((s__6 : Nat) : Int)).toNat j)) ++ sp249, 2), (b200, layS s__6 (fun _ => ((p__7 : Nat) : Int)) C ++ sp200, 50), (b60, layS s__6 (fun _ => ((p__7 : Nat) : Int)) (dwC (shF a__8 b__9 p__18) p__7 x__22) ++ sp60, 50), (b5, schV ((s__6 : Nat) : Int) ((p__7 : Nat) : Int) (a__8) (b__9), 27)] := st
                refine Wl.pure (PR.assI rfl) ?_
                refine Wl.pure (PR.assI rfl) ?_
                refine Wl.nil ?_
                refine tn ?_
                refine Wc.seq ?_
                refine Wc.region rfl ?_
                refine Wl.loadA (i := 5) st tA_27 rfl rfl (all_sub schV_len) schV_len ?_
                refine Wl.pure (PR.moveI rfl) ?_
                refine Wl.pure (PR.moveL rfl) ?_
                refine Wl.pure (PR.moveI rfl) ?_
                refine Wl.callV (c_spec_RepairLayer (s := ((s__6 : Nat) : Int)) (p := ((p__7 : Nat) : Int)) (a := a__8) (b := b__9) (x := p__18) (A := some ⟨b200, 0, none⟩) (n := s__6) (cp := c200) (y := (fun _ => ((p__7 : Nat) : Int))) (c := C) (z := ((i : Nat) : Int)) (by first | assumption | omega) (by first | assumption | omega) (by assumption) (by assumption) (by first | assumption | omega) ((st.rdA (i := 3) (n := (s__6 * 65)) rfl (app_all (recV_len (s := 65) (layS_row _ _) _))).sl) (by assumption) hCb (by first | assumption | omega)) rfl ?_
                intro w76 hbel
                replace st := st.call hbel
                clear hbel
                refine Wl.pure (PR.moveV (.tuple #[.agg (layV (rpZ (rlB (shC ((s__6 : Nat) : Int) ((p__7 : Nat) : Int) a__8 b__9 s__6 (fun _ => ((p__7 : Nat) : Int)) C ((i : Nat) : Int)) (repOk ((((s__6 : Nat) : Int)).toNat) ((((p__7 : Nat) : Int)).toNat) a__8 b__9 s__6 C ((((i : Nat) : Int)).toNat) p__18 (pic (wrQ ((((s__6 : Nat) : Int)).toNat) ((((p__7 : Nat) : Int)).toNat) a__8 b__9 s__6 C p__18)))) ((fun _ => ((p__7 : Nat) : Int)) (((i : Nat) : Int)).toNat)) ((rpF (rlB (shC ((s__6 : Nat) : Int) ((p__7 : Nat) : Int) a__8 b__9 s__6 (fun _ => ((p__7 : Nat) : Int)) C ((i : Nat) : Int)) (repOk ((((s__6 : Nat) : Int)).toNat) ((((p__7 : Nat) : Int)).toNat) a__8 b__9 s__6 C ((((i : Nat) : Int)).toNat) p__18 (pic (wrQ ((((s__6 : Nat) : Int)).toNat) ((((p__7 : Nat) : Int)).toNat) a__8 b__9 s__6 C p__18)))) (rpC ((((s__6 : Nat) : Int)).toNat) ((((p__7 : Nat) : Int)).toNat) a__8 b__9 s__6 C ((((i : Nat) : Int)).toNat) p__18 (pic (wrQ ((((s__6 : Nat) : Int)).toNat) ((((p__7 : Nat) : Int)).toNat) a__8 b__9 s__6 C p__18)))))).toArray, .int .i64 (((rpN (rlB (shC ((s__6 : Nat) : Int) ((p__7 : Nat) : Int) a__8 b__9 s__6 (fun _ => ((p__7 : Nat) : Int)) C ((i : Nat) : Int)) (repOk ((((s__6 : Nat) : Int)).toNat) ((((p__7 : Nat) : Int)).toNat) a__8 b__9 s__6 C ((((i : Nat) : Int)).toNat) p__18 (pic (wrQ ((((s__6 : Nat) : Int)).toNat) ((((p__7 : Nat) : Int)).toNat) a__8 b__9 s__6 C p__18)))) (pc (pic (wrQ ((((s__6 : Nat) : Int)).toNat) ((((p__7 : Nat) : Int)).toNat) a__8 b__9 s__6 C p__18))) : Nat) : Int)), .int .i64 (((rlC (shC ((s__6 : Nat) : Int) ((p__7 : Nat) : Int) a__8 b__9 s__6 (fun _ => ((p__7 : Nat) : Int)) C ((i : Nat) : Int)) (repOk ((((s__6 : Nat) : Int)).toNat) ((((p__7 : Nat) : Int)).toNat) a__8 b__9 s__6 C ((((i : Nat) : Int)).toNat) p__18 (pic (wrQ ((((s__6 : Nat) : Int)).toNat) ((((p__7 : Nat) : Int)).toNat) a__8 b__9 s__6 C p__18))) : Nat) : Int))]) rfl) ?_
                refine Wl.pure (PR.extr (i := 0) (vs := [.agg (layV (rpZ (rlB (shC ((s__6 : Nat) : Int) ((p__7 : Nat) : Int) a__8 b__9 s__6 (fun _ => ((p__7 : Nat) : Int)) C ((i : Nat) : Int)) (repOk ((((s__6 : Nat) : Int)).toNat) ((((p__7 : Nat) : Int)).toNat) a__8 b__9 s__6 C ((((i : Nat) : Int)).toNat) p__18 (pic (wrQ ((((s__6 : Nat) : Int)).toNat) ((((p__7 : Nat) : Int)).toNat) a__8 b__9 s__6 C p__18)))) ((fun _ => ((p__7 : Nat) : Int)) (((i : Nat) : Int)).toNat)) ((rpF (rlB (shC ((s__6 : Nat) : Int) ((p__7 : Nat) : Int) a__8 b__9 s__6 (fun _ => ((p__7 : Nat) : Int)) C ((i : Nat) : Int)) (repOk ((((s__6 : Nat) : Int)).toNat) ((((p__7 : Nat) : Int)).toNat) a__8 b__9 s__6 C ((((i : Nat) : Int)).toNat) p__18 (pic (wrQ ((((s__6 : Nat) : Int)).toNat) ((((p__7 : Nat) : Int)).toNat) a__8 b__9 s__6 C p__18)))) (rpC ((((s__6 : Nat) : Int)).toNat) ((((p__7 : Nat) : Int)).toNat) a__8 b__9 s__6 C ((((i : Nat) : Int)).toNat) p__18 (pic (wrQ ((((s__6 : Nat) : Int)).toNat) ((((p__7 : Nat) : Int)).toNat) a__8 b__9 s__6 C p__18)))))).toArray, .int .i64 (((rpN (rlB (shC ((s__6 : Nat) : Int) ((p__7 : Nat) : Int) a__8 b__9 s__6 (fun _ => ((p__7 : Nat) : Int)) C ((i : Nat) : Int)) (repOk ((((s__6 : Nat) : Int)).toNat) ((((p__7 : Nat) : Int)).toNat) a__8 b__9 s__6 C ((((i : Nat) : Int)).toNat) p__18 (pic (wrQ ((((s__6 : Nat) : Int)).toNat) ((((p__7 : Nat) : Int)).toNat) a__8 b__9 s__6 C p__18)))) (pc (pic (wrQ ((((s__6 : Nat) : Int)).toNat) ((((p__7 : Nat) : Int)).toNat) a__8 b__9 s__6 C p__18))) : Nat) : Int)), .int .i64 (((rlC (shC ((s__6 : Nat) : Int) ((p__7 : Nat) : Int) a__8 b__9 s__6 (fun _ => ((p__7 : Nat) : Int)) C ((i : Nat) : Int)) (repOk ((((s__6 : Nat) : Int)).toNat) ((((p__7 : Nat) : Int)).toNat) a__8 b__9 s__6 C ((((i : Nat) : Int)).toNat) p__18 (pic (wrQ ((((s__6 : Nat) : Int)).toNat) ((((p__7 : Nat) : Int)).toNat) a__8 b__9 s__6 C p__18))) : Nat) : Int))]) rfl rfl) ?_
                refine Wl.pure (PR.extr (i := 1) (vs := [.agg (layV (rpZ (rlB (shC ((s__6 : Nat) : Int) ((p__7 : Nat) : Int) a__8 b__9 s__6 (fun _ => ((p__7 : Nat) : Int)) C ((i : Nat) : Int)) (repOk ((((s__6 : Nat) : Int)).toNat) ((((p__7 : Nat) : Int)).toNat) a__8 b__9 s__6 C ((((i : Nat) : Int)).toNat) p__18 (pic (wrQ ((((s__6 : Nat) : Int)).toNat) ((((p__7 : Nat) : Int)).toNat) a__8 b__9 s__6 C p__18)))) ((fun _ => ((p__7 : Nat) : Int)) (((i : Nat) : Int)).toNat)) ((rpF (rlB (shC ((s__6 : Nat) : Int) ((p__7 : Nat) : Int) a__8 b__9 s__6 (fun _ => ((p__7 : Nat) : Int)) C ((i : Nat) : Int)) (repOk ((((s__6 : Nat) : Int)).toNat) ((((p__7 : Nat) : Int)).toNat) a__8 b__9 s__6 C ((((i : Nat) : Int)).toNat) p__18 (pic (wrQ ((((s__6 : Nat) : Int)).toNat) ((((p__7 : Nat) : Int)).toNat) a__8 b__9 s__6 C p__18)))) (rpC ((((s__6 : Nat) : Int)).toNat) ((((p__7 : Nat) : Int)).toNat) a__8 b__9 s__6 C ((((i : Nat) : Int)).toNat) p__18 (pic (wrQ ((((s__6 : Nat) : Int)).toNat) ((((p__7 : Nat) : Int)).toNat) a__8 b__9 s__6 C p__18)))))).toArray, .int .i64 (((rpN (rlB (shC ((s__6 : Nat) : Int) ((p__7 : Nat) : Int) a__8 b__9 s__6 (fun _ => ((p__7 : Nat) : Int)) C ((i : Nat) : Int)) (repOk ((((s__6 : Nat) : Int)).toNat) ((((p__7 : Nat) : Int)).toNat) a__8 b__9 s__6 C ((((i : Nat) : Int)).toNat) p__18 (pic (wrQ ((((s__6 : Nat) : Int)).toNat) ((((p__7 : Nat) : Int)).toNat) a__8 b__9 s__6 C p__18)))) (pc (pic (wrQ ((((s__6 : Nat) : Int)).toNat) ((((p__7 : Nat) : Int)).toNat) a__8 b__9 s__6 C p__18))) : Nat) : Int)), .int .i64 (((rlC (shC ((s__6 : Nat) : Int) ((p__7 : Nat) : Int) a__8 b__9 s__6 (fun _ => ((p__7 : Nat) : Int)) C ((i : Nat) : Int)) (repOk ((((s__6 : Nat) : Int)).toNat) ((((p__7 : Nat) : Int)).toNat) a__8 b__9 s__6 C ((((i : Nat) : Int)).toNat) p__18 (pic (wrQ ((((s__6 : Nat) : Int)).toNat) ((((p__7 : Nat) : Int)).toNat) a__8 b__9 s__6 C p__18))) : Nat) : Int))]) rfl rfl) ?_
                refine Wl.pure (PR.extr (i := 2) (vs := [.agg (layV (rpZ (rlB (shC ((s__6 : Nat) : Int) ((p__7 : Nat) : Int) a__8 b__9 s__6 (fun _ => ((p__7 : Nat) : Int)) C ((i : Nat) : Int)) (repOk ((((s__6 : Nat) : Int)).toNat) ((((p__7 : Nat) : Int)).toNat) a__8 b__9 s__6 C ((((i : Nat) : Int)).toNat) p__18 (pic (wrQ ((((s__6 : Nat) : Int)).toNat) ((((p__7 : Nat) : Int)).toNat) a__8 b__9 s__6 C p__18)))) ((fun _ => ((p__7 : Nat) : Int)) (((i : Nat) : Int)).toNat)) ((rpF (rlB (shC ((s__6 : Nat) : Int) ((p__7 : Nat) : Int) a__8 b__9 s__6 (fun _ => ((p__7 : Nat) : Int)) C ((i : Nat) : Int)) (repOk ((((s__6 : Nat) : Int)).toNat) ((((p__7 : Nat) : Int)).toNat) a__8 b__9 s__6 C ((((i : Nat) : Int)).toNat) p__18 (pic (wrQ ((((s__6 : Nat) : Int)).toNat) ((((p__7 : Nat) : Int)).toNat) a__8 b__9 s__6 C p__18)))) (rpC ((((s__6 : Nat) : Int)).toNat) ((((p__7 : Nat) : Int)).toNat) a__8 b__9 s__6 C ((((i : Nat) : Int)).toNat) p__18 (pic (wrQ ((((s__6 : Nat) : Int)).toNat) ((((p__7 : Nat) : Int)).toNat) a__8 b__9 s__6 C p__18)))))).toArray, .int .i64 (((rpN (rlB (shC ((s__6 : Nat) : Int) ((p__7 : Nat) : Int) a__8 b__9 s__6 (fun _ => ((p__7 : Nat) : Int)) C ((i : Nat) : Int)) (repOk ((((s__6 : Nat) : Int)).toNat) ((((p__7 : Nat) : Int)).toNat) a__8 b__9 s__6 C ((((i : Nat) : Int)).toNat) p__18 (pic (wrQ ((((s__6 : Nat) : Int)).toNat) ((((p__7 : Nat) : Int)).toNat) a__8 b__9 s__6 C p__18)))) (pc (pic (wrQ ((((s__6 : Nat) : Int)).toNat) ((((p__7 : Nat) : Int)).toNat) a__8 b__9 s__6 C p__18))) : Nat) : Int)), .int .i64 (((rlC (shC ((s__6 : Nat) : Int) ((p__7 : Nat) : Int) a__8 b__9 s__6 (fun _ => ((p__7 : Nat) : Int)) C ((i : Nat) : Int)) (repOk ((((s__6 : Nat) : Int)).toNat) ((((p__7 : Nat) : Int)).toNat) a__8 b__9 s__6 C ((((i : Nat) : Int)).toNat) p__18 (pic (wrQ ((((s__6 : Nat) : Int)).toNat) ((((p__7 : Nat) : Int)).toNat) a__8 b__9 s__6 C p__18))) : Nat) : Int))]) rfl rfl) ?_
                refine Wl.alloc st tZ_50 rfl ?_
                clear st
                intro b39 w77 st
                refine Wl.storeA (i := 0) (cs' := layV (rpZ (rlB (shC ((s__6 : Nat) : Int) ((p__7 : Nat) : Int) a__8 b__9 s__6 (fun _ => ((p__7 : Nat) : Int)) C ((i : Nat) : Int)) (repOk ((((s__6 : Nat) : Int)).toNat) ((((p__7 : Nat) : Int)).toNat) a__8 b__9 s__6 C ((((i : Nat) : Int)).toNat) p__18 (pic (wrQ ((((s__6 : Nat) : Int)).toNat) ((((p__7 : Nat) : Int)).toNat) a__8 b__9 s__6 C p__18)))) ((fun _ => ((p__7 : Nat) : Int)) (((i : Nat) : Int)).toNat)) ((rpF (rlB (shC ((s__6 : Nat) : Int) ((p__7 : Nat) : Int) a__8 b__9 s__6 (fun _ => ((p__7 : Nat) : Int)) C ((i : Nat) : Int)) (repOk ((((s__6 : Nat) : Int)).toNat) ((((p__7 : Nat) : Int)).toNat) a__8 b__9 s__6 C ((((i : Nat) : Int)).toNat) p__18 (pic (wrQ ((((s__6 : Nat) : Int)).toNat) ((((p__7 : Nat) : Int)).toNat) a__8 b__9 s__6 C p__18)))) (rpC ((((s__6 : Nat) : Int)).toNat) ((((p__7 : Nat) : Int)).toNat) a__8 b__9 s__6 C ((((i : Nat) : Int)).toNat) p__18 (pic (wrQ ((((s__6 : Nat) : Int)).toNat) ((((p__7 : Nat) : Int)).toNat) a__8 b__9 s__6 C p__18)))))) st tA_50 rfl rfl layV_len layV_one rfl (le_of_len layV_len (by omega)) (all_put layV_len) ?_
                clear st
                intro w78 st
                replace st : St [] w w78 [(b39, layV (rpZ (rlB (shC ((s__6 : Nat) : Int) ((p__7 : Nat) : Int) a__8 b__9 s__6 (fun _ => ((p__7 : Nat) : Int)) C ((i : Nat) : Int)) (repOk ((((s__6 : Nat) : Int)).toNat) ((((p__7 : Nat) : Int)).toNat) a__8 b__9 s__6 C ((((i : Nat) : Int)).toNat) p__18 (pic (wrQ ((((s__6 : Nat) : Int)).toNat) ((((p__7 : Nat) : Int)).toNat) a__8 b__9 s__6 C p__18)))) ((fun _ => ((p__7 : Nat) : Int)) (((i : Nat) : Int)).toNat)) ((rpF (rlB (shC ((s__6 : Nat) : Int) ((p__7 : Nat) : Int) a__8 b__9 s__6 (fun _ => ((p__7 : Nat) : Int)) C ((i : Nat) : Int)) (repOk ((((s__6 : Nat) : Int)).toNat) ((((p__7 : Nat) : Int)).toNat) a__8 b__9 s__6 C ((((i : Nat) : Int)).toNat) p__18 (pic (wrQ ((((s__6 : Nat) : Int)).toNat) ((((p__7 : Nat) : Int)).toNat) a__8 b__9 s__6 C p__18)))) (rpC ((((s__6 : Nat) : Int)).toNat) ((((p__7 : Nat) : Int)).toNat) a__8 b__9 s__6 C ((((i : Nat) : Int)).toNat) p__18 (pic (wrQ ((((s__6 : Nat) : Int)).toNat) ((((p__7 : Nat) : Int)).toNat) a__8 b__9 s__6 C p__18))))), 50), (b36, layV (rpZ (rlB (shC ((s__6 : Nat) : Int) ((p__7 : Nat) : Int) a__8 b__9 s__6 (fun _ => ((p__7 : Nat) : Int)) C ((i : Nat) : Int)) (repOk ((((s__6 : Nat) : Int)).toNat) ((((p__7 : Nat) : Int)).toNat) a__8 b__9 s__6 C ((((i : Nat) : Int)).toNat) p__18 (pic (wrQ ((((s__6 : Nat) : Int)).toNat) ((((p__7 : Nat) : Int)).toNat) a__8 b__9 s__6 C p__18)))) ((fun _ => ((p__7 : Nat) : Int)) (((i : Nat) : Int)).toNat)) ((rpF (rlB (shC ((s__6 : Nat) : Int) ((p__7 : Nat) : Int) a__8 b__9 s__6 (fun _ => ((p__7 : Nat) : Int)) C ((i : Nat) : Int)) (repOk ((((s__6 : Nat) : Int)).toNat) ((((p__7 : Nat) : Int)).toNat) a__8 b__9 s__6 C ((((i : Nat) : Int)).toNat) p__18 (pic (wrQ ((((s__6 : Nat) : Int)).toNat) ((((p__7 : Nat) : Int)).toNat) a__8 b__9 s__6 C p__18)))) (rpC ((((s__6 : Nat) : Int)).toNat) ((((p__7 : Nat) : Int)).toNat) a__8 b__9 s__6 C ((((i : Nat) : Int)).toNat) p__18 (pic (wrQ ((((s__6 : Nat) : Int)).toNat) ((((p__7 : Nat) : Int)).toNat) a__8 b__9 s__6 C p__18))))), 50), (b256_67, arrU .i64 (flN (fun i_ => repOk ((((s__6 : Nat) : Int)).toNat) ((((p__7 : Nat) : Int)).toNat) a__8 b__9 s__6 C i_ p__18 (pic (wrQ ((((s__6 : Nat) : Int)).toNat) ((((p__7 : Nat) : Int)).toNat) a__8 b__9 s__6 C p__18))) (((s__6 : Nat) : Int)).toNat) (fun j => (fun z => z) (flA (fun i_ => repOk ((((s__6 : Nat) : Int)).toNat) ((((p__7 : Nat) : Int)).toNat) a__8 b__9 s__6 C i_ p__18 (pic (wrQ ((((s__6 : Nat) : Int)).toNat) ((((p__7 : Nat) : Int)).toNat) a__8 b__9 s__6 C p__18))) (((s__6 : Nat) : Int)).toNat j)) ++ sp256_67, 2), (b249, arrU .i64 (flN (fun i_ => repOk ((((s__6 : Nat) : Int)).toNat) ((((p__7 : Nat) : Int)).toNat) a__8 b__9 s__6 C i_ p__18 (pic (wrQ ((((s__6 : Nat) : Int)).toNat) ((((p__7 : Nat) : Int)).toNat) a__8 b__9 s__6 C p__18))) (((s__6 : Nat) : Int)).toNat) (fun j => (fun z => z) (flA (fun i_ => repOk ((((s__6 : Nat) : Int)).toNat) ((((p__7 : Nat) : Int)).toNat) a__8 b__9 s__6 C i_ p__18 (pic (wrQ ((((s__6 : Nat) : Int)).toNat) ((((p__7 : Nat) : Int)).toNat) a__8 b__9 s__6 C p__18))) (((s__6 : Nat) : Int)).toNat j)) ++ sp249, 2), (b200, layS s__6 (fun _ => ((p__7 : Nat) : Int)) C ++ sp200, 50), (b60, layS s__6 (fun _ => ((p__7 : Nat) : Int)) (dwC (shF a__8 b__9 p__18) p__7 x__22) ++ sp60, 50), (b5, schV ((s__6 : Nat) : Int) ((p__7 : Nat) : Int) (a__8) (b__9), 27)] := st
                refine Wl.pure (PR.assI rfl) ?_
                refine Wl.pure (PR.assI rfl) ?_
                refine Wl.nil ?_
                refine tn ?_
                refine Wc.seq ?_
                refine Wc.seq ?_
                have hs1 : shC ((s__6 : Nat) : Int) ((p__7 : Nat) : Int) a__8 b__9 s__6 (fun _ => ((p__7 : Nat) : Int)) C ((i : Nat) : Int) = 0 := shC_0 hb1 (by omega)
                refine Wc.region rfl ?_
                refine Wl.pure (PR.moveI rfl) ?_
                refine Wl.pure (PR.moveI rfl) ?_
                refine Wl.pure (PR.neqS (a := ((rlC (shC ((s__6 : Nat) : Int) ((p__7 : Nat) : Int) a__8 b__9 s__6 (fun _ => ((p__7 : Nat) : Int)) C ((i : Nat) : Int)) (repOk ((((s__6 : Nat) : Int)).toNat) ((((p__7 : Nat) : Int)).toNat) a__8 b__9 s__6 C ((((i : Nat) : Int)).toNat) p__18 (pic (wrQ ((((s__6 : Nat) : Int)).toNat) ((((p__7 : Nat) : Int)).toNat) a__8 b__9 s__6 C p__18))) : Nat) : Int)) rfl rfl) ?_
                refine Wl.pure (PR.moveB rfl) ?_
                refine Wl.on rfl rfl ?_
                refine Wl.loadA (i := 1) st tA_50 rfl rfl (all_sub layV_len) layV_len ?_
                refine Wl.on rfl rfl ?_
                refine Wl.loadA (i := 0) st tA_50 rfl rfl (all_sub layV_len) layV_len ?_
                refine Wl.on rfl rfl ?_
                refine Wl.pure (PR.neqR tQ_50 rfl rfl (flat_layV (rpZ_fitI (by dsimp only; omega)) (rpF_lt (rpC_lt (by first | omega | exact tn8 (by omega)) hCb)))) ?_
                refine Wl.pure (PR.pickFB rfl rfl) ?_
                refine Wl.pure (PR.moveB rfl) ?_
                refine Wl.on rfl rfl ?_
                refine Wl.pure (PR.moveI rfl) ?_
                refine Wl.on rfl rfl ?_
                refine Wl.pure (PR.moveI rfl) ?_
                refine Wl.on rfl rfl ?_
                refine Wl.pure (PR.neqS (a := ((rpN (rlB (shC ((s__6 : Nat) : Int) ((p__7 : Nat) : Int) a__8 b__9 s__6 (fun _ => ((p__7 : Nat) : Int)) C ((i : Nat) : Int)) (repOk ((((s__6 : Nat) : Int)).toNat) ((((p__7 : Nat) : Int)).toNat) a__8 b__9 s__6 C ((((i : Nat) : Int)).toNat) p__18 (pic (wrQ ((((s__6 : Nat) : Int)).toNat) ((((p__7 : Nat) : Int)).toNat) a__8 b__9 s__6 C p__18)))) (pc (pic (wrQ ((((s__6 : Nat) : Int)).toNat) ((((p__7 : Nat) : Int)).toNat) a__8 b__9 s__6 C p__18))) : Nat) : Int)) rfl rfl) ?_
                refine Wl.pure (PR.pickFB rfl rfl) ?_
                refine Wl.pure (PR.moveB rfl) ?_
                refine Wl.on rfl rfl ?_
                refine Wl.pure (PR.moveI rfl) ?_
                refine Wl.on rfl rfl ?_
                refine Wl.pure (PR.eql (a := ((rlC (shC ((s__6 : Nat) : Int) ((p__7 : Nat) : Int) a__8 b__9 s__6 (fun _ => ((p__7 : Nat) : Int)) C ((i : Nat) : Int)) (repOk ((((s__6 : Nat) : Int)).toNat) ((((p__7 : Nat) : Int)).toNat) a__8 b__9 s__6 C ((((i : Nat) : Int)).toNat) p__18 (pic (wrQ ((((s__6 : Nat) : Int)).toNat) ((((p__7 : Nat) : Int)).toNat) a__8 b__9 s__6 C p__18))) : Nat) : Int)) (b := 0) rfl rfl) ?_
                refine Wl.on rfl rfl ?_
                refine Wl.pure (PR.moveL rfl) ?_
                refine Wl.on rfl rfl ?_
                refine Wl.pure (PR.moveI rfl) ?_
                refine Wl.on rfl rfl ?_
                refine Wl.callV (c_spec_HasNumber (A := some ⟨b256_67, 0, none⟩) (n := (flN (fun i_ => repOk ((((s__6 : Nat) : Int)).toNat) ((((p__7 : Nat) : Int)).toNat) a__8 b__9 s__6 C i_ p__18 (pic (wrQ ((((s__6 : Nat) : Int)).toNat) ((((p__7 : Nat) : Int)).toNat) a__8 b__9 s__6 C p__18))) (((s__6 : Nat) : Int)).toNat)) (cp := c256_67) (c := (fun j => (fun z => z) (flA (fun i_ => repOk ((((s__6 : Nat) : Int)).toNat) ((((p__7 : Nat) : Int)).toNat) a__8 b__9 s__6 C i_ p__18 (pic (wrQ ((((s__6 : Nat) : Int)).toNat) ((((p__7 : Nat) : Int)).toNat) a__8 b__9 s__6 C p__18))) (((s__6 : Nat) : Int)).toNat j))) (z := i) ((st.rdA (i := 2) (n := (flN (fun i_ => repOk ((((s__6 : Nat) : Int)).toNat) ((((p__7 : Nat) : Int)).toNat) a__8 b__9 s__6 C i_ p__18 (pic (wrQ ((((s__6 : Nat) : Int)).toNat) ((((p__7 : Nat) : Int)).toNat) a__8 b__9 s__6 C p__18))) (((s__6 : Nat) : Int)).toNat)) rfl (app_all (arrU_len _))).sl) (by first | assumption | omega)) rfl ?_
                intro w79 hbel
                replace st := st.call hbel
                clear hbel
                refine Wl.on rfl rfl ?_
                refine Wl.pure (PR.neqB (a := (decide (((rlC (shC ((s__6 : Nat) : Int) ((p__7 : Nat) : Int) a__8 b__9 s__6 (fun _ => ((p__7 : Nat) : Int)) C ((i : Nat) : Int)) (repOk ((((s__6 : Nat) : Int)).toNat) ((((p__7 : Nat) : Int)).toNat) a__8 b__9 s__6 C ((((i : Nat) : Int)).toNat) p__18 (pic (wrQ ((((s__6 : Nat) : Int)).toNat) ((((p__7 : Nat) : Int)).toNat) a__8 b__9 s__6 C p__18))) : Nat) : Int) = 0))) (b := (hasB (flN (fun i_ => repOk ((((s__6 : Nat) : Int)).toNat) ((((p__7 : Nat) : Int)).toNat) a__8 b__9 s__6 C i_ p__18 (pic (wrQ ((((s__6 : Nat) : Int)).toNat) ((((p__7 : Nat) : Int)).toNat) a__8 b__9 s__6 C p__18))) (((s__6 : Nat) : Int)).toNat) (fun j => (fun z => z) (flA (fun i_ => repOk ((((s__6 : Nat) : Int)).toNat) ((((p__7 : Nat) : Int)).toNat) a__8 b__9 s__6 C i_ p__18 (pic (wrQ ((((s__6 : Nat) : Int)).toNat) ((((p__7 : Nat) : Int)).toNat) a__8 b__9 s__6 C p__18))) (((s__6 : Nat) : Int)).toNat j)) i)) Tryz.underlying4 rfl rfl) ?_
                rw [show (!(((decide (((rlC (shC ((s__6 : Nat) : Int) ((p__7 : Nat) : Int) a__8 b__9 s__6 (fun _ => ((p__7 : Nat) : Int)) C ((i : Nat) : Int)) (repOk ((((s__6 : Nat) : Int)).toNat) ((((p__7 : Nat) : Int)).toNat) a__8 b__9 s__6 C ((((i : Nat) : Int)).toNat) p__18 (pic (wrQ ((((s__6 : Nat) : Int)).toNat) ((((p__7 : Nat) : Int)).toNat) a__8 b__9 s__6 C p__18))) : Nat) : Int) = 0)) == (hasB (flN (fun i_ => repOk ((((s__6 : Nat) : Int)).toNat) ((((p__7 : Nat) : Int)).toNat) a__8 b__9 s__6 C i_ p__18 (pic (wrQ ((((s__6 : Nat) : Int)).toNat) ((((p__7 : Nat) : Int)).toNat) a__8 b__9 s__6 C p__18))) (((s__6 : Nat) : Int)).toNat) (fun j => (fun z => z) (flA (fun i_ => repOk ((((s__6 : Nat) : Int)).toNat) ((((p__7 : Nat) : Int)).toNat) a__8 b__9 s__6 C i_ p__18 (pic (wrQ ((((s__6 : Nat) : Int)).toNat) ((((p__7 : Nat) : Int)).toNat) a__8 b__9 s__6 C p__18))) (((s__6 : Nat) : Int)).toNat j)) i)))) = false from (rep_has hs1 (has_fl (by omega)))]
                refine Wl.pure (PR.pickFB rfl rfl) ?_
                refine Wl.nil ?_
                refine tn ?_
                refine Wc.condF rfl ?_
                refine Wc.skip ?_
                refine tn ?_
                refine Wc.seq ?_
                refine Wc.seq ?_
                refine Wc.region rfl ?_
                refine Wl.pure (PR.moveI rfl) ?_
                refine Wl.pure (PR.neq (a := ((rlC (shC ((s__6 : Nat) : Int) ((p__7 : Nat) : Int) a__8 b__9 s__6 (fun _ => ((p__7 : Nat) : Int)) C ((i : Nat) : Int)) (repOk ((((s__6 : Nat) : Int)).toNat) ((((p__7 : Nat) : Int)).toNat) a__8 b__9 s__6 C ((((i : Nat) : Int)).toNat) p__18 (pic (wrQ ((((s__6 : Nat) : Int)).toNat) ((((p__7 : Nat) : Int)).toNat) a__8 b__9 s__6 C p__18))) : Nat) : Int)) (b := 0) rfl rfl) ?_
                refine Wl.nil ?_
                refine tn ?_
                refine Wc.condN (p := ((rlC (shC ((s__6 : Nat) : Int) ((p__7 : Nat) : Int) a__8 b__9 s__6 (fun _ => ((p__7 : Nat) : Int)) C ((i : Nat) : Int)) (repOk ((((s__6 : Nat) : Int)).toNat) ((((p__7 : Nat) : Int)).toNat) a__8 b__9 s__6 C ((((i : Nat) : Int)).toNat) p__18 (pic (wrQ ((((s__6 : Nat) : Int)).toNat) ((((p__7 : Nat) : Int)).toNat) a__8 b__9 s__6 C p__18))) : Nat) : Int) = 0) rfl (fun h80 => ?_) (fun h80 => ?_)
                · refine Wc.exit ?_
                  refine tx ?_
                  refine bh ?_
                  refine tn ?_
                  refine Wc.region rfl ?_
                  refine Wl.pure (PR.moveI rfl) ?_
                  refine Wl.pure (PR.add (a := ((i : Nat) : Int)) (b := 1) rfl rfl (by simp only [fitI]; omega)) ?_
                  refine Wl.pure (PR.assI rfl) ?_
                  refine Wl.nil ?_
                  refine tn ?_
                  replace st := st.tail
                  replace st := st.tail
                  exact ⟨i + 1, (.cons rfl (.cons rfl (.cons rfl (.cons rfl (.cons rfl (.cons rfl (.nil _))))))), ⟨st, (by first | omega | (dsimp only; omega))⟩, (by first | omega | (dsimp only; omega))⟩
                · refine Wc.skip ?_
                  refine tn ?_
                  refine Wc.seq ?_
                  have hq1 : repOk s__6 p__7 a__8 b__9 s__6 C i p__18 (pic (wrQ s__6 p__7 a__8 b__9 s__6 C p__18)) = true := rlC_q hs1 (show rlC (shC ((s__6 : Nat) : Int) ((p__7 : Nat) : Int) a__8 b__9 s__6 (fun _ => ((p__7 : Nat) : Int)) C ((i : Nat) : Int)) (repOk ((((s__6 : Nat) : Int)).toNat) ((((p__7 : Nat) : Int)).toNat) a__8 b__9 s__6 C ((((i : Nat) : Int)).toNat) p__18 (pic (wrQ ((((s__6 : Nat) : Int)).toNat) ((((p__7 : Nat) : Int)).toNat) a__8 b__9 s__6 C p__18))) = 0 by omega)
                  have hB1 : rlB (shC ((s__6 : Nat) : Int) ((p__7 : Nat) : Int) a__8 b__9 s__6 (fun _ => ((p__7 : Nat) : Int)) C ((i : Nat) : Int)) (repOk s__6 p__7 a__8 b__9 s__6 C i p__18 (pic (wrQ s__6 p__7 a__8 b__9 s__6 C p__18))) = true := rlB_t hs1 hq1
                  rw [show layV (rpZ (rlB (shC ((s__6 : Nat) : Int) ((p__7 : Nat) : Int) a__8 b__9 s__6 (fun _ => ((p__7 : Nat) : Int)) C ((i : Nat) : Int)) (repOk ((((s__6 : Nat) : Int)).toNat) ((((p__7 : Nat) : Int)).toNat) a__8 b__9 s__6 C ((((i : Nat) : Int)).toNat) p__18 (pic (wrQ ((((s__6 : Nat) : Int)).toNat) ((((p__7 : Nat) : Int)).toNat) a__8 b__9 s__6 C p__18)))) ((fun _ => ((p__7 : Nat) : Int)) (((i : Nat) : Int)).toNat)) ((rpF (rlB (shC ((s__6 : Nat) : Int) ((p__7 : Nat) : Int) a__8 b__9 s__6 (fun _ => ((p__7 : Nat) : Int)) C ((i : Nat) : Int)) (repOk ((((s__6 : Nat) : Int)).toNat) ((((p__7 : Nat) : Int)).toNat) a__8 b__9 s__6 C ((((i : Nat) : Int)).toNat) p__18 (pic (wrQ ((((s__6 : Nat) : Int)).toNat) ((((p__7 : Nat) : Int)).toNat) a__8 b__9 s__6 C p__18)))) (rpC ((((s__6 : Nat) : Int)).toNat) ((((p__7 : Nat) : Int)).toNat) a__8 b__9 s__6 C ((((i : Nat) : Int)).toNat) p__18 (pic (wrQ ((((s__6 : Nat) : Int)).toNat) ((((p__7 : Nat) : Int)).toNat) a__8 b__9 s__6 C p__18))))) = layV (((p__7 : Nat) : Int)) ((rpC s__6 p__7 a__8 b__9 s__6 C i p__18 (pic (wrQ s__6 p__7 a__8 b__9 s__6 C p__18)))) from rp_layer hB1] at st
                  rw [show (rpN (rlB (shC ((s__6 : Nat) : Int) ((p__7 : Nat) : Int) a__8 b__9 s__6 (fun _ => ((p__7 : Nat) : Int)) C ((i : Nat) : Int)) (repOk ((((s__6 : Nat) : Int)).toNat) ((((p__7 : Nat) : Int)).toNat) a__8 b__9 s__6 C ((((i : Nat) : Int)).toNat) p__18 (pic (wrQ ((((s__6 : Nat) : Int)).toNat) ((((p__7 : Nat) : Int)).toNat) a__8 b__9 s__6 C p__18)))) (pc (pic (wrQ ((((s__6 : Nat) : Int)).toNat) ((((p__7 : Nat) : Int)).toNat) a__8 b__9 s__6 C p__18)))) = pc (pic (wrQ s__6 p__7 a__8 b__9 s__6 C p__18)) from (rpN_t hB1)]
                  refine Wc.region rfl ?_
                  refine Wl.buildSlice (ps := []) (cs := layS 0 (fun _ => 0) (fun _ _ => 0) ++ []) st tS_32 tZ_50 rfl rfl rfl ?_
                  clear st
                  intro b347 w81 st
                  refine Wl.pure (PR.moveL rfl) ?_
                  refine Wl.append0 (c := 0) (m := s__6) (sp := []) (vs := layS s__6 (fun _ => ((p__7 : Nat) : Int)) C) (i := 0) st tS_32 tZ_50 rfl rfl rfl rfl rfl (Src.ofRdA (tyS_und tS_32) (st.rdA (i := 5) (n := (s__6 * 65)) rfl (app_all (recV_len (s := 65) (layS_row _ _) _))) (recV_len (s := 65) (layS_row _ _) _) (layS_one _ _)) (by omega) (by omega) ?_
                  clear st
                  intro b349 c349 sp349 w82 hc349 hs349 st
                  replace st : St [] w w82 [(b349, layS s__6 (fun _ => ((p__7 : Nat) : Int)) C ++ sp349, 50), (b39, layV (((p__7 : Nat) : Int)) ((rpC s__6 p__7 a__8 b__9 s__6 C i p__18 (pic (wrQ s__6 p__7 a__8 b__9 s__6 C p__18)))), 50), (b36, layV (((p__7 : Nat) : Int)) ((rpC s__6 p__7 a__8 b__9 s__6 C i p__18 (pic (wrQ s__6 p__7 a__8 b__9 s__6 C p__18)))), 50), (b256_67, arrU .i64 (flN (fun i_ => repOk ((((s__6 : Nat) : Int)).toNat) ((((p__7 : Nat) : Int)).toNat) a__8 b__9 s__6 C i_ p__18 (pic (wrQ ((((s__6 : Nat) : Int)).toNat) ((((p__7 : Nat) : Int)).toNat) a__8 b__9 s__6 C p__18))) (((s__6 : Nat) : Int)).toNat) (fun j => (fun z => z) (flA (fun i_ => repOk ((((s__6 : Nat) : Int)).toNat) ((((p__7 : Nat) : Int)).toNat) a__8 b__9 s__6 C i_ p__18 (pic (wrQ ((((s__6 : Nat) : Int)).toNat) ((((p__7 : Nat) : Int)).toNat) a__8 b__9 s__6 C p__18))) (((s__6 : Nat) : Int)).toNat j)) ++ sp256_67, 2), (b249, arrU .i64 (flN (fun i_ => repOk ((((s__6 : Nat) : Int)).toNat) ((((p__7 : Nat) : Int)).toNat) a__8 b__9 s__6 C i_ p__18 (pic (wrQ ((((s__6 : Nat) : Int)).toNat) ((((p__7 : Nat) : Int)).toNat) a__8 b__9 s__6 C p__18))) (((s__6 : Nat) : Int)).toNat) (fun j => (fun z => z) (flA (fun i_ => repOk ((((s__6 : Nat) : Int)).toNat) ((((p__7 : Nat) : Int)).toNat) a__8 b__9 s__6 C i_ p__18 (pic (wrQ ((((s__6 : Nat) : Int)).toNat) ((((p__7 : Nat) : Int)).toNat) a__8 b__9 s__6 C p__18))) (((s__6 : Nat) : Int)).toNat j)) ++ sp249, 2), (b200, layS s__6 (fun _ => ((p__7 : Nat) : Int)) C ++ sp200, 50), (b60, layS s__6 (fun _ => ((p__7 : Nat) : Int)) (dwC (shF a__8 b__9 p__18) p__7 x__22) ++ sp60, 50), (b5, schV ((s__6 : Nat) : Int) ((p__7 : Nat) : Int) (a__8) (b__9), 27)] := st
                  refine Wl.pure (PR.assL rfl) ?_
                  refine Wl.nil ?_
                  refine tn ?_
                  refine Wc.seq ?_
                  refine Wc.region rfl ?_
                  refine Wl.pure (PR.moveL rfl) ?_
                  refine Wl.pure (PR.moveI rfl) ?_
                  refine Wl.loadA (i := 1) st tA_50 rfl rfl (all_sub layV_len) layV_len ?_
                  refine Wl.pure (PR.idxAddrS (i := i) tS_32 rfl rfl (by omega)) ?_
                  refine Wl.storeA (i := 0) (cs' := layS s__6 (upd (fun _ => ((p__7 : Nat) : Int)) (i) ((((p__7 : Nat) : Int)))) (upd C (i) ((rpC s__6 p__7 a__8 b__9 s__6 C i p__18 (pic (wrQ s__6 p__7 a__8 b__9 s__6 C p__18))))) ++ sp349) st tA_50 rfl rfl layV_len layV_one rfl (app_tot (recV_tot (layS_row _ _) (by omega))) (app_put (layS_put (by omega)) (recV_tot (layS_row _ _) (by omega))) ?_
                  clear st
                  intro w83 st
                  replace st : St [] w w83 [(b349, layS s__6 (upd (fun _ => ((p__7 : Nat) : Int)) (i) ((((p__7 : Nat) : Int)))) (upd C (i) ((rpC s__6 p__7 a__8 b__9 s__6 C i p__18 (pic (wrQ s__6 p__7 a__8 b__9 s__6 C p__18))))) ++ sp349, 50), (b39, layV (((p__7 : Nat) : Int)) ((rpC s__6 p__7 a__8 b__9 s__6 C i p__18 (pic (wrQ s__6 p__7 a__8 b__9 s__6 C p__18)))), 50), (b36, layV (((p__7 : Nat) : Int)) ((rpC s__6 p__7 a__8 b__9 s__6 C i p__18 (pic (wrQ s__6 p__7 a__8 b__9 s__6 C p__18)))), 50), (b256_67, arrU .i64 (flN (fun i_ => repOk ((((s__6 : Nat) : Int)).toNat) ((((p__7 : Nat) : Int)).toNat) a__8 b__9 s__6 C i_ p__18 (pic (wrQ ((((s__6 : Nat) : Int)).toNat) ((((p__7 : Nat) : Int)).toNat) a__8 b__9 s__6 C p__18))) (((s__6 : Nat) : Int)).toNat) (fun j => (fun z => z) (flA (fun i_ => repOk ((((s__6 : Nat) : Int)).toNat) ((((p__7 : Nat) : Int)).toNat) a__8 b__9 s__6 C i_ p__18 (pic (wrQ ((((s__6 : Nat) : Int)).toNat) ((((p__7 : Nat) : Int)).toNat) a__8 b__9 s__6 C p__18))) (((s__6 : Nat) : Int)).toNat j)) ++ sp256_67, 2), (b249, arrU .i64 (flN (fun i_ => repOk ((((s__6 : Nat) : Int)).toNat) ((((p__7 : Nat) : Int)).toNat) a__8 b__9 s__6 C i_ p__18 (pic (wrQ ((((s__6 : Nat) : Int)).toNat) ((((p__7 : Nat) : Int)).toNat) a__8 b__9 s__6 C p__18))) (((s__6 : Nat) : Int)).toNat) (fun j => (fun z => z) (flA (fun i_ => repOk ((((s__6 : Nat) : Int)).toNat) ((((p__7 : Nat) : Int)).toNat) a__8 b__9 s__6 C i_ p__18 (pic (wrQ ((((s__6 : Nat) : Int)).toNat) ((((p__7 : Nat) : Int)).toNat) a__8 b__9 s__6 C p__18))) (((s__6 : Nat) : Int)).toNat j)) ++ sp249, 2), (b200, layS s__6 (fun _ => ((p__7 : Nat) : Int)) C ++ sp200, 50), (b60, layS s__6 (fun _ => ((p__7 : Nat) : Int)) (dwC (shF a__8 b__9 p__18) p__7 x__22) ++ sp60, 50), (b5, schV ((s__6 : Nat) : Int) ((p__7 : Nat) : Int) (a__8) (b__9), 27)] := st
                  refine Wl.nil ?_
                  refine tn ?_
                  refine Wc.seq ?_
                  have hgw : ∀ j, j < s__6 → -128 ≤ (upd (fun _ => ((p__7 : Nat) : Int)) (i) ((((p__7 : Nat) : Int)))) j ∧ (upd (fun _ => ((p__7 : Nat) : Int)) (i) ((((p__7 : Nat) : Int)))) j ≤ 127 := fun j _ => by rw [updP]; omega
                  have hcw : ∀ u v, (upd C (i) ((rpC s__6 p__7 a__8 b__9 s__6 C i p__18 (pic (wrQ s__6 p__7 a__8 b__9 s__6 C p__18))))) u v < 256 := updF_lt hCb (rpC_lt (by omega) hCb)
                  have hb2 : bothC ((s__6 : Nat) : Int) ((p__7 : Nat) : Int) a__8 b__9 s__6 (upd (fun _ => ((p__7 : Nat) : Int)) (i) ((((p__7 : Nat) : Int)))) (upd C (i) ((rpC s__6 p__7 a__8 b__9 s__6 C i p__18 (pic (wrQ s__6 p__7 a__8 b__9 s__6 C p__18))))) = 0 := both_rows hok9 (whole_pow hpow (by omega)) (fun j _ => updP j)
                  have hw2 : pic (wrQ s__6 p__7 a__8 b__9 s__6 (upd C (i) ((rpC s__6 p__7 a__8 b__9 s__6 C i p__18 (pic (wrQ s__6 p__7 a__8 b__9 s__6 C p__18))))) p__18) = 0 := pic_0 (fun k hk => whole_wr hk hq1)
                  refine Wc.region rfl ?_
                  refine Wl.loadA (i := 7) st tA_27 rfl rfl (all_sub schV_len) schV_len ?_
                  refine Wl.pure (PR.moveI rfl) ?_
                  refine Wl.pure (PR.moveL rfl) ?_
                  refine Wl.callV (c_impl_WrongCells (s := ((s__6 : Nat) : Int)) (p := ((p__7 : Nat) : Int)) (a := a__8) (b := b__9) (x := p__18) (A := some ⟨b349, 0, none⟩) (n := s__6) (cp := c349) (y := (upd (fun _ => ((p__7 : Nat) : Int)) (i) ((((p__7 : Nat) : Int))))) (c := (upd C (i) ((rpC s__6 p__7 a__8 b__9 s__6 C i p__18 (pic (wrQ s__6 p__7 a__8 b__9 s__6 C p__18)))))) (by first | assumption | omega) (by first | assumption | omega) (by assumption) (by assumption) (by first | assumption | omega) ((st.rdA (i := 0) (n := (s__6 * 65)) rfl (app_all (recV_len (s := 65) (layS_row _ _) _))).sl) hgw hcw (by first | assumption | omega)) rfl ?_
                  intro w84 hbel
                  replace st := st.call hbel
                  clear hbel
                  refine Wl.pure (PR.moveV (.tuple #[.int .u64 (((selN (bothC ((s__6 : Nat) : Int) ((p__7 : Nat) : Int) a__8 b__9 s__6 (upd (fun _ => ((p__7 : Nat) : Int)) (i) ((((p__7 : Nat) : Int)))) (upd C (i) ((rpC s__6 p__7 a__8 b__9 s__6 C i p__18 (pic (wrQ s__6 p__7 a__8 b__9 s__6 C p__18)))))) (pic (wrQ ((((s__6 : Nat) : Int)).toNat) ((((p__7 : Nat) : Int)).toNat) a__8 b__9 s__6 (upd C (i) ((rpC s__6 p__7 a__8 b__9 s__6 C i p__18 (pic (wrQ s__6 p__7 a__8 b__9 s__6 C p__18))))) p__18)) : Nat) : Int)), .int .i64 (((bothC ((s__6 : Nat) : Int) ((p__7 : Nat) : Int) a__8 b__9 s__6 (upd (fun _ => ((p__7 : Nat) : Int)) (i) ((((p__7 : Nat) : Int)))) (upd C (i) ((rpC s__6 p__7 a__8 b__9 s__6 C i p__18 (pic (wrQ s__6 p__7 a__8 b__9 s__6 C p__18))))) : Nat) : Int))]) rfl) ?_
                  refine Wl.pure (PR.extr (i := 0) (vs := [.int .u64 (((selN (bothC ((s__6 : Nat) : Int) ((p__7 : Nat) : Int) a__8 b__9 s__6 (upd (fun _ => ((p__7 : Nat) : Int)) (i) ((((p__7 : Nat) : Int)))) (upd C (i) ((rpC s__6 p__7 a__8 b__9 s__6 C i p__18 (pic (wrQ s__6 p__7 a__8 b__9 s__6 C p__18)))))) (pic (wrQ ((((s__6 : Nat) : Int)).toNat) ((((p__7 : Nat) : Int)).toNat) a__8 b__9 s__6 (upd C (i) ((rpC s__6 p__7 a__8 b__9 s__6 C i p__18 (pic (wrQ s__6 p__7 a__8 b__9 s__6 C p__18))))) p__18)) : Nat) : Int)), .int .i64 (((bothC ((s__6 : Nat) : Int) ((p__7 : Nat) : Int) a__8 b__9 s__6 (upd (fun _ => ((p__7 : Nat) : Int)) (i) ((((p__7 : Nat) : Int)))) (upd C (i) ((rpC s__6 p__7 a__8 b__9 s__6 C i p__18 (pic (wrQ s__6 p__7 a__8 b__9 s__6 C p__18))))) : Nat) : Int))]) rfl rfl) ?_
                  refine Wl.pure (PR.extr (i := 1) (vs := [.int .u64 (((selN (bothC ((s__6 : Nat) : Int) ((p__7 : Nat) : Int) a__8 b__9 s__6 (upd (fun _ => ((p__7 : Nat) : Int)) (i) ((((p__7 : Nat) : Int)))) (upd C (i) ((rpC s__6 p__7 a__8 b__9 s__6 C i p__18 (pic (wrQ s__6 p__7 a__8 b__9 s__6 C p__18)))))) (pic (wrQ ((((s__6 : Nat) : Int)).toNat) ((((p__7 : Nat) : Int)).toNat) a__8 b__9 s__6 (upd C (i) ((rpC s__6 p__7 a__8 b__9 s__6 C i p__18 (pic (wrQ s__6 p__7 a__8 b__9 s__6 C p__18))))) p__18)) : Nat) : Int)), .int .i64 (((bothC ((s__6 : Nat) : Int) ((p__7 : Nat) : Int) a__8 b__9 s__6 (upd (fun _ => ((p__7 : Nat) : Int)) (i) ((((p__7 : Nat) : Int)))) (upd C (i) ((rpC s__6 p__7 a__8 b__9 s__6 C i p__18 (pic (wrQ s__6 p__7 a__8 b__9 s__6 C p__18))))) : Nat) : Int))]) rfl rfl) ?_
                  refine Wl.pure (PR.assI rfl) ?_
                  refine Wl.pure (PR.assI rfl) ?_
                  refine Wl.nil ?_
                  refine tn ?_
                  refine Wc.seq ?_
                  rw [show (selN (bothC ((s__6 : Nat) : Int) ((p__7 : Nat) : Int) a__8 b__9 s__6 (upd (fun _ => ((p__7 : Nat) : Int)) (i) ((((p__7 : Nat) : Int)))) (upd C (i) ((rpC s__6 p__7 a__8 b__9 s__6 C i p__18 (pic (wrQ s__6 p__7 a__8 b__9 s__6 C p__18)))))) (pic (wrQ ((((s__6 : Nat) : Int)).toNat) ((((p__7 : Nat) : Int)).toNat) a__8 b__9 s__6 (upd C (i) ((rpC s__6 p__7 a__8 b__9 s__6 C i p__18 (pic (wrQ s__6 p__7 a__8 b__9 s__6 C p__18))))) p__18))) = 0 from ((selN_0 hb2).trans hw2)]
                  rw [show (bothC ((s__6 : Nat) : Int) ((p__7 : Nat) : Int) a__8 b__9 s__6 (upd (fun _ => ((p__7 : Nat) : Int)) (i) ((((p__7 : Nat) : Int)))) (upd C (i) ((rpC s__6 p__7 a__8 b__9 s__6 C i p__18 (pic (wrQ s__6 p__7 a__8 b__9 s__6 C p__18)))))) = 0 from hb2]
                  refine Wc.region rfl ?_
                  refine Wl.pure (PR.moveI rfl) ?_
                  refine Wl.pure (PR.neqS (a := 0) rfl rfl) ?_
                  refine Wl.pure (PR.moveB rfl) ?_
                  refine Wl.on rfl rfl ?_
                  refine Wl.pure (PR.moveI rfl) ?_
                  refine Wl.on rfl rfl ?_
                  refine Wl.pure (PR.neqS (a := 0) rfl rfl) ?_
                  refine Wl.pure (PR.pickFB rfl rfl) ?_
                  refine Wl.pure (PR.moveB rfl) ?_
                  refine Wl.on rfl rfl ?_
                  refine Wl.pure (PR.moveI rfl) ?_
                  refine Wl.on rfl rfl ?_
                  refine Wl.pure (PR.moveI rfl) ?_
                  refine Wl.on rfl rfl ?_
                  refine Wl.callV (c_impl_CountBlack (x := pic (wrQ s__6 p__7 a__8 b__9 s__6 C p__18)) (picF_lt _ 64)) rfl ?_
                  intro w85 hbel
                  replace st := st.call hbel
                  clear hbel
                  refine Wl.on rfl rfl ?_
                  refine Wl.pure (PR.neqS (a := ((pc (pic (wrQ s__6 p__7 a__8 b__9 s__6 C p__18)) : Nat) : Int)) rfl rfl) ?_
                  refine Wl.pure (PR.pickFB rfl rfl) ?_
                  refine Wl.nil ?_
                  refine tn ?_
                  refine Wc.condF rfl ?_
                  refine Wc.skip ?_
                  refine bn ?_
                  refine tn ?_
                  refine Wc.region rfl ?_
                  refine Wl.pure (PR.moveI rfl) ?_
                  refine Wl.pure (PR.add (a := ((i : Nat) : Int)) (b := 1) rfl rfl (by simp only [fitI]; omega)) ?_
                  refine Wl.pure (PR.assI rfl) ?_
                  refine Wl.nil ?_
                  refine tn ?_
                  replace st := st.tail
                  replace st := st.tail
                  replace st := st.tail
                  exact ⟨i + 1, (.cons rfl (.cons rfl (.cons rfl (.cons rfl (.cons rfl (.cons rfl (.nil _))))))), ⟨st, (by first | omega | (dsimp only; omega))⟩, (by first | omega | (dsimp only; omega))⟩
              · refine Wc.exit ?_
                refine tx ?_
                refine tx ?_
                refine bh ?_
                refine tn ?_
                refine Wc.seq ?_
                refine Wc.region rfl ?_
                refine Wl.pure (PR.assB rfl) ?_
                refine Wl.nil ?_
                refine tn ?_
                refine Wc.ret ?_
                refine postL.tmp rfl rfl ?_
                exact RetV.of rfl st.below
  · refine Wl.off rfl rfl rfl ?_
    refine Wl.pure (PR.pickTB rfl rfl) ?_
    refine Wl.nil ?_
    refine tn ?_
    refine Wc.condT rfl ?_
    refine Wc.seq ?_
    refine Wc.region rfl ?_
    refine Wl.pure (PR.assB rfl) ?_
    refine Wl.nil ?_
    refine tn ?_
    refine Wc.ret ?_
    refine tr ?_
    refine postL.tmp rfl rfl ?_
    exact RetV.of rfl st.below

end Go.Proofs.YtabekcodjcbolaaGreat
