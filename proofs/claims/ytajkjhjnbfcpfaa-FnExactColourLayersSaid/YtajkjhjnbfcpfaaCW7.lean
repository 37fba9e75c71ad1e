/-
  Contracts of functions, printed by a program of ours.
-/
import Derived.Test.YtajkjhjnbfcpfaaCW6
namespace Go.Proofs.Ytajkjhjnbfcpfaa
open Go.RowKit
set_option linter.unusedVariables false
set_option linter.unusedSimpArgs false

set_option maxHeartbeats 400000 in
set_option maxRecDepth 4000 in
theorem c_impl_ColourLayers_1 {b1 : Nat} {ob1 : Nat} {p : Nat} {k : Nat} {w : World} (h1 : RdA w b1 ob1 [.int .u64 ((p : Nat) : Int)]) (hp : p < 18446744073709551616) (hk : k < 64) :
    CE Try.prog 89 [.int .i64 (((k : Nat) : Int)), .pointer (some ⟨b1, ob1, none⟩)] w (RetXG w [] 5 1 (2) (arrU .u8 2 (colF p k)) (fun b_ c_ => .slice (some ⟨b_, 0, none⟩) (2) (c_)) []) := by
  refine CE.enter 9 [(0, .int .i64 (((k : Nat) : Int))), (1, .pointer (some ⟨b1, ob1, none⟩))] en_89 Try.func89 rfl rfl (Nat.le_of_ble_eq_true rfl) rfl ?_
  have st := St.start w
  refine Wc.seq ?_
  refine Wc.region rfl ?_
  refine Wl.pure (PR.assL rfl) ?_
  refine Wl.nil ?_
  refine tn ?_
  refine Wc.seq ?_
  refine Wc.region rfl ?_
  refine Wl.loadC tA_27 rfl ((h1.st st).at_ (j := 0) (rfl) rfl) ?_
  refine Wl.pure (PR.moveI rfl) ?_
  refine Wl.callV (c_bit_impl (x := p) (k := k) hp (by first | assumption | omega)) rfl ?_
  intro w1 hbel
  replace st := st.call hbel
  clear hbel
  refine Wl.callV (c_impl_other (q := (bitB p k))) rfl ?_
  intro w2 hbel
  replace st := st.call hbel
  clear hbel
  refine Wl.buildSlice (ps := [(0, .int .u8 (1)), (1, .int .u8 (((otF (bitB p k) : Nat) : Int)))]) (cs := [.int .u8 (1), .int .u8 (((otF (bitB p k) : Nat) : Int))]) st tS_67 tZ_5 rfl rfl rfl ?_
  clear st
  intro b8 w3 st
  refine Wl.pure (PR.assL rfl) ?_
  refine Wl.nil ?_
  refine tn ?_
  refine Wc.ret ?_
  refine postL.tmp rfl rfl ?_
  replace st := st.nilapp
  exact ⟨b8, 2, ([]), (Nat.le_refl _), (by simp), rfl, st⟩

set_option maxHeartbeats 400000 in
set_option maxRecDepth 4000 in
theorem c_impl_ColourLayers {P : Nat → Nat} {x : Nat} {w : World} (hP : ∀ k, P k < 18446744073709551616) (hx : x < 4294967296) :
    CE Try.prog 36 [.agg (arrU .u64 3 P).toArray, .int .u32 (((x : Nat) : Int))] w (RetV w (.tuple #[.agg (layS 6 (fun _ => 2) (clL P x)).toArray, .int .u32 (((sxK x 3 : Nat) : Int))])) := by
  refine CE.enter 34 [(0, .agg (arrU .u64 3 P).toArray), (1, .int .u32 (((x : Nat) : Int)))] en_36 Try.func36 rfl rfl (Nat.le_of_ble_eq_true rfl) rfl ?_
  have st := St.start w
  refine Wc.seq ?_
  refine Wc.region rfl ?_
  refine Wl.boxA st rfl ?_
  clear st
  intro b2 w1 st
  refine Wl.boxI st rfl ?_
  clear st
  intro b3 w2 st
  refine Wl.alloc st tZ_52 rfl ?_
  clear st
  intro b4 w3 st
  refine Wl.pure (PR.assI rfl) ?_
  refine Wl.nil ?_
  refine tn ?_
  refine Wc.seq ?_
  refine Wc.region rfl ?_
  refine Wl.pure (PR.build (ps := []) (cs := layS 6 (fun _ => 0) (fun _ _ => 0)) tB_52 rfl rfl) ?_
  refine Wl.alloc st tZ_52 rfl ?_
  clear st
  intro b6 w4 st
  refine Wl.storeA (i := 0) (cs' := layS 6 (fun _ => 0) (fun _ _ => 0)) st tA_52 rfl rfl (recV_len (s := 65) (layS_row _ _) _) (layS_one _ _) rfl (le_of_len (recV_len (s := 65) (layS_row _ _) _) (by omega)) (all_put (recV_len (s := 65) (layS_row _ _) _)) ?_
  clear st
  intro w5 st
  replace st : St [] w w5 [(b6, layS 6 (fun _ => 0) (fun _ _ => 0), 52), (b4, layS 6 (fun _ => 0) (fun _ _ => 0), 52), (b3, [.int .u32 (((x : Nat) : Int))], 38), (b2, arrU .u64 3 P, 55)] := st
  refine Wl.nil ?_
  refine tn ?_
  refine Wc.seq ?_
  refine Wc.seq ?_
  refine Wc.region rfl ?_
  refine Wl.loadA (i := 3) st tA_55 rfl rfl (all_sub (arrU_len _)) (arrU_len _) ?_
  refine Wl.pure (PR.moveI rfl) ?_
  refine Wl.nil ?_
  refine tn ?_
  refine Wc.block ?_
  refine Wc.loopF (γ := Nat × (Nat → Int) × (Nat → Nat → Nat)) (fun g => [(3, .pointer (some ⟨b3, 0, none⟩)), (4, .pointer (some ⟨b4, 0, none⟩)), (5, .int .u32 (0)), (6, .pointer (some ⟨b6, 0, none⟩)), (11, .agg (arrU .u64 3 P).toArray), (12, .int .i64 (((g.1 : Nat) : Int)))]) (fun g w_ => St [] w w_ [(b6, layS 6 g.2.1 g.2.2, 52), (b4, layS 6 (fun _ => 0) (fun _ _ => 0), 52), (b3, [.int .u32 (((sxK x g.1 : Nat) : Int))], 38), (b2, arrU .u64 3 P, 55)] ∧ (g.1 ≤ 3) ∧ (∀ u, u < 2 * g.1 → g.2.1 u = 2) ∧ (∀ u, u < 2 * g.1 → ∀ v, v < 64 → g.2.2 u v = clL P x u v)) (fun g => 3 - g.1) ?_ ?_
  · exact ⟨(0, (fun _ => 0), (fun _ _ => 0)), (.cons rfl (.cons rfl (.cons rfl (.cons rfl (.cons rfl (.cons rfl (.nil _))))))), st, (by omega), (fun u hu => by omega), (fun u hu => by omega)⟩
  clear st
  rintro ⟨k, op, oc⟩ w6 ⟨st, hk, hop, hoc⟩
  try dsimp only at st hk hop hoc ⊢
  refine Wc.seq ?_
  refine Wc.region rfl ?_
  refine Wl.pure (PR.lss (a := ((k : Nat) : Int)) (b := 3) rfl rfl) ?_
  refine Wl.nil ?_
  refine tn ?_
  refine Wc.seq ?_
  refine Wc.condD (p := ((k : Nat) : Int) < 3) rfl (fun h7 => ?_) (fun h7 => ?_)
  · refine Wc.skip ?_
    refine tn ?_
    refine Wc.seq ?_
    refine Wc.block ?_
    refine Wc.seq ?_
    refine Wc.region rfl ?_
    refine Wl.pure (PR.moveI rfl) ?_
    refine Wl.pure (PR.idxAgg (i := k) tE_55 rfl rfl (by omega) (arrU_get1 (by omega))) ?_
    refine Wl.alloc st tZ_27 rfl ?_
    clear st
    intro b8 w8 st
    refine Wl.pure (PR.assI rfl) ?_
    refine Wl.store (i := 0) (cs' := [.int .u64 (((P (k) : Nat) : Int))]) st tA_27 rfl rfl rfl rfl (by simp) (rfl) ?_
    clear st
    intro w9 st
    replace st : St [] w w9 [(b8, [.int .u64 (((P (k) : Nat) : Int))], 27), (b6, layS 6 op oc, 52), (b4, layS 6 (fun _ => 0) (fun _ _ => 0), 52), (b3, [.int .u32 (((sxK x k : Nat) : Int))], 38), (b2, arrU .u64 3 P, 55)] := st
    refine Wl.nil ?_
    refine tn ?_
    refine Wc.seq ?_
    refine Wc.region rfl ?_
    refine Wl.pure (PR.mkFunc (vs := [.pointer (some ⟨b8, 0, none⟩)]) rfl) ?_
    refine Wl.callXG [3] st (c_impl_drawn (bs := b3) (x := sxK x k) (n := 2) (fk := 89) (cap := [.pointer (some ⟨b8, 0, none⟩)]) (m := 2) (f := (colF (P k))) (sxK_lt hx k) (by first | assumption | omega) (by first | assumption | omega) (colF_lt (P k)) (fun i hi w' hfr => c_impl_ColourLayers_1 (st.rdF (i := 0) (j := 3) rfl rfl (by decide) hfr) (hP k) hi) (st.lend (L' := [(b3, [.int .u32 (((sxK x k : Nat) : Int))], 38)]) [3] (by decide) rfl)) rfl rfl ?_
    clear st
    intro b17 c17 sp17 w10 hc17 hs17 st
    replace st : St [] w w10 [(b17, layS 2 (fun _ => ((2 : Nat) : Int)) (dwC (colF (P k)) 2 (sxK x k)) ++ sp17, 30), (b3, [.int .u32 (((sdK 2 (sxK x k) 64 : Nat) : Int))], 38), (b8, [.int .u64 (((P (k) : Nat) : Int))], 27), (b6, layS 6 op oc, 52), (b4, layS 6 (fun _ => 0) (fun _ _ => 0), 52), (b2, arrU .u64 3 P, 55)] := st
    refine Wl.pure (PR.assL rfl) ?_
    refine Wl.nil ?_
    refine tn ?_
    refine Wc.tree1 (w0 := w) (X := []) (Ks := [b17]) (S := fun i => i == 12 || i == 14) (.st 0 0 (.st 1 0 (.st 2 0 (.st 3 0 (.st 4 0 (.st 5 0 (.st 6 0 (.st 8 0 (.st 9 0 (.st 7 1 (.st 11 0 (.st 10 3 (.st 12 2 (.st 13 0 (.st 14 2 PT.nil))))))))))))))) hmix (by kernel_rfl) (by kernel_rfl) rfl rfl ?_
    intro w11 hbel
    replace st := st.call hbel
    clear hbel
    refine WT.pure rfl (PR.moveI rfl) ?_
    refine WT.pure rfl (PR.mul (a := 2) (b := ((k : Nat) : Int)) rfl rfl (by simp only [fitI]; omega)) ?_
    refine WT.pure rfl (PR.moveI rfl) ?_
    refine WT.pure rfl (PR.mul (a := 2) (b := ((k : Nat) : Int)) rfl rfl (by simp only [fitI]; omega)) ?_
    refine WT.pure rfl (PR.add (a := (((2 * k) : Nat) : Int)) (b := 1) rfl rfl (by simp only [fitI]; omega)) ?_
    refine WT.pure rfl (PR.moveL rfl) ?_
    refine WT.pure rfl (PR.idxAddrS (i := 0) tS_99 rfl rfl (by omega)) ?_
    refine WT.pure rfl (PR.moveL rfl) ?_
    refine WT.pure rfl (PR.idxAddrS (i := 1) tS_99 rfl rfl (by omega)) ?_
    refine WT.loadA1 (j := 0) (vs := layV ((fun _ => ((2 : Nat) : Int)) 0) (((dwC (colF (P k)) 2 (sxK x k)) 0))) rfl st tA_30 rfl rfl (app_sub (recV_sub0 (n := 2) (i := 0) (layS_row _ _) (by omega)) (recV_tot (n := 2) (i := 0) (layS_row _ _) (by omega))) layV_len ?_
    refine WT.pure rfl (PR.idxAddrA (i := (2 * k)) tE_52 rfl rfl (by omega)) ?_
    refine WT.loadA (j := 0) (vs := layV ((fun _ => ((2 : Nat) : Int)) 1) (((dwC (colF (P k)) 2 (sxK x k)) 1))) rfl (by simp) st tA_30 rfl rfl (app_sub (recV_sub0 (n := 2) (i := 1) (layS_row _ _) (by omega)) (recV_tot (n := 2) (i := 1) (layS_row _ _) (by omega))) layV_len ?_
    have st0 := st
    refine WT.s rfl rfl ?_
    refine Wl.storeA (i := 3) (cs' := layS 6 (upd op ((2 * k)) (((fun _ => ((2 : Nat) : Int)) 0))) (upd oc ((2 * k)) (((dwC (colF (P k)) 2 (sxK x k)) 0)))) st tA_30 rfl rfl layV_len layV_one rfl (recV_tot (layS_row _ _) (by omega)) (layS_put (by omega)) ?_
    clear st
    intro w12 st
    replace st : St [] w w12 [(b17, layS 2 (fun _ => ((2 : Nat) : Int)) (dwC (colF (P k)) 2 (sxK x k)) ++ sp17, 30), (b3, [.int .u32 (((sdK 2 (sxK x k) 64 : Nat) : Int))], 38), (b8, [.int .u64 (((P (k) : Nat) : Int))], 27), (b6, layS 6 (upd op ((2 * k)) (((fun _ => ((2 : Nat) : Int)) 0))) (upd oc ((2 * k)) (((dwC (colF (P k)) 2 (sxK x k)) 0))), 52), (b4, layS 6 (fun _ => 0) (fun _ _ => 0), 52), (b2, arrU .u64 3 P, 55)] := st
    refine Wl.nil ⟨rfl, RK.of st0 st (ksC (i := 0) (j := 0) rfl rfl rfl ksN), ?_⟩
    clear st0
    refine WT.pure rfl (PR.idxAddrA (i := ((2 * k) + 1)) tE_52 rfl rfl (by omega)) ?_
    have st0 := st
    refine WT.s rfl rfl ?_
    refine Wl.storeA (i := 3) (cs' := layS 6 (upd (upd op ((2 * k)) (((fun _ => ((2 : Nat) : Int)) 0))) (((2 * k) + 1)) (((fun _ => ((2 : Nat) : Int)) 1))) (upd (upd oc ((2 * k)) (((dwC (colF (P k)) 2 (sxK x k)) 0))) (((2 * k) + 1)) (((dwC (colF (P k)) 2 (sxK x k)) 1)))) st tA_30 rfl rfl layV_len layV_one rfl (recV_tot (layS_row _ _) (by omega)) (layS_put (by omega)) ?_
    clear st
    intro w13 st
    replace st : St [] w w13 [(b17, layS 2 (fun _ => ((2 : Nat) : Int)) (dwC (colF (P k)) 2 (sxK x k)) ++ sp17, 30), (b3, [.int .u32 (((sdK 2 (sxK x k) 64 : Nat) : Int))], 38), (b8, [.int .u64 (((P (k) : Nat) : Int))], 27), (b6, layS 6 (upd (upd op ((2 * k)) (((fun _ => ((2 : Nat) : Int)) 0))) (((2 * k) + 1)) (((fun _ => ((2 : Nat) : Int)) 1))) (upd (upd oc ((2 * k)) (((dwC (colF (P k)) 2 (sxK x k)) 0))) (((2 * k) + 1)) (((dwC (colF (P k)) 2 (sxK x k)) 1))), 52), (b4, layS 6 (fun _ => 0) (fun _ _ => 0), 52), (b2, arrU .u64 3 P, 55)] := st
    refine Wl.nil ⟨rfl, RK.of st0 st (ksC (i := 0) (j := 0) rfl rfl rfl ksN), ?_⟩
    clear st0
    refine WT.nil ?_
    refine bn ?_
    refine tn ?_
    refine Wc.region rfl ?_
    refine Wl.pure (PR.add (a := ((k : Nat) : Int)) (b := 1) rfl rfl (by simp only [fitI]; omega)) ?_
    refine Wl.pure (PR.moveI rfl) ?_
    refine Wl.nil ?_
    refine tn ?_
    replace st : St [] w w13 [(b6, layS 6 (upd (upd op ((2 * k)) (((fun _ => ((2 : Nat) : Int)) 0))) (((2 * k) + 1)) (((fun _ => ((2 : Nat) : Int)) 1))) (upd (upd oc ((2 * k)) (((dwC (colF (P k)) 2 (sxK x k)) 0))) (((2 * k) + 1)) (((dwC (colF (P k)) 2 (sxK x k)) 1))), 52), (b4, layS 6 (fun _ => 0) (fun _ _ => 0), 52), (b3, [.int .u32 (((sdK 2 (sxK x k) 64 : Nat) : Int))], 38), (b2, arrU .u64 3 P, 55)] := st.pick [3, 4, 1, 5] (by decide) rfl
    exact ⟨(k + 1, (upd (upd op ((2 * k)) (((fun _ => ((2 : Nat) : Int)) 0))) (((2 * k) + 1)) (((fun _ => ((2 : Nat) : Int)) 1))), (upd (upd oc ((2 * k)) (((dwC (colF (P k)) 2 (sxK x k)) 0))) (((2 * k) + 1)) (((dwC (colF (P k)) 2 (sxK x k)) 1)))), (.cons rfl (.cons rfl (.cons rfl (.cons rfl (.cons rfl (.cons rfl (.nil _))))))), ⟨st, (by first | omega | (dsimp only; omega)), (col_p hop rfl rfl), (col_c hoc (fun _ _ => rfl) (fun _ _ => rfl))⟩, (by first | omega | (dsimp only; omega))⟩
  · refine Wc.exit ?_
    refine tx ?_
    refine tx ?_
    refine bh ?_
    refine tn ?_
    refine Wc.seq ?_
    refine Wc.tree1 (w0 := w) (X := []) (Ks := [b3]) (S := fun i => i == 2) (.st 0 1 (.st 1 3 (.st 2 2 (.st 3 0 PT.nil)))) hmix (by kernel_rfl) (by kernel_rfl) rfl rfl ?_
    intro w14 hbel
    replace st := st.call hbel
    clear hbel
    refine WT.loadA1 (j := 0) rfl st tA_52 rfl rfl (all_sub (recV_len (s := 65) (layS_row _ _) _)) (recV_len (s := 65) (layS_row _ _) _) ?_
    refine WT.load (j := 2) rfl (by simp) st tA_38 rfl rfl (rfl) ?_
    have st0 := st
    refine WT.s rfl rfl ?_
    refine Wl.storeA (i := 1) (cs' := layS 6 op oc) st tA_52 rfl rfl (recV_len (s := 65) (layS_row _ _) _) (layS_one _ _) rfl (le_of_len (recV_len (s := 65) (layS_row _ _) _) (by omega)) (all_put (recV_len (s := 65) (layS_row _ _) _)) ?_
    clear st
    intro w15 st
    replace st : St [] w w15 [(b6, layS 6 op oc, 52), (b4, layS 6 op oc, 52), (b3, [.int .u32 (((sxK x k : Nat) : Int))], 38), (b2, arrU .u64 3 P, 55)] := st
    refine Wl.nil ⟨rfl, RK.of st0 st (ksC (i := 2) (j := 2) rfl rfl rfl ksN), ?_⟩
    clear st0
    refine WT.pure rfl (PR.assI rfl) ?_
    refine WT.nil ?_
    refine tn ?_
    refine Wc.ret ?_
    refine postL.many (rvs := [.cell 4 52, .tmp 5]) rfl (.cell (us := layS 6 op oc) tA_52 rfl (recV_len (s := 65) (layS_row _ _) _) (st.rdA (i := 1) (n := 390) rfl (all_sub (recV_len (s := 65) (layS_row _ _) _))) (.tmp (v := .int .u32 (((sxK x k : Nat) : Int))) rfl .nil)) ?_
    refine RetV.of ?_ st.below
    refine tup_2 (congrArg (fun l : List Value => Value.agg l.toArray) (layS_congr (fun u hu => hop u (by omega)) (fun u hu v hv => hoc u (by omega) v hv))) ?_
    obtain rfl : k = 3 := by omega
    rfl

set_option maxHeartbeats 400000 in
set_option maxRecDepth 4000 in
theorem c_spec_ColourLayers {P : Nat → Nat} {x : Nat} {w : World} (hP : ∀ k, P k < 18446744073709551616) (hx : x < 4294967296) :
    CE Try.prog 34 [.agg (arrU .u64 3 P).toArray, .int .u32 (((x : Nat) : Int))] w (RetV w (.tuple #[.agg (layS 6 (fun _ => 2) (clL P x)).toArray, .int .u32 (((sxK x 3 : Nat) : Int))])) := by
  refine CE.enter 58 [(0, .agg (arrU .u64 3 P).toArray), (1, .int .u32 (((x : Nat) : Int)))] en_34 Try.func34 rfl rfl (Nat.le_of_ble_eq_true rfl) rfl ?_
  have st := St.start w
  refine Wc.seq ?_
  refine Wc.region rfl ?_
  refine Wl.boxA st rfl ?_
  clear st
  intro b2 w1 st
  refine Wl.alloc st tZ_52 rfl ?_
  clear st
  intro b4 w2 st
  refine Wl.pure (PR.assI rfl) ?_
  refine Wl.nil ?_
  refine tn ?_
  refine Wc.seq ?_
  refine Wc.region rfl ?_
  refine Wl.pure (PR.build (ps := []) (cs := layS 6 (fun _ => 0) (fun _ _ => 0)) tB_52 rfl rfl) ?_
  refine Wl.alloc st tZ_52 rfl ?_
  clear st
  intro b6 w3 st
  refine Wl.storeA (i := 0) (cs' := layS 6 (fun _ => 0) (fun _ _ => 0)) st tA_52 rfl rfl (recV_len (s := 65) (layS_row _ _) _) (layS_one _ _) rfl (le_of_len (recV_len (s := 65) (layS_row _ _) _) (by omega)) (all_put (recV_len (s := 65) (layS_row _ _) _)) ?_
  clear st
  intro w4 st
  replace st : St [] w w4 [(b6, layS 6 (fun _ => 0) (fun _ _ => 0), 52), (b4, layS 6 (fun _ => 0) (fun _ _ => 0), 52), (b2, arrU .u64 3 P, 55)] := st
  refine Wl.nil ?_
  refine tn ?_
  refine Wc.seq ?_
  refine Wc.seq ?_
  refine Wc.region rfl ?_
  refine Wl.pure (PR.assI rfl) ?_
  refine Wl.nil ?_
  refine tn ?_
  refine Wc.block ?_
  refine Wc.loopF (γ := Nat × (Nat → Int) × (Nat → Nat → Nat)) (fun g => [(1, .int .u32 (((sxK x g.1 : Nat) : Int))), (2, .pointer (some ⟨b2, 0, none⟩)), (4, .pointer (some ⟨b4, 0, none⟩)), (5, .int .u32 (0)), (6, .pointer (some ⟨b6, 0, none⟩)), (7, .int .i64 (((g.1 : Nat) : Int)))]) (fun g w_ => St [] w w_ [(b6, layS 6 g.2.1 g.2.2, 52), (b4, layS 6 (fun _ => 0) (fun _ _ => 0), 52), (b2, arrU .u64 3 P, 55)] ∧ (g.1 ≤ 3) ∧ (∀ u, u < 2 * g.1 → g.2.1 u = 2) ∧ (∀ u, u < 2 * g.1 → ∀ v, v < 64 → g.2.2 u v = clL P x u v)) (fun g => 3 - g.1) ?_ ?_
  · exact ⟨(0, (fun _ => 0), (fun _ _ => 0)), (.cons rfl (.cons rfl (.cons rfl (.cons rfl (.cons rfl (.cons rfl (.nil _))))))), st, (by omega), (fun u hu => by omega), (fun u hu => by omega)⟩
  clear st
  rintro ⟨k, op, oc⟩ w5 ⟨st, hk, hop, hoc⟩
  try dsimp only at st hk hop hoc ⊢
  refine Wc.seq ?_
  refine Wc.seq ?_
  refine Wc.region rfl ?_
  refine Wl.pure (PR.moveI rfl) ?_
  refine Wl.pure (PR.lss (a := ((k : Nat) : Int)) (b := 3) rfl rfl) ?_
  refine Wl.nil ?_
  refine tn ?_
  refine Wc.condD (p := ((k : Nat) : Int) < 3) rfl (fun h6 => ?_) (fun h6 => ?_)
  · refine Wc.skip ?_
    refine tn ?_
    refine Wc.seq ?_
    refine Wc.block ?_
    refine Wc.seq ?_
    refine Wc.region rfl ?_
    refine Wl.pure (PR.moveI rfl) ?_
    refine Wl.makeSlice (n := 2) st tS_99 tZ_30 rfl rfl rfl (by omega) (by omega) ?_
    clear st
    intro b16 w7 st
    replace st : St [] w w7 [(b16, layS 2 (fun _ => 0) (fun _ _ => 0), 30), (b6, layS 6 op oc, 52), (b4, layS 6 (fun _ => 0) (fun _ _ => 0), 52), (b2, arrU .u64 3 P, 55)] := st
    refine Wl.pure (PR.build (ps := [(0, .int .u32 (((sxK x k : Nat) : Int))), (1, .int .i8 (2)), (2, .slice (some ⟨b16, 0, none⟩) (2) (2))]) (cs := [.int .u32 (((sxK x k : Nat) : Int)), .int .i8 (2), .slice (some ⟨b16, 0, none⟩) (2) (2)]) tB_109 rfl rfl) ?_
    refine Wl.boxA st rfl ?_
    clear st
    intro b18 w8 st
    refine Wl.pure (PR.assP rfl) ?_
    refine Wl.nil ?_
    refine tn ?_
    refine Wc.seq ?_
    refine Wc.seq ?_
    refine Wc.region rfl ?_
    refine Wl.pure (PR.assI rfl) ?_
    refine Wl.nil ?_
    refine tn ?_
    refine Wc.block ?_
    refine Wc.loopF (γ := Nat × (Nat → Int) × (Nat → Nat → Nat)) (fun g => [(1, .int .u32 (((sxK x k : Nat) : Int))), (2, .pointer (some ⟨b2, 0, none⟩)), (4, .pointer (some ⟨b4, 0, none⟩)), (5, .int .u32 (0)), (6, .pointer (some ⟨b6, 0, none⟩)), (7, .int .i64 (((k : Nat) : Int))), (8, .pointer (some ⟨b18, 0, none⟩)), (9, .int .i64 (((g.1 : Nat) : Int))), (11, .int .i64 (((k : Nat) : Int))), (12, .bool (decide (((k : Nat) : Int) < 3))), (15, .int .u32 (((sxK x k : Nat) : Int))), (16, .slice (some ⟨b16, 0, none⟩) (2) (2)), (17, .agg ([.int .u32 (((sxK x k : Nat) : Int)), .int .i8 (2), .slice (some ⟨b16, 0, none⟩) (2) (2)]).toArray), (18, .pointer (some ⟨b18, 0, none⟩))]) (fun g w_ => St [] w w_ [(b18, [.int .u32 (((sdK 2 (sxK x k) g.1 : Nat) : Int)), .int .i8 (2), .slice (some ⟨b16, 0, none⟩) (2) (2)], 109), (b16, layS 2 g.2.1 g.2.2, 30), (b6, layS 6 op oc, 52), (b4, layS 6 (fun _ => 0) (fun _ _ => 0), 52), (b2, arrU .u64 3 P, 55)] ∧ (g.1 ≤ 64) ∧ (∀ u v, g.2.2 u v < 256) ∧ (0 < g.1 → ∀ u, u < 2 → g.2.1 u = 2) ∧ (∀ u, u < 2 → ∀ v, v < g.1 → g.2.2 u v = dwC (colF (P k)) 2 (sxK x k) u v)) (fun g => 64 - g.1) ?_ ?_
    · exact ⟨(0, (fun _ => 0), (fun _ _ => 0)), (.cons rfl (.cons rfl (.cons rfl (.cons rfl (.cons rfl (.cons rfl (.cons rfl (.cons rfl (.cons rfl (.cons rfl (.cons rfl (.cons rfl (.cons rfl (.cons rfl (.nil _))))))))))))))), st, (by omega), (fun _ _ => by dsimp only; decide), (fun h => absurd h (by decide)), (fun u hu v hv => by omega)⟩
    clear st
    rintro ⟨i, pp, cc⟩ w9 ⟨st, hi, hcc, hpp, hg⟩
    try dsimp only at st hi hcc hpp hg ⊢
    refine Wc.seq ?_
    refine Wc.seq ?_
    refine Wc.region rfl ?_
    refine Wl.pure (PR.moveI rfl) ?_
    refine Wl.pure (PR.lss (a := ((i : Nat) : Int)) (b := 64) rfl rfl) ?_
    refine Wl.nil ?_
    refine tn ?_
    refine Wc.condD (p := ((i : Nat) : Int) < 64) rfl (fun h10 => ?_) (fun h10 => ?_)
    · refine Wc.skip ?_
      refine tn ?_
      refine Wc.seq ?_
      refine Wc.block ?_
      refine Wc.region rfl ?_
      refine Wl.pure (PR.moveP rfl) ?_
      refine Wl.pure (PR.moveI rfl) ?_
      refine Wl.pure (PR.moveI rfl) ?_
      refine Wl.pure (PR.idxAddrA1 (i := k) tE_55 rfl rfl (by omega)) ?_
      refine Wl.load (i := 4) st tA_27 rfl rfl (arrU_get0 (by omega)) ?_
      refine Wl.pure (PR.moveI rfl) ?_
      refine Wl.callV (c_bit_pec (x := P (k)) (k := i) (hP (k)) (by first | assumption | omega)) rfl ?_
      intro w11 hbel
      replace st := st.call hbel
      clear hbel
      refine Wl.callV (c_spec_l05Other (q := (bitB (P (k)) i))) rfl ?_
      intro w12 hbel
      replace st := st.call hbel
      clear hbel
      refine Wl.buildSlice (ps := [(0, .int .u8 (1)), (1, .int .u8 (((otF (bitB (P (k)) i) : Nat) : Int)))]) (cs := [.int .u8 (1), .int .u8 (((otF (bitB (P (k)) i) : Nat) : Int))]) st tS_67 tZ_5 rfl rfl rfl ?_
      clear st
      intro b31 w13 st
      refine Wl.callX [1, 2, 0] st (c_spec_l05Maker_add (bm := b18) (bl := b16) (br := b31) (x := sdK 2 (sxK x k) i) (n := 2) (q := 2) (cl := 2) (cr := 2) (pp := pp) (cc := cc) (v := (fun z_ => [1, otF (bitB (P (k)) i)].getD z_ 0)) (k := i) (sdK_lt (sxK_lt hx k) i) (by first | assumption | omega) (by first | assumption | omega) hcc (nat_lt2 (by decide) (otF_lt _)) (by first | assumption | omega) (st.lend (L' := [(b18, [.int .u32 (((sdK 2 (sxK x k) i : Nat) : Int)), .int .i8 (2), .slice (some ⟨b16, 0, none⟩) (2) (2)], 109), (b16, layS 2 pp cc, 30), (b31, [.int .u8 (1), .int .u8 (((otF (bitB (P (k)) i) : Nat) : Int))], 5)]) [1, 2, 0] (by decide) rfl)) rfl rfl ?_
      clear st
      intro w14 st
      replace st : St [] w w14 [(b18, [.int .u32 (((xOf 2 (sdK 2 (sxK x k) i) : Nat) : Int)), .int .i8 (2), .slice (some ⟨b16, 0, none⟩) (2) (2)], 109), (b16, layS 2 (setP pp 2 ((2 : Nat) : Int)) (setC cc 2 i (fun u => rdF ((fun z_ => [1, otF (bitB (P (k)) i)].getD z_ 0) u) (oOf 2 (sdK 2 (sxK x k) i)) 2)), 30), (b31, arrU .u8 2 (fun z_ => [1, otF (bitB (P (k)) i)].getD z_ 0), 5), (b6, layS 6 op oc, 52), (b4, layS 6 (fun _ => 0) (fun _ _ => 0), 52), (b2, arrU .u64 3 P, 55)] := st
      refine Wl.nil ?_
      refine bn ?_
      refine tn ?_
      refine Wc.region rfl ?_
      refine Wl.pure (PR.moveI rfl) ?_
      refine Wl.pure (PR.add (a := ((i : Nat) : Int)) (b := 1) rfl rfl (by simp only [fitI]; omega)) ?_
      refine Wl.pure (PR.assI rfl) ?_
      refine Wl.nil ?_
      refine tn ?_
      replace st : St [] w w14 [(b18, [.int .u32 (((xOf 2 (sdK 2 (sxK x k) i) : Nat) : Int)), .int .i8 (2), .slice (some ⟨b16, 0, none⟩) (2) (2)], 109), (b16, layS 2 (setP pp 2 ((2 : Nat) : Int)) (setC cc 2 i (fun u => rdF ((fun z_ => [1, otF (bitB (P (k)) i)].getD z_ 0) u) (oOf 2 (sdK 2 (sxK x k) i)) 2)), 30), (b6, layS 6 op oc, 52), (b4, layS 6 (fun _ => 0) (fun _ _ => 0), 52), (b2, arrU .u64 3 P, 55)] := st.pick [0, 1, 3, 4, 5] (by decide) rfl
      exact ⟨(i + 1, (setP pp 2 ((2 : Nat) : Int)), (setC cc 2 i (fun u => rdF ((fun z_ => [1, otF (bitB (P (k)) i)].getD z_ 0) u) (oOf 2 (sdK 2 (sxK x k) i)) 2))), (.cons rfl (.cons rfl (.cons rfl (.cons rfl (.cons rfl (.cons rfl (.cons rfl (.cons rfl (.cons rfl (.cons rfl (.cons rfl (.cons rfl (.cons rfl (.cons rfl (.nil _))))))))))))))), ⟨st, (by first | omega | (dsimp only; omega)), (setC_lt hcc (fun _ => rdF_lt _ _ _) _ _), (fun _ => setP_next), (setC_next hg (fun u hu => rfl))⟩, (by first | omega | (dsimp only; omega))⟩
    · refine Wc.exit ?_
      refine tx ?_
      refine tx ?_
      refine bh ?_
      refine tn ?_
      refine Wc.seq ?_
      obtain rfl : i = 64 := by omega
      refine Wc.region rfl ?_
      refine Wl.pure (PR.moveI rfl) ?_
      refine Wl.pure (PR.mul (a := 2) (b := ((k : Nat) : Int)) rfl rfl (by simp only [fitI]; omega)) ?_
      refine Wl.pure (PR.moveP rfl) ?_
      refine Wl.pure (PR.nil_ rfl) ?_
      refine Wl.pure (PR.fieldAddr tF_109_2 rfl) ?_
      refine Wl.load (i := 0) st tA_99 rfl rfl (rfl) ?_
      refine Wl.pure (PR.idxAddrS (i := 0) tS_99 rfl rfl (by omega)) ?_
      refine Wl.loadA (i := 1) (vs := layV (pp 0) ((cc 0))) st tA_30 rfl rfl (recV_sub0 (n := 2) (i := 0) (layS_row _ _) (by omega)) layV_len ?_
      refine Wl.pure (PR.idxAddrA (i := (2 * k)) tE_52 rfl rfl (by omega)) ?_
      refine Wl.storeA (i := 2) (cs' := layS 6 (upd op ((2 * k)) ((pp 0))) (upd oc ((2 * k)) ((cc 0)))) st tA_30 rfl rfl layV_len layV_one rfl (recV_tot (layS_row _ _) (by omega)) (layS_put (by omega)) ?_
      clear st
      intro w15 st
      replace st : St [] w w15 [(b18, [.int .u32 (((sdK 2 (sxK x k) 64 : Nat) : Int)), .int .i8 (2), .slice (some ⟨b16, 0, none⟩) (2) (2)], 109), (b16, layS 2 pp cc, 30), (b6, layS 6 (upd op ((2 * k)) ((pp 0))) (upd oc ((2 * k)) ((cc 0))), 52), (b4, layS 6 (fun _ => 0) (fun _ _ => 0), 52), (b2, arrU .u64 3 P, 55)] := st
      refine Wl.nil ?_
      refine tn ?_
      refine Wc.seq ?_
      refine Wc.region rfl ?_
      refine Wl.pure (PR.moveI rfl) ?_
      refine Wl.pure (PR.mul (a := 2) (b := ((k : Nat) : Int)) rfl rfl (by simp only [fitI]; omega)) ?_
      refine Wl.pure (PR.add (a := (((2 * k) : Nat) : Int)) (b := 1) rfl rfl (by simp only [fitI]; omega)) ?_
      refine Wl.pure (PR.moveP rfl) ?_
      refine Wl.pure (PR.nil_ rfl) ?_
      refine Wl.pure (PR.fieldAddr tF_109_2 rfl) ?_
      refine Wl.load (i := 0) st tA_99 rfl rfl (rfl) ?_
      refine Wl.pure (PR.idxAddrS (i := 1) tS_99 rfl rfl (by omega)) ?_
      refine Wl.loadA (i := 1) (vs := layV (pp 1) ((cc 1))) st tA_30 rfl rfl (recV_sub0 (n := 2) (i := 1) (layS_row _ _) (by omega)) layV_len ?_
      refine Wl.pure (PR.idxAddrA (i := ((2 * k) + 1)) tE_52 rfl rfl (by omega)) ?_
      refine Wl.storeA (i := 2) (cs' := layS 6 (upd (upd op ((2 * k)) ((pp 0))) (((2 * k) + 1)) ((pp 1))) (upd (upd oc ((2 * k)) ((cc 0))) (((2 * k) + 1)) ((cc 1)))) st tA_30 rfl rfl layV_len layV_one rfl (recV_tot (layS_row _ _) (by omega)) (layS_put (by omega)) ?_
      clear st
      intro w16 st
      replace st : St [] w w16 [(b18, [.int .u32 (((sdK 2 (sxK x k) 64 : Nat) : Int)), .int .i8 (2), .slice (some ⟨b16, 0, none⟩) (2) (2)], 109), (b16, layS 2 pp cc, 30), (b6, layS 6 (upd (upd op ((2 * k)) ((pp 0))) (((2 * k) + 1)) ((pp 1))) (upd (upd oc ((2 * k)) ((cc 0))) (((2 * k) + 1)) ((cc 1))), 52), (b4, layS 6 (fun _ => 0) (fun _ _ => 0), 52), (b2, arrU .u64 3 P, 55)] := st
      refine Wl.nil ?_
      refine tn ?_
      refine Wc.region rfl ?_
      refine Wl.pure (PR.moveP rfl) ?_
      refine Wl.pure (PR.nil_ rfl) ?_
      refine Wl.pure (PR.fieldAddr tF_109_0 rfl) ?_
      refine Wl.load (i := 0) st tA_38 rfl rfl (rfl) ?_
      refine Wl.pure (PR.assI rfl) ?_
      refine Wl.nil ?_
      refine bn ?_
      refine tn ?_
      refine Wc.region rfl ?_
      refine Wl.pure (PR.moveI rfl) ?_
      refine Wl.pure (PR.add (a := ((k : Nat) : Int)) (b := 1) rfl rfl (by simp only [fitI]; omega)) ?_
      refine Wl.pure (PR.assI rfl) ?_
      refine Wl.nil ?_
      refine tn ?_
      replace st := st.tail
      replace st := st.tail
      exact ⟨(k + 1, (upd (upd op ((2 * k)) ((pp 0))) (((2 * k) + 1)) ((pp 1))), (upd (upd oc ((2 * k)) ((cc 0))) (((2 * k) + 1)) ((cc 1)))), (.cons rfl (.cons rfl (.cons rfl (.cons rfl (.cons rfl (.cons rfl (.nil _))))))), ⟨st, (by first | omega | (dsimp only; omega)), (col_p hop (hpp (by decide) 0 (by decide)) (hpp (by decide) 1 (by decide))), (col_c hoc (hg 0 (by decide)) (hg 1 (by decide)))⟩, (by first | omega | (dsimp only; omega))⟩
  · refine Wc.exit ?_
    refine tx ?_
    refine tx ?_
    refine bh ?_
    refine tn ?_
    refine Wc.seq ?_
    refine Wc.region rfl ?_
    refine Wl.loadA (i := 0) st tA_52 rfl rfl (all_sub (recV_len (s := 65) (layS_row _ _) _)) (recV_len (s := 65) (layS_row _ _) _) ?_
    refine Wl.pure (PR.moveI rfl) ?_
    refine Wl.storeA (i := 1) (cs' := layS 6 op oc) st tA_52 rfl rfl (recV_len (s := 65) (layS_row _ _) _) (layS_one _ _) rfl (le_of_len (recV_len (s := 65) (layS_row _ _) _) (by omega)) (all_put (recV_len (s := 65) (layS_row _ _) _)) ?_
    clear st
    intro w17 st
    replace st : St [] w w17 [(b6, layS 6 op oc, 52), (b4, layS 6 op oc, 52), (b2, arrU .u64 3 P, 55)] := st
    refine Wl.pure (PR.assI rfl) ?_
    refine Wl.nil ?_
    refine tn ?_
    refine Wc.ret ?_
    refine postL.many (rvs := [.cell 4 52, .tmp 5]) rfl (.cell (us := layS 6 op oc) tA_52 rfl (recV_len (s := 65) (layS_row _ _) _) (st.rdA (i := 1) (n := 390) rfl (all_sub (recV_len (s := 65) (layS_row _ _) _))) (.tmp (v := .int .u32 (((sxK x k : Nat) : Int))) rfl .nil)) ?_
    refine RetV.of ?_ st.below
    refine tup_2 (congrArg (fun l : List Value => Value.agg l.toArray) (layS_congr (fun u hu => hop u (by omega)) (fun u hu v hv => hoc u (by omega) v hv))) ?_
    obtain rfl : k = 3 := by omega
    rfl

set_option maxHeartbeats 400000 in
set_option maxRecDepth 4000 in
theorem c_laws_toPictureA3 {P : Nat → Nat} {w : World} (hP : ∀ k, P k < 18446744073709551616) :
    CE Try.prog 35 [.agg (arrU .u64 3 P).toArray] w (RetV w (.agg (arrU .u64 3 P).toArray)) := by
  refine CE.enter 15 [(0, .agg (arrU .u64 3 P).toArray)] en_35 Try.func35 rfl rfl (Nat.le_of_ble_eq_true rfl) rfl ?_
  have st := St.start w
  refine Wc.seq ?_
  refine Wc.region rfl ?_
  refine Wl.boxA st rfl ?_
  clear st
  intro b1 w1 st
  refine Wl.alloc st tZ_55 rfl ?_
  clear st
  intro b2 w2 st
  refine Wl.nil ?_
  refine tn ?_
  refine Wc.seq ?_
  refine Wc.region rfl ?_
  refine Wl.alloc st tZ_55 rfl ?_
  clear st
  intro b3 w3 st
  refine Wl.nil ?_
  refine tn ?_
  refine Wc.seq ?_
  refine Wc.seq ?_
  refine Wc.region rfl ?_
  refine Wl.pure (PR.assI rfl) ?_
  refine Wl.nil ?_
  refine tn ?_
  refine Wc.block ?_
  refine Wc.loopF (γ := Nat × (Nat → Nat)) (fun g => [(1, .pointer (some ⟨b1, 0, none⟩)), (2, .pointer (some ⟨b2, 0, none⟩)), (3, .pointer (some ⟨b3, 0, none⟩)), (4, .int .i64 (((g.1 : Nat) : Int)))]) (fun g w_ => St [] w w_ [(b3, arrU .u64 3 g.2, 55), (b2, arrU .u64 3 (fun _ => 0), 55), (b1, arrU .u64 3 P, 51)] ∧ (g.1 ≤ 3) ∧ (∀ j, j < g.1 → g.2 j = P j)) (fun g => 3 - g.1) ?_ ?_
  · exact ⟨(0, (fun _ => 0)), (.cons rfl (.cons rfl (.cons rfl (.cons rfl (.nil _))))), st, (by omega), (fun j hj => by omega)⟩
  clear st
  rintro ⟨k, d⟩ w4 ⟨st, hk, hg⟩
  try dsimp only at st hk hg ⊢
  refine Wc.seq ?_
  refine Wc.seq ?_
  refine Wc.region rfl ?_
  refine Wl.pure (PR.moveI rfl) ?_
  refine Wl.pure (PR.lss (a := ((k : Nat) : Int)) (b := 3) rfl rfl) ?_
  refine Wl.nil ?_
  refine tn ?_
  refine Wc.condD (p := ((k : Nat) : Int) < 3) rfl (fun h5 => ?_) (fun h5 => ?_)
  · refine Wc.skip ?_
    refine tn ?_
    refine Wc.seq ?_
    refine Wc.block ?_
    refine Wc.region rfl ?_
    refine Wl.pure (PR.moveI rfl) ?_
    refine Wl.pure (PR.moveI rfl) ?_
    refine Wl.pure (PR.idxAddrA1 (i := k) tE_51 rfl rfl (by omega)) ?_
    refine Wl.load (i := 2) st tA_26 rfl rfl (arrU_get0 (by omega)) ?_
    refine Wl.pure (PR.idxAddrA1 (i := k) tE_55 rfl rfl (by omega)) ?_
    refine Wl.store (i := 0) (cs' := arrU .u64 3 (upd d (k) (P (k)))) st tA_27 rfl rfl rfl rfl (lt_of_len (arrU_len _) (by omega)) (arrU_set0) ?_
    clear st
    intro w6 st
    replace st : St [] w w6 [(b3, arrU .u64 3 (upd d (k) (P (k))), 55), (b2, arrU .u64 3 (fun _ => 0), 55), (b1, arrU .u64 3 P, 51)] := st
    refine Wl.nil ?_
    refine bn ?_
    refine tn ?_
    refine Wc.region rfl ?_
    refine Wl.pure (PR.moveI rfl) ?_
    refine Wl.pure (PR.add (a := ((k : Nat) : Int)) (b := 1) rfl rfl (by simp only [fitI]; omega)) ?_
    refine Wl.pure (PR.assI rfl) ?_
    refine Wl.nil ?_
    refine tn ?_
    exact ⟨(k + 1, upd d (k) (P (k))), (.cons rfl (.cons rfl (.cons rfl (.cons rfl (.nil _))))), ⟨st, (by first | omega | (dsimp only; omega)), (upd_snoc hg rfl)⟩, (by first | omega | (dsimp only; omega))⟩
  · refine Wc.exit ?_
    refine tx ?_
    refine tx ?_
    refine bh ?_
    refine tn ?_
    refine Wc.seq ?_
    refine Wc.region rfl ?_
    refine Wl.loadA (i := 0) st tA_55 rfl rfl (all_sub (arrU_len _)) (arrU_len _) ?_
    refine Wl.storeA (i := 1) (cs' := arrU .u64 3 d) st tA_55 rfl rfl (arrU_len _) (arrU_one _) rfl (le_of_len (arrU_len _) (by omega)) (all_put (arrU_len _)) ?_
    clear st
    intro w7 st
    replace st : St [] w w7 [(b3, arrU .u64 3 d, 55), (b2, arrU .u64 3 d, 55), (b1, arrU .u64 3 P, 51)] := st
    refine Wl.nil ?_
    refine tn ?_
    refine Wc.ret ?_
    refine postL.cell (i := 1) st rfl tA_55 rfl rfl (arrU_len _) ?_
    refine RetV.of ?_ st.below
    exact congrArg (fun l : List Value => Value.agg l.toArray) (arrU_congr fun j hj => hg j (by omega))

set_option maxHeartbeats 400000 in
set_option maxRecDepth 4000 in
theorem c_laws_eqLayerA6 {p : Nat → Int} {c : Nat → Nat → Nat} {w : World} :
    CE Try.prog 37 [.agg (layS 6 p c).toArray, .agg (layS 6 p c).toArray] w (RetV w (.bool true)) := by
  refine CE.enter 18 [(0, .agg (layS 6 p c).toArray), (1, .agg (layS 6 p c).toArray)] en_37 Try.func37 rfl rfl (Nat.le_of_ble_eq_true rfl) rfl ?_
  have st := St.start w
  refine Wc.seq ?_
  refine Wc.region rfl ?_
  refine Wl.boxA st rfl ?_
  clear st
  intro b2 w1 st
  refine Wl.boxA st rfl ?_
  clear st
  intro b3 w2 st
  refine Wl.pure (PR.assB rfl) ?_
  refine Wl.nil ?_
  refine tn ?_
  refine Wc.seq ?_
  refine Wc.seq ?_
  refine Wc.region rfl ?_
  refine Wl.pure (PR.assI rfl) ?_
  refine Wl.nil ?_
  refine tn ?_
  refine Wc.block ?_
  refine Wc.loopF (γ := Nat) (fun g => [(2, .pointer (some ⟨b2, 0, none⟩)), (3, .pointer (some ⟨b3, 0, none⟩)), (5, .int .i64 (((g : Nat) : Int)))]) (fun g w_ => St [] w w_ [(b3, layS 6 p c, 52), (b2, layS 6 p c, 52)] ∧ (g ≤ 6)) (fun g => 6 - g) ?_ ?_
  · exact ⟨0, (.cons rfl (.cons rfl (.cons rfl (.nil _)))), st, (by omega)⟩
  clear st
  rintro k w3 ⟨st, hk⟩
  try dsimp only at st hk ⊢
  refine Wc.seq ?_
  refine Wc.seq ?_
  refine Wc.region rfl ?_
  refine Wl.pure (PR.moveI rfl) ?_
  refine Wl.pure (PR.lss (a := ((k : Nat) : Int)) (b := 6) rfl rfl) ?_
  refine Wl.nil ?_
  refine tn ?_
  refine Wc.condD (p := ((k : Nat) : Int) < 6) rfl (fun h4 => ?_) (fun h4 => ?_)
  · refine Wc.skip ?_
    refine tn ?_
    refine Wc.seq ?_
    refine Wc.block ?_
    refine Wc.seq ?_
    refine Wc.quiet hmix (by kernel_rfl) rfl ?_
    refine Wq.pure (PR.moveI rfl) ?_
    refine Wq.pure (PR.idxAddrA (i := k) tE_52 rfl rfl (by omega)) ?_
    refine Wq.loadA (i := 1) (vs := layV (p k) ((c k))) st tA_30 rfl rfl (recV_sub0 (n := 6) (i := k) (layS_row _ _) (by omega)) layV_len ?_
    refine Wq.pure (PR.moveI rfl) ?_
    refine Wq.pure (PR.idxAddrA (i := k) tE_52 rfl rfl (by omega)) ?_
    refine Wq.loadA (i := 0) (vs := layV (p k) ((c k))) st tA_30 rfl rfl (recV_sub0 (n := 6) (i := k) (layS_row _ _) (by omega)) layV_len ?_
    refine Wq.callV (fun _ hbel => c_laws_eqLayer (p := p k) (c := (c k))) rfl ?_
    refine Wq.pure (PR.not_ rfl) ?_
    refine Wq.nil (fun w5 hbel => ?_)
    replace st := st.call hbel
    clear hbel
    refine tn ?_
    refine Wc.condF rfl ?_
    refine Wc.skip ?_
    refine bn ?_
    refine tn ?_
    refine Wc.region rfl ?_
    refine Wl.pure (PR.moveI rfl) ?_
    refine Wl.pure (PR.add (a := ((k : Nat) : Int)) (b := 1) rfl rfl (by simp only [fitI]; omega)) ?_
    refine Wl.pure (PR.assI rfl) ?_
    refine Wl.nil ?_
    refine tn ?_
    exact ⟨k + 1, (.cons rfl (.cons rfl (.cons rfl (.nil _)))), ⟨st, (by first | omega | (dsimp only; omega))⟩, (by first | omega | (dsimp only; omega))⟩
  · refine Wc.exit ?_
    refine tx ?_
    refine tx ?_
    refine bh ?_
    refine tn ?_
    refine Wc.seq ?_
    refine Wc.region rfl ?_
    refine Wl.pure (PR.assB rfl) ?_
    refine Wl.nil ?_
    refine tn ?_
    refine Wc.ret ?_
    refine postL.tmp rfl rfl ?_
    exact RetV.of rfl st.below

set_option maxHeartbeats 400000 in
set_option maxRecDepth 4000 in
theorem c_laws_FnExactColourLayers {P : Nat → Nat} {x : Nat} {w : World} (hP : ∀ k, P k < 18446744073709551616) (hx : x < 4294967296) :
    CE Try.prog 10 [.agg (arrU .u64 3 P).toArray, .int .u32 (((x : Nat) : Int))] w (RetV w (.bool true)) := by
  refine CE.enter 32 [(0, .agg (arrU .u64 3 P).toArray), (1, .int .u32 (((x : Nat) : Int)))] en_10 Try.func10 rfl rfl (Nat.le_of_ble_eq_true rfl) rfl ?_
  have st := St.start w
  refine Wc.seq ?_
  refine Wc.region rfl ?_
  refine Wl.boxA st rfl ?_
  clear st
  intro b2 w1 st
  refine Wl.pure (PR.assB rfl) ?_
  refine Wl.nil ?_
  refine tn ?_
  refine Wc.seq ?_
  refine Wc.region rfl ?_
  refine Wl.loadA (i := 0) st tA_51 rfl rfl (all_sub (arrU_len _)) (arrU_len _) ?_
  refine Wl.callV (c_laws_toPictureA3 (P := P) hP) rfl ?_
  intro w2 hbel
  replace st := st.call hbel
  clear hbel
  refine Wl.pure (PR.moveI rfl) ?_
  refine Wl.callV (c_spec_ColourLayers (P := P) (x := x) hP hx) rfl ?_
  intro w3 hbel
  replace st := st.call hbel
  clear hbel
  refine Wl.pure (PR.moveV (.tuple #[.agg (layS 6 (fun _ => 2) (clL P x)).toArray, .int .u32 (((sxK x 3 : Nat) : Int))]) rfl) ?_
  refine Wl.pure (PR.extr (i := 0) (vs := [.agg (layS 6 (fun _ => 2) (clL P x)).toArray, .int .u32 (((sxK x 3 : Nat) : Int))]) rfl rfl) ?_
  refine Wl.pure (PR.extr (i := 1) (vs := [.agg (layS 6 (fun _ => 2) (clL P x)).toArray, .int .u32 (((sxK x 3 : Nat) : Int))]) rfl rfl) ?_
  refine Wl.alloc st tZ_52 rfl ?_
  clear st
  intro b5 w4 st
  refine Wl.storeA (i := 0) (cs' := layS 6 (fun _ => 2) (clL P x)) st tA_52 rfl rfl (recV_len (s := 65) (layS_row _ _) _) (layS_one _ _) rfl (le_of_len (recV_len (s := 65) (layS_row _ _) _) (by omega)) (all_put (recV_len (s := 65) (layS_row _ _) _)) ?_
  clear st
  intro w5 st
  replace st : St [] w w5 [(b5, layS 6 (fun _ => 2) (clL P x), 52), (b2, arrU .u64 3 P, 51)] := st
  refine Wl.pure (PR.assI rfl) ?_
  refine Wl.nil ?_
  refine tn ?_
  refine Wc.seq ?_
  refine Wc.region rfl ?_
  refine Wl.loadA (i := 1) st tA_51 rfl rfl (all_sub (arrU_len _)) (arrU_len _) ?_
  refine Wl.callV (c_laws_toPictureA3 (P := P) hP) rfl ?_
  intro w6 hbel
  replace st := st.call hbel
  clear hbel
  refine Wl.pure (PR.moveI rfl) ?_
  refine Wl.callV (c_impl_ColourLayers (P := P) (x := x) hP hx) rfl ?_
  intro w7 hbel
  replace st := st.call hbel
  clear hbel
  refine Wl.pure (PR.moveV (.tuple #[.agg (layS 6 (fun _ => 2) (clL P x)).toArray, .int .u32 (((sxK x 3 : Nat) : Int))]) rfl) ?_
  refine Wl.pure (PR.extr (i := 0) (vs := [.agg (layS 6 (fun _ => 2) (clL P x)).toArray, .int .u32 (((sxK x 3 : Nat) : Int))]) rfl rfl) ?_
  refine Wl.pure (PR.extr (i := 1) (vs := [.agg (layS 6 (fun _ => 2) (clL P x)).toArray, .int .u32 (((sxK x 3 : Nat) : Int))]) rfl rfl) ?_
  refine Wl.alloc st tZ_52 rfl ?_
  clear st
  intro b7 w8 st
  refine Wl.storeA (i := 0) (cs' := layS 6 (fun _ => 2) (clL P x)) st tA_52 rfl rfl (recV_len (s := 65) (layS_row _ _) _) (layS_one _ _) rfl (le_of_len (recV_len (s := 65) (layS_row _ _) _) (by omega)) (all_put (recV_len (s := 65) (layS_row _ _) _)) ?_
  clear st
  intro w9 st
  replace st : St [] w w9 [(b7, layS 6 (fun _ => 2) (clL P x), 52), (b5, layS 6 (fun _ => 2) (clL P x), 52), (b2, arrU .u64 3 P, 51)] := st
  refine Wl.pure (PR.assI rfl) ?_
  refine Wl.nil ?_
  refine tn ?_
  refine Wc.seq ?_
  refine Wc.seq ?_
  refine Wc.region rfl ?_
  refine Wl.loadA (i := 0) st tA_52 rfl rfl (all_sub (recV_len (s := 65) (layS_row _ _) _)) (recV_len (s := 65) (layS_row _ _) _) ?_
  refine Wl.loadA (i := 1) st tA_52 rfl rfl (all_sub (recV_len (s := 65) (layS_row _ _) _)) (recV_len (s := 65) (layS_row _ _) _) ?_
  refine Wl.callV (c_laws_eqLayerA6) rfl ?_
  intro w10 hbel
  replace st := st.call hbel
  clear hbel
  refine Wl.pure (PR.not_ rfl) ?_
  refine Wl.pure (PR.moveB rfl) ?_
  refine Wl.on rfl rfl ?_
  refine Wl.pure (PR.moveI rfl) ?_
  refine Wl.on rfl rfl ?_
  refine Wl.pure (PR.moveI rfl) ?_
  refine Wl.on rfl rfl ?_
  refine Wl.pure (PR.neqS (a := ((sxK x 3 : Nat) : Int)) rfl rfl) ?_
  refine Wl.pure (PR.pickFB rfl rfl) ?_
  refine Wl.nil ?_
  refine tn ?_
  refine Wc.condF rfl ?_
  refine Wc.skip ?_
  refine tn ?_
  refine Wc.seq ?_
  refine Wc.region rfl ?_
  refine Wl.pure (PR.assB rfl) ?_
  refine Wl.nil ?_
  refine tn ?_
  refine Wc.ret ?_
  refine postL.tmp rfl rfl ?_
  exact RetV.of rfl st.below

end Go.Proofs.Ytajkjhjnbfcpfaa
