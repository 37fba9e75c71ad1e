/-
  Contracts of functions, printed by a program of ours.
-/
import Derived.Test.YtajkjhjnbfcpfaaCW3
namespace Go.Proofs.Ytajkjhjnbfcpfaa
open Go.RowKit
set_option linter.unusedVariables false
set_option linter.unusedSimpArgs false

set_option maxHeartbeats 400000 in
set_option maxRecDepth 4000 in
theorem c_impl_TripleLayers {p : Nat} {q : Nat} {x : Nat} {w : World} (hp : p < 18446744073709551616) (hq : q < 18446744073709551616) (hx : x < 4294967296) :
    CE Try.prog 23 [.int .u64 (((p : Nat) : Int)), .int .u64 (((q : Nat) : Int)), .int .u32 (((x : Nat) : Int))] w (RetV w (.tuple #[.agg (layV (2) ((dwC (triF p q) 2 x 0))).toArray, .agg (layV (2) ((dwC (triF p q) 2 x 1))).toArray, .agg (layV (2) ((dwC (triF p q) 2 x 2))).toArray, .int .u32 (((sdK 2 x 64 : Nat) : Int))])) := by
  refine CE.enter 23 [(0, .int .u64 (((p : Nat) : Int))), (1, .int .u64 (((q : Nat) : Int))), (2, .int .u32 (((x : Nat) : Int)))] en_23 Try.func23 rfl rfl (Nat.le_of_ble_eq_true rfl) rfl ?_
  have st := St.start w
  refine Wc.seq ?_
  refine Wc.region rfl ?_
  refine Wl.boxI st rfl ?_
  clear st
  intro b3 w1 st
  refine Wl.boxI st rfl ?_
  clear st
  intro b4 w2 st
  refine Wl.boxI st rfl ?_
  clear st
  intro b5 w3 st
  refine Wl.alloc st tZ_30 rfl ?_
  clear st
  intro b6 w4 st
  refine Wl.alloc st tZ_30 rfl ?_
  clear st
  intro b7 w5 st
  refine Wl.alloc st tZ_30 rfl ?_
  clear st
  intro b8 w6 st
  refine Wl.pure (PR.assI rfl) ?_
  refine Wl.nil ?_
  refine tn ?_
  refine Wc.seq ?_
  refine Wc.region rfl ?_
  refine Wl.pure (PR.mkFunc (vs := [.pointer (some ⟨b3, 0, none⟩), .pointer (some ⟨b4, 0, none⟩)]) rfl) ?_
  refine Wl.callXG [3] st (c_impl_drawn (bs := b5) (x := x) (n := 2) (fk := 77) (cap := [.pointer (some ⟨b3, 0, none⟩), .pointer (some ⟨b4, 0, none⟩)]) (m := 3) (f := (triF p q)) hx (by first | assumption | omega) (by first | assumption | omega) (triF_lt p q) (fun i hi w' hfr => c_impl_TripleLayers_1 (st.rdF (i := 5) (j := 3) rfl rfl (by decide) hfr) (st.rdF (i := 4) (j := 3) rfl rfl (by decide) hfr) hp hq hi) (st.lend (L' := [(b5, [.int .u32 (((x : Nat) : Int))], 38)]) [3] (by decide) rfl)) rfl rfl ?_
  clear st
  intro b12 c12 sp12 w7 hc12 hs12 st
  replace st : St [] w w7 [(b12, layS 3 (fun _ => ((2 : Nat) : Int)) (dwC (triF p q) 2 x) ++ sp12, 30), (b5, [.int .u32 (((sdK 2 x 64 : Nat) : Int))], 38), (b8, layV (0) ((fun _ => 0)), 30), (b7, layV (0) ((fun _ => 0)), 30), (b6, layV (0) ((fun _ => 0)), 30), (b4, [.int .u64 (((q : Nat) : Int))], 27), (b3, [.int .u64 (((p : Nat) : Int))], 27)] := st
  refine Wl.pure (PR.assL rfl) ?_
  refine Wl.nil ?_
  refine tn ?_
  refine Wc.seq ?_
  refine Wc.tree1 (w0 := w) (X := []) (Ks := [b12, b5]) (S := fun i => i == 10 || i == 11 || i == 12) (.st 0 0 (.st 1 0 (.st 3 0 (.st 4 0 (.st 6 0 (.st 7 0 (.st 2 1 (.st 5 3 (.st 8 3 (.st 9 3 (.st 10 2 (.st 11 2 (.st 12 2 (.st 13 0 PT.nil)))))))))))))) hmix (by kernel_rfl) (by kernel_rfl) rfl rfl ?_
  intro w8 hbel
  replace st := st.call hbel
  clear hbel
  refine WT.pure rfl (PR.moveL rfl) ?_
  refine WT.pure rfl (PR.idxAddrS (i := 0) tS_99 rfl rfl (by omega)) ?_
  refine WT.pure rfl (PR.moveL rfl) ?_
  refine WT.pure rfl (PR.idxAddrS (i := 1) tS_99 rfl rfl (by omega)) ?_
  refine WT.pure rfl (PR.moveL rfl) ?_
  refine WT.pure rfl (PR.idxAddrS (i := 2) tS_99 rfl rfl (by omega)) ?_
  refine WT.loadA1 (j := 0) (vs := layV ((fun _ => ((2 : Nat) : Int)) 0) (((dwC (triF p q) 2 x) 0))) rfl st tA_30 rfl rfl (app_sub (recV_sub0 (n := 3) (i := 0) (layS_row _ _) (by omega)) (recV_tot (n := 3) (i := 0) (layS_row _ _) (by omega))) layV_len ?_
  refine WT.loadA (j := 0) (vs := layV ((fun _ => ((2 : Nat) : Int)) 1) (((dwC (triF p q) 2 x) 1))) rfl (by simp) st tA_30 rfl rfl (app_sub (recV_sub0 (n := 3) (i := 1) (layS_row _ _) (by omega)) (recV_tot (n := 3) (i := 1) (layS_row _ _) (by omega))) layV_len ?_
  refine WT.loadA (j := 0) (vs := layV ((fun _ => ((2 : Nat) : Int)) 2) (((dwC (triF p q) 2 x) 2))) rfl (by simp) st tA_30 rfl rfl (app_sub (recV_sub0 (n := 3) (i := 2) (layS_row _ _) (by omega)) (recV_tot (n := 3) (i := 2) (layS_row _ _) (by omega))) layV_len ?_
  refine WT.load (j := 1) rfl (by simp) st tA_38 rfl rfl (rfl) ?_
  have st0 := st
  refine WT.s rfl rfl ?_
  refine Wl.storeA (i := 4) (cs' := layV ((fun _ => ((2 : Nat) : Int)) 0) (((dwC (triF p q) 2 x) 0))) st tA_30 rfl rfl layV_len layV_one rfl (le_of_len layV_len (by omega)) (all_put layV_len) ?_
  clear st
  intro w9 st
  replace st : St [] w w9 [(b12, layS 3 (fun _ => ((2 : Nat) : Int)) (dwC (triF p q) 2 x) ++ sp12, 30), (b5, [.int .u32 (((sdK 2 x 64 : Nat) : Int))], 38), (b8, layV (0) ((fun _ => 0)), 30), (b7, layV (0) ((fun _ => 0)), 30), (b6, layV ((fun _ => ((2 : Nat) : Int)) 0) (((dwC (triF p q) 2 x) 0)), 30), (b4, [.int .u64 (((q : Nat) : Int))], 27), (b3, [.int .u64 (((p : Nat) : Int))], 27)] := st
  refine Wl.nil ⟨rfl, RK.of st0 st (ksC (i := 0) (j := 0) rfl rfl rfl (ksC (i := 1) (j := 1) rfl rfl rfl ksN)), ?_⟩
  clear st0
  have st0 := st
  refine WT.s rfl rfl ?_
  refine Wl.storeA (i := 3) (cs' := layV ((fun _ => ((2 : Nat) : Int)) 1) (((dwC (triF p q) 2 x) 1))) st tA_30 rfl rfl layV_len layV_one rfl (le_of_len layV_len (by omega)) (all_put layV_len) ?_
  clear st
  intro w10 st
  replace st : St [] w w10 [(b12, layS 3 (fun _ => ((2 : Nat) : Int)) (dwC (triF p q) 2 x) ++ sp12, 30), (b5, [.int .u32 (((sdK 2 x 64 : Nat) : Int))], 38), (b8, layV (0) ((fun _ => 0)), 30), (b7, layV ((fun _ => ((2 : Nat) : Int)) 1) (((dwC (triF p q) 2 x) 1)), 30), (b6, layV ((fun _ => ((2 : Nat) : Int)) 0) (((dwC (triF p q) 2 x) 0)), 30), (b4, [.int .u64 (((q : Nat) : Int))], 27), (b3, [.int .u64 (((p : Nat) : Int))], 27)] := st
  refine Wl.nil ⟨rfl, RK.of st0 st (ksC (i := 0) (j := 0) rfl rfl rfl (ksC (i := 1) (j := 1) rfl rfl rfl ksN)), ?_⟩
  clear st0
  have st0 := st
  refine WT.s rfl rfl ?_
  refine Wl.storeA (i := 2) (cs' := layV ((fun _ => ((2 : Nat) : Int)) 2) (((dwC (triF p q) 2 x) 2))) st tA_30 rfl rfl layV_len layV_one rfl (le_of_len layV_len (by omega)) (all_put layV_len) ?_
  clear st
  intro w11 st
  replace st : St [] w w11 [(b12, layS 3 (fun _ => ((2 : Nat) : Int)) (dwC (triF p q) 2 x) ++ sp12, 30), (b5, [.int .u32 (((sdK 2 x 64 : Nat) : Int))], 38), (b8, layV ((fun _ => ((2 : Nat) : Int)) 2) (((dwC (triF p q) 2 x) 2)), 30), (b7, layV ((fun _ => ((2 : Nat) : Int)) 1) (((dwC (triF p q) 2 x) 1)), 30), (b6, layV ((fun _ => ((2 : Nat) : Int)) 0) (((dwC (triF p q) 2 x) 0)), 30), (b4, [.int .u64 (((q : Nat) : Int))], 27), (b3, [.int .u64 (((p : Nat) : Int))], 27)] := st
  refine Wl.nil ⟨rfl, RK.of st0 st (ksC (i := 0) (j := 0) rfl rfl rfl (ksC (i := 1) (j := 1) rfl rfl rfl ksN)), ?_⟩
  clear st0
  refine WT.pure rfl (PR.assI rfl) ?_
  refine WT.nil ?_
  refine tn ?_
  refine Wc.ret ?_
  refine postL.many (rvs := [.cell 6 30, .cell 7 30, .cell 8 30, .tmp 9]) rfl (.cell (us := layV ((fun _ => ((2 : Nat) : Int)) 0) (((dwC (triF p q) 2 x) 0))) tA_30 rfl layV_len (st.rdA (i := 4) (n := 65) rfl (all_sub layV_len)) (.cell (us := layV ((fun _ => ((2 : Nat) : Int)) 1) (((dwC (triF p q) 2 x) 1))) tA_30 rfl layV_len (st.rdA (i := 3) (n := 65) rfl (all_sub layV_len)) (.cell (us := layV ((fun _ => ((2 : Nat) : Int)) 2) (((dwC (triF p q) 2 x) 2))) tA_30 rfl layV_len (st.rdA (i := 2) (n := 65) rfl (all_sub layV_len)) (.tmp (v := .int .u32 (((sdK 2 x 64 : Nat) : Int))) rfl .nil)))) ?_
  refine RetV.of ?_ st.below
  rfl

set_option maxHeartbeats 400000 in
set_option maxRecDepth 4000 in
theorem c_spec_l05Maker_add {bm : Nat} {bl : Nat} {br : Nat} {x : Nat} {n : Nat} {q : Nat} {cl : Nat} {cr : Nat} {pp : Nat → Int} {cc : Nat → Nat → Nat} {v : Nat → Nat} {k : Nat} {w : World} (hx : x < 4294967296) (hn : 1 ≤ n ∧ n ≤ 8) (hq : q ≤ 8) (hcc : ∀ u j, cc u j < 256) (hv : ∀ u, v u < 256) (hk : k < 64) (hst : St [bm, bl, br] w w [(bm, [.int .u32 (((x : Nat) : Int)), .int .i8 (((n : Nat) : Int)), .slice (some ⟨bl, 0, none⟩) (q) (cl)], 109), (bl, layS q pp cc, 30), (br, arrU .u8 q v, 5)]) :
    CE Try.prog 73 [.pointer (some ⟨bm, 0, none⟩), .int .i64 (((k : Nat) : Int)), .slice (some ⟨br, 0, none⟩) (q) (cr)] w (RetX w [bm, bl, br] (.tuple #[]) [(bm, [.int .u32 (((xOf n x : Nat) : Int)), .int .i8 (((n : Nat) : Int)), .slice (some ⟨bl, 0, none⟩) (q) (cl)], 109), (bl, layS q (setP pp q ((n : Nat) : Int)) (setC cc q k (fun u => rdF (v u) (oOf n x) n)), 30), (br, arrU .u8 q v, 5)]) := by
  refine CE.enter 58 [(0, .pointer (some ⟨bm, 0, none⟩)), (1, .int .i64 (((k : Nat) : Int))), (2, .slice (some ⟨br, 0, none⟩) (q) (cr))] en_73 Try.func73 rfl rfl (Nat.le_of_ble_eq_true rfl) rfl ?_
  have st := hst
  refine Wc.seq ?_
  refine Wc.tree1 (w0 := w) (X := [bm, bl, br]) (Ks := [bm]) (S := fun i => i == 9) (.st 0 0 (.st 1 0 (.st 2 0 (.st 4 0 (.st 5 0 (.st 6 0 (.st 3 1 (.st 7 3 (.st 8 0 (.st 9 2 (.st 10 0 (.st 11 0 (.st 12 0 (.st 13 0 (.st 14 0 PT.nil))))))))))))))) hmix (by kernel_rfl) (by kernel_rfl) rfl rfl ?_
  intro w1 hbel
  replace st := st.call hbel
  clear hbel
  refine WT.pure rfl (PR.moveP rfl) ?_
  refine WT.pure rfl (PR.nil_ rfl) ?_
  refine WT.pure rfl (PR.fieldAddr tF_109_0 rfl) ?_
  refine WT.pure rfl (PR.moveP rfl) ?_
  refine WT.pure rfl (PR.nil_ rfl) ?_
  refine WT.pure rfl (PR.fieldAddr tF_109_1 rfl) ?_
  refine WT.load1 (j := 0) rfl st tA_38 rfl rfl (rfl) ?_
  refine WT.load (j := 0) rfl (by simp) st tA_22 rfl rfl (rfl) ?_
  refine WT.pure rfl (PR.conv (n := ((n : Nat) : Int)) tI_2 rfl (by simp only [fitI]; omega) Try.underlying22) ?_
  have st0 := st
  refine WT.s rfl rfl ?_
  refine Wl.callXG [] st (c_spec_l03Order (x := x) (n := n) hx (by first | assumption | omega)) rfl rfl ?_
  clear st
  intro b19 c19 sp19 w2 hc19 hs19 st
  replace st : St [bm, bl, br] w w2 [(b19, arrU .i8 n (oOf n x) ++ sp19, 22), (bm, [.int .u32 (((x : Nat) : Int)), .int .i8 (((n : Nat) : Int)), .slice (some ⟨bl, 0, none⟩) (q) (cl)], 109), (bl, layS q pp cc, 30), (br, arrU .u8 q v, 5)] := st
  refine Wl.nil ⟨rfl, RK.of st0 st (ksC (i := 0) (j := 1) rfl rfl rfl ksN), ?_⟩
  clear st0
  refine WT.pure rfl (PR.moveV (.tuple #[.slice (some ⟨b19, 0, none⟩) (n) (c19), .int .u32 (((xOf n x : Nat) : Int))]) rfl) ?_
  refine WT.pure rfl (PR.extr (i := 0) (vs := [.slice (some ⟨b19, 0, none⟩) (n) (c19), .int .u32 (((xOf n x : Nat) : Int))]) rfl rfl) ?_
  refine WT.pure rfl (PR.extr (i := 1) (vs := [.slice (some ⟨b19, 0, none⟩) (n) (c19), .int .u32 (((xOf n x : Nat) : Int))]) rfl rfl) ?_
  refine WT.pure rfl (PR.assL rfl) ?_
  refine WT.pure rfl (PR.assI rfl) ?_
  refine WT.nil ?_
  refine tn ?_
  refine Wc.seq ?_
  refine Wc.region rfl ?_
  refine Wl.pure (PR.moveP rfl) ?_
  refine Wl.pure (PR.moveI rfl) ?_
  refine Wl.pure (PR.nil_ rfl) ?_
  refine Wl.pure (PR.fieldAddr tF_109_0 rfl) ?_
  refine Wl.store (i := 1) (cs' := [.int .u32 (((xOf n x : Nat) : Int)), .int .i8 (((n : Nat) : Int)), .slice (some ⟨bl, 0, none⟩) (q) (cl)]) st tA_38 rfl rfl rfl rfl (by simp) (rfl) ?_
  clear st
  intro w3 st
  replace st : St [bm, bl, br] w w3 [(b19, arrU .i8 n (oOf n x) ++ sp19, 22), (bm, [.int .u32 (((xOf n x : Nat) : Int)), .int .i8 (((n : Nat) : Int)), .slice (some ⟨bl, 0, none⟩) (q) (cl)], 109), (bl, layS q pp cc, 30), (br, arrU .u8 q v, 5)] := st
  refine Wl.nil ?_
  refine tn ?_
  refine Wc.seq ?_
  refine Wc.region rfl ?_
  refine Wl.pure (PR.assI rfl) ?_
  refine Wl.nil ?_
  refine tn ?_
  refine Wc.block ?_
  rw [setP_0 pp ((n : Nat) : Int), setC_0 cc k (fun u => rdF (v u) (oOf n x) n)] at st
  refine Wc.loopF (γ := Nat) (fun g => [(0, .pointer (some ⟨bm, 0, none⟩)), (1, .int .i64 (((k : Nat) : Int))), (2, .slice (some ⟨br, 0, none⟩) (q) (cr)), (6, .slice (some ⟨b19, 0, none⟩) (n) (c19)), (8, .int .i64 (((g : Nat) : Int)))]) (fun g w_ => St [bm, bl, br] w w_ [(b19, arrU .i8 n (oOf n x) ++ sp19, 22), (bm, [.int .u32 (((xOf n x : Nat) : Int)), .int .i8 (((n : Nat) : Int)), .slice (some ⟨bl, 0, none⟩) (q) (cl)], 109), (bl, layS q (setP pp g ((n : Nat) : Int)) (setC cc g k (fun u => rdF (v u) (oOf n x) n)), 30), (br, arrU .u8 q v, 5)] ∧ (g ≤ q)) (fun g => q - g) ?_ ?_
  · exact ⟨0, (.cons rfl (.cons rfl (.cons rfl (.cons rfl (.cons rfl (.nil _)))))), st, (by first | omega | (dsimp only; omega))⟩
  clear st
  rintro i w4 ⟨st, hi⟩
  try dsimp only at st hi ⊢
  refine Wc.seq ?_
  refine Wc.seq ?_
  refine Wc.region rfl ?_
  refine Wl.pure (PR.moveI rfl) ?_
  refine Wl.pure (PR.moveL rfl) ?_
  refine Wl.pure (PR.lenL tS_67 rfl) ?_
  refine Wl.pure (PR.lss (a := ((i : Nat) : Int)) (b := ((q : Nat) : Int)) rfl rfl) ?_
  refine Wl.nil ?_
  refine tn ?_
  refine Wc.condD (p := ((i : Nat) : Int) < ((q : Nat) : Int)) rfl (fun h5 => ?_) (fun h5 => ?_)
  · refine Wc.skip ?_
    refine tn ?_
    refine Wc.seq ?_
    refine Wc.block ?_
    refine Wc.seq ?_
    refine Wc.quietTail 11 hmix (by kernel_rfl) rfl ?_
    refine Wq.pure (PR.moveP rfl) ?_
    refine Wq.pure (PR.nil_ rfl) ?_
    refine Wq.pure (PR.fieldAddr tF_109_2 rfl) ?_
    refine Wq.load (i := 1) st tA_99 rfl rfl (rfl) ?_
    refine Wq.pure (PR.moveI rfl) ?_
    refine Wq.pure (PR.moveP rfl) ?_
    refine Wq.pure (PR.nil_ rfl) ?_
    refine Wq.pure (PR.fieldAddr tF_109_1 rfl) ?_
    refine Wq.load (i := 1) st tA_22 rfl rfl (rfl) ?_
    refine Wq.pure (PR.idxAddrS (i := i) tS_99 rfl rfl (by omega)) ?_
    refine Wq.pure (PR.fieldAddr tF_30_0 rfl) ?_
    refine Wq.nil (fun w6 hbel => ?_)
    replace st := st.call hbel
    clear hbel
    refine Wl.store (i := 2) (cs' := layS q (upd (setP pp i ((n : Nat) : Int)) i ((n : Nat) : Int)) (setC cc i k (fun u => rdF (v u) (oOf n x) n))) st tA_22 rfl rfl rfl rfl (layS_in (i := i) (j := 0) (by omega) (by omega) (by omega)) (layS_set_p (by omega)) ?_
    clear st
    intro w7 st
    replace st : St [bm, bl, br] w w7 [(b19, arrU .i8 n (oOf n x) ++ sp19, 22), (bm, [.int .u32 (((xOf n x : Nat) : Int)), .int .i8 (((n : Nat) : Int)), .slice (some ⟨bl, 0, none⟩) (q) (cl)], 109), (bl, layS q (upd (setP pp i ((n : Nat) : Int)) i ((n : Nat) : Int)) (setC cc i k (fun u => rdF (v u) (oOf n x) n)), 30), (br, arrU .u8 q v, 5)] := st
    refine Wl.nil ?_
    refine tn ?_
    refine Wc.quietTail 15 hmix (by kernel_rfl) rfl ?_
    refine Wq.pure (PR.moveP rfl) ?_
    refine Wq.pure (PR.nil_ rfl) ?_
    refine Wq.pure (PR.fieldAddr tF_109_2 rfl) ?_
    refine Wq.load (i := 1) st tA_99 rfl rfl (rfl) ?_
    refine Wq.pure (PR.moveI rfl) ?_
    refine Wq.pure (PR.moveI rfl) ?_
    refine Wq.pure (PR.moveL rfl) ?_
    refine Wq.pure (PR.moveI rfl) ?_
    refine Wq.pure (PR.idxAddrS1 (i := i) tS_67 rfl rfl (by omega)) ?_
    refine Wq.load (i := 3) st tA_5 rfl rfl (arrU_get0 (by omega)) ?_
    refine Wq.pure (PR.moveL rfl) ?_
    refine Wq.callV (fun _ hbel => c_spec_l01Reordered (v := v (i)) (A := some ⟨b19, 0, none⟩) (n := n) (cp := c19) (o := (oOf n x)) (hv (i)) (((st.rdA (i := 0) (n := n) rfl (app_all (arrU_len _))).sl).below hbel) (by omega) (fun j hj => Nat.lt_of_lt_of_le (oOf_lt j hj) (by omega))) rfl ?_
    refine Wq.pure (PR.idxAddrS (i := i) tS_99 rfl rfl (by omega)) ?_
    refine Wq.pure (PR.fieldAddr tF_30_1 rfl) ?_
    refine Wq.pure (PR.idxAddrA1 (i := k) tE_23 rfl rfl (by omega)) ?_
    refine Wq.nil (fun w8 hbel => ?_)
    replace st := st.call hbel
    clear hbel
    refine Wl.store (i := 2) (cs' := layS q (upd (setP pp i ((n : Nat) : Int)) i ((n : Nat) : Int)) (upd (setC cc i k (fun u => rdF (v u) (oOf n x) n)) i (upd ((setC cc i k (fun u => rdF (v u) (oOf n x) n)) i) k (rdF (v (i)) (oOf n x) n)))) st tA_5 rfl rfl rfl rfl (layS_in (i := i) (j := 1 + k) (by omega) (by omega) (by omega)) (layS_set_c (by omega) (by omega)) ?_
    clear st
    intro w9 st
    replace st : St [bm, bl, br] w w9 [(b19, arrU .i8 n (oOf n x) ++ sp19, 22), (bm, [.int .u32 (((xOf n x : Nat) : Int)), .int .i8 (((n : Nat) : Int)), .slice (some ⟨bl, 0, none⟩) (q) (cl)], 109), (bl, layS q (upd (setP pp i ((n : Nat) : Int)) i ((n : Nat) : Int)) (upd (setC cc i k (fun u => rdF (v u) (oOf n x) n)) i (upd ((setC cc i k (fun u => rdF (v u) (oOf n x) n)) i) k (rdF (v (i)) (oOf n x) n))), 30), (br, arrU .u8 q v, 5)] := st
    refine Wl.nil ?_
    refine bn ?_
    refine tn ?_
    refine Wc.region rfl ?_
    refine Wl.pure (PR.moveI rfl) ?_
    refine Wl.pure (PR.add (a := ((i : Nat) : Int)) (b := 1) rfl rfl (by simp only [fitI]; omega)) ?_
    refine Wl.pure (PR.assI rfl) ?_
    refine Wl.nil ?_
    refine tn ?_
    rw [setP_upd, setC_upd cc i k (fun u => rdF (v u) (oOf n x) n)] at st
    exact ⟨i + 1, (.cons rfl (.cons rfl (.cons rfl (.cons rfl (.cons rfl (.nil _)))))), ⟨st, (by first | omega | (dsimp only; omega))⟩, (by first | omega | (dsimp only; omega))⟩
  · refine Wc.exit ?_
    refine tx ?_
    refine tx ?_
    refine bh ?_
    refine postL.nores' rfl ?_
    obtain rfl : q = i := by omega
    replace st : St [bm, bl, br] w w4 [(bm, [.int .u32 (((xOf n x : Nat) : Int)), .int .i8 (((n : Nat) : Int)), .slice (some ⟨bl, 0, none⟩) (q) (cl)], 109), (bl, layS q (setP pp q ((n : Nat) : Int)) (setC cc q k (fun u => rdF (v u) (oOf n x) n)), 30), (br, arrU .u8 q v, 5)] := st.pick [1, 2, 3] (by decide) rfl
    exact st.retX rfl rfl

set_option maxHeartbeats 400000 in
set_option maxRecDepth 4000 in
theorem c_spec_TripleLayers {p : Nat} {q : Nat} {x : Nat} {w : World} (hp : p < 18446744073709551616) (hq : q < 18446744073709551616) (hx : x < 4294967296) :
    CE Try.prog 22 [.int .u64 (((p : Nat) : Int)), .int .u64 (((q : Nat) : Int)), .int .u32 (((x : Nat) : Int))] w (RetV w (.tuple #[.agg (layV (2) ((dwC (triF p q) 2 x 0))).toArray, .agg (layV (2) ((dwC (triF p q) 2 x 1))).toArray, .agg (layV (2) ((dwC (triF p q) 2 x 2))).toArray, .int .u32 (((sdK 2 x 64 : Nat) : Int))])) := by
  refine CE.enter 54 [(0, .int .u64 (((p : Nat) : Int))), (1, .int .u64 (((q : Nat) : Int))), (2, .int .u32 (((x : Nat) : Int)))] en_22 Try.func22 rfl rfl (Nat.le_of_ble_eq_true rfl) rfl ?_
  have st := St.start w
  refine Wc.seq ?_
  refine Wc.region rfl ?_
  refine Wl.alloc st tZ_30 rfl ?_
  clear st
  intro b6 w1 st
  refine Wl.alloc st tZ_30 rfl ?_
  clear st
  intro b7 w2 st
  refine Wl.alloc st tZ_30 rfl ?_
  clear st
  intro b8 w3 st
  refine Wl.pure (PR.assI rfl) ?_
  refine Wl.nil ?_
  refine tn ?_
  refine Wc.seq ?_
  refine Wc.region rfl ?_
  refine Wl.pure (PR.moveI rfl) ?_
  refine Wl.makeSlice (n := 3) st tS_99 tZ_30 rfl rfl rfl (by omega) (by omega) ?_
  clear st
  intro b13 w4 st
  replace st : St [] w w4 [(b13, layS 3 (fun _ => 0) (fun _ _ => 0), 30), (b8, layV (0) ((fun _ => 0)), 30), (b7, layV (0) ((fun _ => 0)), 30), (b6, layV (0) ((fun _ => 0)), 30)] := st
  refine Wl.pure (PR.build (ps := [(0, .int .u32 (((x : Nat) : Int))), (1, .int .i8 (2)), (2, .slice (some ⟨b13, 0, none⟩) (3) (3))]) (cs := [.int .u32 (((x : Nat) : Int)), .int .i8 (2), .slice (some ⟨b13, 0, none⟩) (3) (3)]) tB_109 rfl rfl) ?_
  refine Wl.boxA st rfl ?_
  clear st
  intro b15 w5 st
  refine Wl.pure (PR.assP rfl) ?_
  refine Wl.nil ?_
  refine tn ?_
  refine Wc.seq ?_
  refine Wc.seq ?_
  refine Wc.region rfl ?_
  refine Wl.pure (PR.assI rfl) ?_
  refine Wl.nil ?_
  refine tn ?_
  refine Wc.block ?_
  refine Wc.loopF (γ := Nat × (Nat → Int) × (Nat → Nat → Nat)) (fun g => [(0, .int .u64 (((p : Nat) : Int))), (1, .int .u64 (((q : Nat) : Int))), (6, .pointer (some ⟨b6, 0, none⟩)), (7, .pointer (some ⟨b7, 0, none⟩)), (8, .pointer (some ⟨b8, 0, none⟩)), (9, .int .u32 (0)), (10, .pointer (some ⟨b15, 0, none⟩)), (11, .int .i64 (((g.1 : Nat) : Int)))]) (fun g w_ => St [] w w_ [(b15, [.int .u32 (((sdK 2 x g.1 : Nat) : Int)), .int .i8 (2), .slice (some ⟨b13, 0, none⟩) (3) (3)], 109), (b13, layS 3 g.2.1 g.2.2, 30), (b8, layV (0) ((fun _ => 0)), 30), (b7, layV (0) ((fun _ => 0)), 30), (b6, layV (0) ((fun _ => 0)), 30)] ∧ (g.1 ≤ 64) ∧ (∀ u v, g.2.2 u v < 256) ∧ (0 < g.1 → ∀ u, u < 3 → g.2.1 u = 2) ∧ (∀ u, u < 3 → ∀ v, v < g.1 → g.2.2 u v = dwC (triF p q) 2 x u v)) (fun g => 64 - g.1) ?_ ?_
  · exact ⟨(0, (fun _ => 0), (fun _ _ => 0)), (.cons rfl (.cons rfl (.cons rfl (.cons rfl (.cons rfl (.cons rfl (.cons rfl (.cons rfl (.nil _))))))))), st, (by first | omega | (dsimp only; omega)), (fun _ _ => by dsimp only; decide), (fun h => absurd h (by decide)), (fun u hu v hv => by omega)⟩
  clear st
  rintro ⟨k, pp, cc⟩ w6 ⟨st, hk, hcc, hpp, hg⟩
  try dsimp only at st hk hcc hpp hg ⊢
  refine Wc.seq ?_
  refine Wc.seq ?_
  refine Wc.region rfl ?_
  refine Wl.pure (PR.moveI rfl) ?_
  refine Wl.pure (PR.lss (a := ((k : Nat) : Int)) (b := 64) rfl rfl) ?_
  refine Wl.nil ?_
  refine tn ?_
  refine Wc.condD (p := ((k : Nat) : Int) < 64) rfl (fun h7 => ?_) (fun h7 => ?_)
  · refine Wc.skip ?_
    refine tn ?_
    refine Wc.seq ?_
    refine Wc.block ?_
    refine Wc.region rfl ?_
    refine Wl.pure (PR.moveP rfl) ?_
    refine Wl.pure (PR.moveI rfl) ?_
    refine Wl.pure (PR.moveI rfl) ?_
    refine Wl.pure (PR.moveI rfl) ?_
    refine Wl.callV (c_bit_pec (x := p) (k := k) hp (by first | assumption | omega)) rfl ?_
    intro w8 hbel
    replace st := st.call hbel
    clear hbel
    refine Wl.callV (c_spec_l05Other (q := (bitB p k))) rfl ?_
    intro w9 hbel
    replace st := st.call hbel
    clear hbel
    refine Wl.pure (PR.moveI rfl) ?_
    refine Wl.pure (PR.moveI rfl) ?_
    refine Wl.callV (c_bit_pec (x := q) (k := k) hq (by first | assumption | omega)) rfl ?_
    intro w10 hbel
    replace st := st.call hbel
    clear hbel
    refine Wl.callV (c_spec_l05Other (q := (bitB q k))) rfl ?_
    intro w11 hbel
    replace st := st.call hbel
    clear hbel
    refine Wl.buildSlice (ps := [(0, .int .u8 (1)), (1, .int .u8 (((otF (bitB p k) : Nat) : Int))), (2, .int .u8 (((otF (bitB q k) : Nat) : Int)))]) (cs := [.int .u8 (1), .int .u8 (((otF (bitB p k) : Nat) : Int)), .int .u8 (((otF (bitB q k) : Nat) : Int))]) st tS_67 tZ_5 rfl rfl rfl ?_
    clear st
    intro b30 w12 st
    refine Wl.callX [1, 2, 0] st (c_spec_l05Maker_add (bm := b15) (bl := b13) (br := b30) (x := sdK 2 x k) (n := 2) (q := 3) (cl := 3) (cr := 3) (pp := pp) (cc := cc) (v := (fun z_ => [1, otF (bitB p k), otF (bitB q k)].getD z_ 0)) (k := k) (sdK_lt hx k) (by first | assumption | omega) (by first | assumption | omega) hcc (nat_lt3 (by decide) (otF_lt _) (otF_lt _)) (by first | assumption | omega) (st.lend (L' := [(b15, [.int .u32 (((sdK 2 x k : Nat) : Int)), .int .i8 (2), .slice (some ⟨b13, 0, none⟩) (3) (3)], 109), (b13, layS 3 pp cc, 30), (b30, [.int .u8 (1), .int .u8 (((otF (bitB p k) : Nat) : Int)), .int .u8 (((otF (bitB q k) : Nat) : Int))], 5)]) [1, 2, 0] (by decide) rfl)) rfl rfl ?_
    clear st
    intro w13 st
    replace st : St [] w w13 [(b15, [.int .u32 (((xOf 2 (sdK 2 x k) : Nat) : Int)), .int .i8 (2), .slice (some ⟨b13, 0, none⟩) (3) (3)], 109), (b13, layS 3 (setP pp 3 ((2 : Nat) : Int)) (setC cc 3 k (fun u => rdF ((fun z_ => [1, otF (bitB p k), otF (bitB q k)].getD z_ 0) u) (oOf 2 (sdK 2 x k)) 2)), 30), (b30, arrU .u8 3 (fun z_ => [1, otF (bitB p k), otF (bitB q k)].getD z_ 0), 5), (b8, layV (0) ((fun _ => 0)), 30), (b7, layV (0) ((fun _ => 0)), 30), (b6, layV (0) ((fun _ => 0)), 30)] := st
    refine Wl.nil ?_
    refine bn ?_
    refine tn ?_
    refine Wc.region rfl ?_
    refine Wl.pure (PR.moveI rfl) ?_
    refine Wl.pure (PR.add (a := ((k : Nat) : Int)) (b := 1) rfl rfl (by simp only [fitI]; omega)) ?_
    refine Wl.pure (PR.assI rfl) ?_
    refine Wl.nil ?_
    refine tn ?_
    replace st : St [] w w13 [(b15, [.int .u32 (((xOf 2 (sdK 2 x k) : Nat) : Int)), .int .i8 (2), .slice (some ⟨b13, 0, none⟩) (3) (3)], 109), (b13, layS 3 (setP pp 3 ((2 : Nat) : Int)) (setC cc 3 k (fun u => rdF ((fun z_ => [1, otF (bitB p k), otF (bitB q k)].getD z_ 0) u) (oOf 2 (sdK 2 x k)) 2)), 30), (b8, layV (0) ((fun _ => 0)), 30), (b7, layV (0) ((fun _ => 0)), 30), (b6, layV (0) ((fun _ => 0)), 30)] := st.pick [0, 1, 3, 4, 5] (by decide) rfl
    exact ⟨(k + 1, (setP pp 3 ((2 : Nat) : Int)), (setC cc 3 k (fun u => rdF ((fun z_ => [1, otF (bitB p k), otF (bitB q k)].getD z_ 0) u) (oOf 2 (sdK 2 x k)) 2))), (.cons rfl (.cons rfl (.cons rfl (.cons rfl (.cons rfl (.cons rfl (.cons rfl (.cons rfl (.nil _))))))))), ⟨st, (by first | omega | (dsimp only; omega)), (setC_lt hcc (fun _ => rdF_lt _ _ _) _ _), (fun _ => setP_next), (setC_next hg (fun u hu => rfl))⟩, (by first | omega | (dsimp only; omega))⟩
  · refine Wc.exit ?_
    refine tx ?_
    refine tx ?_
    refine bh ?_
    refine tn ?_
    refine Wc.seq ?_
    refine Wc.tree1 (w0 := w) (X := []) (Ks := [b15, b13]) (S := fun i => i == 22 || i == 23 || i == 24) (.st 0 0 (.st 1 0 (.st 2 0 (.st 6 0 (.st 7 0 (.st 8 0 (.st 12 0 (.st 13 0 (.st 14 0 (.st 18 0 (.st 19 0 (.st 20 0 (.st 3 1 (.st 4 0 (.st 5 1 (.st 9 3 (.st 10 0 (.st 11 3 (.st 15 3 (.st 16 0 (.st 17 3 (.st 21 3 (.st 22 2 (.st 23 2 (.st 24 2 (.st 25 0 PT.nil)))))))))))))))))))))))))) hmix (by kernel_rfl) (by kernel_rfl) rfl rfl ?_
    intro w14 hbel
    replace st := st.call hbel
    clear hbel
    refine WT.pure rfl (PR.moveP rfl) ?_
    refine WT.pure rfl (PR.nil_ rfl) ?_
    refine WT.pure rfl (PR.fieldAddr tF_109_2 rfl) ?_
    refine WT.pure rfl (PR.moveP rfl) ?_
    refine WT.pure rfl (PR.nil_ rfl) ?_
    refine WT.pure rfl (PR.fieldAddr tF_109_2 rfl) ?_
    refine WT.pure rfl (PR.moveP rfl) ?_
    refine WT.pure rfl (PR.nil_ rfl) ?_
    refine WT.pure rfl (PR.fieldAddr tF_109_2 rfl) ?_
    refine WT.pure rfl (PR.moveP rfl) ?_
    refine WT.pure rfl (PR.nil_ rfl) ?_
    refine WT.pure rfl (PR.fieldAddr tF_109_0 rfl) ?_
    refine WT.load1 (j := 0) rfl st tA_99 rfl rfl (rfl) ?_
    refine WT.pure rfl (PR.idxAddrS (i := 0) tS_99 rfl rfl (by omega)) ?_
    refine WT.loadA1 (j := 1) (vs := layV (pp 0) ((cc 0))) rfl st tA_30 rfl rfl (recV_sub0 (n := 3) (i := 0) (layS_row _ _) (by omega)) layV_len ?_
    refine WT.load (j := 0) rfl (by simp) st tA_99 rfl rfl (rfl) ?_
    refine WT.pure rfl (PR.idxAddrS (i := 1) tS_99 rfl rfl (by omega)) ?_
    refine WT.loadA (j := 1) (vs := layV (pp 1) ((cc 1))) rfl (by simp) st tA_30 rfl rfl (recV_sub0 (n := 3) (i := 1) (layS_row _ _) (by omega)) layV_len ?_
    refine WT.load (j := 0) rfl (by simp) st tA_99 rfl rfl (rfl) ?_
    refine WT.pure rfl (PR.idxAddrS (i := 2) tS_99 rfl rfl (by omega)) ?_
    refine WT.loadA (j := 1) (vs := layV (pp 2) ((cc 2))) rfl (by simp) st tA_30 rfl rfl (recV_sub0 (n := 3) (i := 2) (layS_row _ _) (by omega)) layV_len ?_
    refine WT.load (j := 0) rfl (by simp) st tA_38 rfl rfl (rfl) ?_
    have st0 := st
    refine WT.s rfl rfl ?_
    refine Wl.storeA (i := 4) (cs' := layV (pp 0) ((cc 0))) st tA_30 rfl rfl layV_len layV_one rfl (le_of_len layV_len (by omega)) (all_put layV_len) ?_
    clear st
    intro w15 st
    replace st : St [] w w15 [(b15, [.int .u32 (((sdK 2 x k : Nat) : Int)), .int .i8 (2), .slice (some ⟨b13, 0, none⟩) (3) (3)], 109), (b13, layS 3 pp cc, 30), (b8, layV (0) ((fun _ => 0)), 30), (b7, layV (0) ((fun _ => 0)), 30), (b6, layV (pp 0) ((cc 0)), 30)] := st
    refine Wl.nil ⟨rfl, RK.of st0 st (ksC (i := 0) (j := 0) rfl rfl rfl (ksC (i := 1) (j := 1) rfl rfl rfl ksN)), ?_⟩
    clear st0
    have st0 := st
    refine WT.s rfl rfl ?_
    refine Wl.storeA (i := 3) (cs' := layV (pp 1) ((cc 1))) st tA_30 rfl rfl layV_len layV_one rfl (le_of_len layV_len (by omega)) (all_put layV_len) ?_
    clear st
    intro w16 st
    replace st : St [] w w16 [(b15, [.int .u32 (((sdK 2 x k : Nat) : Int)), .int .i8 (2), .slice (some ⟨b13, 0, none⟩) (3) (3)], 109), (b13, layS 3 pp cc, 30), (b8, layV (0) ((fun _ => 0)), 30), (b7, layV (pp 1) ((cc 1)), 30), (b6, layV (pp 0) ((cc 0)), 30)] := st
    refine Wl.nil ⟨rfl, RK.of st0 st (ksC (i := 0) (j := 0) rfl rfl rfl (ksC (i := 1) (j := 1) rfl rfl rfl ksN)), ?_⟩
    clear st0
    have st0 := st
    refine WT.s rfl rfl ?_
    refine Wl.storeA (i := 2) (cs' := layV (pp 2) ((cc 2))) st tA_30 rfl rfl layV_len layV_one rfl (le_of_len layV_len (by omega)) (all_put layV_len) ?_
    clear st
    intro w17 st
    replace st : St [] w w17 [(b15, [.int .u32 (((sdK 2 x k : Nat) : Int)), .int .i8 (2), .slice (some ⟨b13, 0, none⟩) (3) (3)], 109), (b13, layS 3 pp cc, 30), (b8, layV (pp 2) ((cc 2)), 30), (b7, layV (pp 1) ((cc 1)), 30), (b6, layV (pp 0) ((cc 0)), 30)] := st
    refine Wl.nil ⟨rfl, RK.of st0 st (ksC (i := 0) (j := 0) rfl rfl rfl (ksC (i := 1) (j := 1) rfl rfl rfl ksN)), ?_⟩
    clear st0
    refine WT.pure rfl (PR.assI rfl) ?_
    refine WT.nil ?_
    refine tn ?_
    refine Wc.ret ?_
    refine postL.many (rvs := [.cell 6 30, .cell 7 30, .cell 8 30, .tmp 9]) rfl (.cell (us := layV (pp 0) ((cc 0))) tA_30 rfl layV_len (st.rdA (i := 4) (n := 65) rfl (all_sub layV_len)) (.cell (us := layV (pp 1) ((cc 1))) tA_30 rfl layV_len (st.rdA (i := 3) (n := 65) rfl (all_sub layV_len)) (.cell (us := layV (pp 2) ((cc 2))) tA_30 rfl layV_len (st.rdA (i := 2) (n := 65) rfl (all_sub layV_len)) (.tmp (v := .int .u32 (((sdK 2 x k : Nat) : Int))) rfl .nil)))) ?_
    refine RetV.of ?_ st.below
    obtain rfl : k = 64 := by omega
    exact tup_4 (layV_eq (hpp (by decide) 0 (by decide)) (hg 0 (by decide))) (layV_eq (hpp (by decide) 1 (by decide)) (hg 1 (by decide))) (layV_eq (hpp (by decide) 2 (by decide)) (hg 2 (by decide))) rfl

set_option maxHeartbeats 400000 in
set_option maxRecDepth 4000 in
theorem c_laws_eqLayer {p : Int} {c : Nat → Nat} {w : World} :
    CE Try.prog 24 [.agg (layV (p) (c)).toArray, .agg (layV (p) (c)).toArray] w (RetV w (.bool true)) := by
  refine CE.enter 16 [(0, .agg (layV (p) (c)).toArray), (1, .agg (layV (p) (c)).toArray)] en_24 Try.func24 rfl rfl (Nat.le_of_ble_eq_true rfl) rfl ?_
  have st := St.start w
  refine Wc.seq ?_
  refine Wc.region rfl ?_
  refine Wl.boxA st rfl ?_
  clear st
  intro b2 w1 st
  refine Wl.boxA st rfl ?_
  clear st
  intro b3 w2 st
  refine Wl.pure (PR.assB rfl) ?_
  refine Wl.nil ?_
  refine tn ?_
  refine Wc.seq ?_
  refine Wc.seq ?_
  refine Wc.region rfl ?_
  refine Wl.pure (PR.fieldAddr tF_30_0 rfl) ?_
  refine Wl.load (i := 1) st tA_22 rfl rfl (rfl) ?_
  refine Wl.pure (PR.fieldAddr tF_30_0 rfl) ?_
  refine Wl.load (i := 0) st tA_22 rfl rfl (rfl) ?_
  refine Wl.pure (PR.neqS (a := p) rfl rfl) ?_
  refine Wl.nil ?_
  refine tn ?_
  refine Wc.condF rfl ?_
  refine Wc.skip ?_
  refine tn ?_
  refine Wc.seq ?_
  refine Wc.seq ?_
  refine Wc.region rfl ?_
  refine Wl.pure (PR.fieldAddr tF_30_1 rfl) ?_
  refine Wl.loadA (i := 1) st tA_23 rfl rfl layV_sub_c (arrU_len _) ?_
  refine Wl.pure (PR.fieldAddr tF_30_1 rfl) ?_
  refine Wl.loadA (i := 0) st tA_23 rfl rfl layV_sub_c (arrU_len _) ?_
  refine Wl.callV (c_laws_eqByteA64 (c := c)) rfl ?_
  intro w3 hbel
  replace st := st.call hbel
  clear hbel
  refine Wl.pure (PR.not_ rfl) ?_
  refine Wl.nil ?_
  refine tn ?_
  refine Wc.condF rfl ?_
  refine Wc.skip ?_
  refine tn ?_
  refine Wc.seq ?_
  refine Wc.region rfl ?_
  refine Wl.pure (PR.assB rfl) ?_
  refine Wl.nil ?_
  refine tn ?_
  refine Wc.ret ?_
  refine postL.tmp rfl rfl ?_
  exact RetV.of rfl st.below

set_option maxHeartbeats 400000 in
set_option maxRecDepth 4000 in
theorem c_laws_FnExactTripleLayers {p : Nat} {q : Nat} {x : Nat} {w : World} (hp : p < 18446744073709551616) (hq : q < 18446744073709551616) (hx : x < 4294967296) :
    CE Try.prog 5 [.int .u64 (((p : Nat) : Int)), .int .u64 (((q : Nat) : Int)), .int .u32 (((x : Nat) : Int))] w (RetV w (.bool true)) := by
  refine CE.enter 54 [(0, .int .u64 (((p : Nat) : Int))), (1, .int .u64 (((q : Nat) : Int))), (2, .int .u32 (((x : Nat) : Int)))] en_5 Try.func5 rfl rfl (Nat.le_of_ble_eq_true rfl) rfl ?_
  have st := St.start w
  refine Wc.seq ?_
  refine Wc.region rfl ?_
  refine Wl.pure (PR.assB rfl) ?_
  refine Wl.nil ?_
  refine tn ?_
  refine Wc.seq ?_
  refine Wc.region rfl ?_
  refine Wl.pure (PR.moveI rfl) ?_
  refine Wl.pure (PR.moveI rfl) ?_
  refine Wl.pure (PR.moveI rfl) ?_
  refine Wl.callV (c_spec_TripleLayers (p := p) (q := q) (x := x) hp hq hx) rfl ?_
  intro w1 hbel
  replace st := st.call hbel
  clear hbel
  refine Wl.pure (PR.moveV (.tuple #[.agg (layV (2) ((dwC (triF p q) 2 x 0))).toArray, .agg (layV (2) ((dwC (triF p q) 2 x 1))).toArray, .agg (layV (2) ((dwC (triF p q) 2 x 2))).toArray, .int .u32 (((sdK 2 x 64 : Nat) : Int))]) rfl) ?_
  refine Wl.pure (PR.extr (i := 0) (vs := [.agg (layV (2) ((dwC (triF p q) 2 x 0))).toArray, .agg (layV (2) ((dwC (triF p q) 2 x 1))).toArray, .agg (layV (2) ((dwC (triF p q) 2 x 2))).toArray, .int .u32 (((sdK 2 x 64 : Nat) : Int))]) rfl rfl) ?_
  refine Wl.pure (PR.extr (i := 1) (vs := [.agg (layV (2) ((dwC (triF p q) 2 x 0))).toArray, .agg (layV (2) ((dwC (triF p q) 2 x 1))).toArray, .agg (layV (2) ((dwC (triF p q) 2 x 2))).toArray, .int .u32 (((sdK 2 x 64 : Nat) : Int))]) rfl rfl) ?_
  refine Wl.pure (PR.extr (i := 2) (vs := [.agg (layV (2) ((dwC (triF p q) 2 x 0))).toArray, .agg (layV (2) ((dwC (triF p q) 2 x 1))).toArray, .agg (layV (2) ((dwC (triF p q) 2 x 2))).toArray, .int .u32 (((sdK 2 x 64 : Nat) : Int))]) rfl rfl) ?_
  refine Wl.pure (PR.extr (i := 3) (vs := [.agg (layV (2) ((dwC (triF p q) 2 x 0))).toArray, .agg (layV (2) ((dwC (triF p q) 2 x 1))).toArray, .agg (layV (2) ((dwC (triF p q) 2 x 2))).toArray, .int .u32 (((sdK 2 x 64 : Nat) : Int))]) rfl rfl) ?_
  refine Wl.alloc st tZ_30 rfl ?_
  clear st
  intro b7 w2 st
  refine Wl.alloc st tZ_30 rfl ?_
  clear st
  intro b8 w3 st
  refine Wl.alloc st tZ_30 rfl ?_
  clear st
  intro b9 w4 st
  refine Wl.storeA (i := 2) (cs' := layV (2) ((dwC (triF p q) 2 x 0))) st tA_30 rfl rfl layV_len layV_one rfl (le_of_len layV_len (by omega)) (all_put layV_len) ?_
  clear st
  intro w5 st
  replace st : St [] w w5 [(b9, layV (0) ((fun _ => 0)), 30), (b8, layV (0) ((fun _ => 0)), 30), (b7, layV (2) ((dwC (triF p q) 2 x 0)), 30)] := st
  refine Wl.storeA (i := 1) (cs' := layV (2) ((dwC (triF p q) 2 x 1))) st tA_30 rfl rfl layV_len layV_one rfl (le_of_len layV_len (by omega)) (all_put layV_len) ?_
  clear st
  intro w6 st
  replace st : St [] w w6 [(b9, layV (0) ((fun _ => 0)), 30), (b8, layV (2) ((dwC (triF p q) 2 x 1)), 30), (b7, layV (2) ((dwC (triF p q) 2 x 0)), 30)] := st
  refine Wl.storeA (i := 0) (cs' := layV (2) ((dwC (triF p q) 2 x 2))) st tA_30 rfl rfl layV_len layV_one rfl (le_of_len layV_len (by omega)) (all_put layV_len) ?_
  clear st
  intro w7 st
  replace st : St [] w w7 [(b9, layV (2) ((dwC (triF p q) 2 x 2)), 30), (b8, layV (2) ((dwC (triF p q) 2 x 1)), 30), (b7, layV (2) ((dwC (triF p q) 2 x 0)), 30)] := st
  refine Wl.pure (PR.assI rfl) ?_
  refine Wl.nil ?_
  refine tn ?_
  refine Wc.seq ?_
  refine Wc.region rfl ?_
  refine Wl.pure (PR.moveI rfl) ?_
  refine Wl.pure (PR.moveI rfl) ?_
  refine Wl.pure (PR.moveI rfl) ?_
  refine Wl.callV (c_impl_TripleLayers (p := p) (q := q) (x := x) hp hq hx) rfl ?_
  intro w8 hbel
  replace st := st.call hbel
  clear hbel
  refine Wl.pure (PR.moveV (.tuple #[.agg (layV (2) ((dwC (triF p q) 2 x 0))).toArray, .agg (layV (2) ((dwC (triF p q) 2 x 1))).toArray, .agg (layV (2) ((dwC (triF p q) 2 x 2))).toArray, .int .u32 (((sdK 2 x 64 : Nat) : Int))]) rfl) ?_
  refine Wl.pure (PR.extr (i := 0) (vs := [.agg (layV (2) ((dwC (triF p q) 2 x 0))).toArray, .agg (layV (2) ((dwC (triF p q) 2 x 1))).toArray, .agg (layV (2) ((dwC (triF p q) 2 x 2))).toArray, .int .u32 (((sdK 2 x 64 : Nat) : Int))]) rfl rfl) ?_
  refine Wl.pure (PR.extr (i := 1) (vs := [.agg (layV (2) ((dwC (triF p q) 2 x 0))).toArray, .agg (layV (2) ((dwC (triF p q) 2 x 1))).toArray, .agg (layV (2) ((dwC (triF p q) 2 x 2))).toArray, .int .u32 (((sdK 2 x 64 : Nat) : Int))]) rfl rfl) ?_
  refine Wl.pure (PR.extr (i := 2) (vs := [.agg (layV (2) ((dwC (triF p q) 2 x 0))).toArray, .agg (layV (2) ((dwC (triF p q) 2 x 1))).toArray, .agg (layV (2) ((dwC (triF p q) 2 x 2))).toArray, .int .u32 (((sdK 2 x 64 : Nat) : Int))]) rfl rfl) ?_
  refine Wl.pure (PR.extr (i := 3) (vs := [.agg (layV (2) ((dwC (triF p q) 2 x 0))).toArray, .agg (layV (2) ((dwC (triF p q) 2 x 1))).toArray, .agg (layV (2) ((dwC (triF p q) 2 x 2))).toArray, .int .u32 (((sdK 2 x 64 : Nat) : Int))]) rfl rfl) ?_
  refine Wl.alloc st tZ_30 rfl ?_
  clear st
  intro b11 w9 st
  refine Wl.alloc st tZ_30 rfl ?_
  clear st
  intro b12 w10 st
  refine Wl.alloc st tZ_30 rfl ?_
  clear st
  intro b13 w11 st
  refine Wl.storeA (i := 2) (cs' := layV (2) ((dwC (triF p q) 2 x 0))) st tA_30 rfl rfl layV_len layV_one rfl (le_of_len layV_len (by omega)) (all_put layV_len) ?_
  clear st
  intro w12 st
  replace st : St [] w w12 [(b13, layV (0) ((fun _ => 0)), 30), (b12, layV (0) ((fun _ => 0)), 30), (b11, layV (2) ((dwC (triF p q) 2 x 0)), 30), (b9, layV (2) ((dwC (triF p q) 2 x 2)), 30), (b8, layV (2) ((dwC (triF p q) 2 x 1)), 30), (b7, layV (2) ((dwC (triF p q) 2 x 0)), 30)] := st
  refine Wl.storeA (i := 1) (cs' := layV (2) ((dwC (triF p q) 2 x 1))) st tA_30 rfl rfl layV_len layV_one rfl (le_of_len layV_len (by omega)) (all_put layV_len) ?_
  clear st
  intro w13 st
  replace st : St [] w w13 [(b13, layV (0) ((fun _ => 0)), 30), (b12, layV (2) ((dwC (triF p q) 2 x 1)), 30), (b11, layV (2) ((dwC (triF p q) 2 x 0)), 30), (b9, layV (2) ((dwC (triF p q) 2 x 2)), 30), (b8, layV (2) ((dwC (triF p q) 2 x 1)), 30), (b7, layV (2) ((dwC (triF p q) 2 x 0)), 30)] := st
  refine Wl.storeA (i := 0) (cs' := layV (2) ((dwC (triF p q) 2 x 2))) st tA_30 rfl rfl layV_len layV_one rfl (le_of_len layV_len (by omega)) (all_put layV_len) ?_
  clear st
  intro w14 st
  replace st : St [] w w14 [(b13, layV (2) ((dwC (triF p q) 2 x 2)), 30), (b12, layV (2) ((dwC (triF p q) 2 x 1)), 30), (b11, layV (2) ((dwC (triF p q) 2 x 0)), 30), (b9, layV (2) ((dwC (triF p q) 2 x 2)), 30), (b8, layV (2) ((dwC (triF p q) 2 x 1)), 30), (b7, layV (2) ((dwC (triF p q) 2 x 0)), 30)] := st
  refine Wl.pure (PR.assI rfl) ?_
  refine Wl.nil ?_
  refine tn ?_
  refine Wc.seq ?_
  refine Wc.seq ?_
  refine Wc.region rfl ?_
  refine Wl.loadA (i := 2) st tA_30 rfl rfl (all_sub layV_len) layV_len ?_
  refine Wl.loadA (i := 5) st tA_30 rfl rfl (all_sub layV_len) layV_len ?_
  refine Wl.callV (c_laws_eqLayer (p := 2) (c := (dwC (triF p q) 2 x 0))) rfl ?_
  intro w15 hbel
  replace st := st.call hbel
  clear hbel
  refine Wl.pure (PR.not_ rfl) ?_
  refine Wl.pure (PR.moveB rfl) ?_
  refine Wl.on rfl rfl ?_
  refine Wl.loadA (i := 1) st tA_30 rfl rfl (all_sub layV_len) layV_len ?_
  refine Wl.on rfl rfl ?_
  refine Wl.loadA (i := 4) st tA_30 rfl rfl (all_sub layV_len) layV_len ?_
  refine Wl.on rfl rfl ?_
  refine Wl.callV (c_laws_eqLayer (p := 2) (c := (dwC (triF p q) 2 x 1))) rfl ?_
  intro w16 hbel
  replace st := st.call hbel
  clear hbel
  refine Wl.on rfl rfl ?_
  refine Wl.pure (PR.not_ rfl) ?_
  refine Wl.pure (PR.pickFB rfl rfl) ?_
  refine Wl.pure (PR.moveB rfl) ?_
  refine Wl.on rfl rfl ?_
  refine Wl.loadA (i := 0) st tA_30 rfl rfl (all_sub layV_len) layV_len ?_
  refine Wl.on rfl rfl ?_
  refine Wl.loadA (i := 3) st tA_30 rfl rfl (all_sub layV_len) layV_len ?_
  refine Wl.on rfl rfl ?_
  refine Wl.callV (c_laws_eqLayer (p := 2) (c := (dwC (triF p q) 2 x 2))) rfl ?_
  intro w17 hbel
  replace st := st.call hbel
  clear hbel
  refine Wl.on rfl rfl ?_
  refine Wl.pure (PR.not_ rfl) ?_
  refine Wl.pure (PR.pickFB rfl rfl) ?_
  refine Wl.pure (PR.moveB rfl) ?_
  refine Wl.on rfl rfl ?_
  refine Wl.pure (PR.moveI rfl) ?_
  refine Wl.on rfl rfl ?_
  refine Wl.pure (PR.moveI rfl) ?_
  refine Wl.on rfl rfl ?_
  refine Wl.pure (PR.neqS (a := ((sdK 2 x 64 : Nat) : Int)) rfl rfl) ?_
  refine Wl.pure (PR.pickFB rfl rfl) ?_
  refine Wl.nil ?_
  refine tn ?_
  refine Wc.condF rfl ?_
  refine Wc.skip ?_
  refine tn ?_
  refine Wc.seq ?_
  refine Wc.region rfl ?_
  refine Wl.pure (PR.assB rfl) ?_
  refine Wl.nil ?_
  refine tn ?_
  refine Wc.ret ?_
  refine postL.tmp rfl rfl ?_
  exact RetV.of rfl st.below

end Go.Proofs.Ytajkjhjnbfcpfaa
